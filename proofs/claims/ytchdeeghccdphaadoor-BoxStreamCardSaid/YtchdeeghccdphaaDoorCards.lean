/-
  DERIVED. GIVEN WITH THE SEED: THE CARDS: each row of YtchdeeghccdphaaDoorRows.lean that lists a variable, with what it lists TIED to the program's text (the seventh form; the later family's looks); each row that meets fmt, with fmt's text TOLD by the authors' own Lean function (tested against real Go, not proved from fmt's source: count such statements apart). THE CARD IS WHAT COUNTS. Prove the row's statement (the work); the ties are given (YtchdeeghccdphaaDoorTie.lean); close each card by the builder's one call (the guide's Derived/Test/ToyasCard.lean, 'card_holds'). Laid BY PROGRAM, IN A SANDBOX (cutbox-door.mjs). By AI agents, Wed Nov 11 2026. No macro, syntax, notation, axiom, sorry.
-/
import Derived.Test.YtchdeeghccdphaaDoorRows
import GoSem.ClaimSeven
namespace Go.Proofs.YtchdeeghccdphaaDoor
namespace Rows

/-- THE TIED CARD OF 'sealwrightlaw36.EvidenceSelection'. -/
def evidenceSelectionCard : Claim7 := { stood := { row := evidenceSelectionRow, standIns := [], harness := (true, "5466753d9ff7503d7e90e48bf681fd5c31bebea7c6566f999e46de334f56badc"), looks := false }, kinds := [], alts := [], laidByText := true, laidKinds := [.data], laidTests := true, laidLooks := .later }
def EvidenceSelectionCardSaid : Prop := Claim7.holds Tryd.pinned (.plain (OpenSpec.ofChange evidenceSelectionSpec)) evidenceSelectionCard

/-- THE TIED CARD OF 'sealwrightlaw36.EvidenceNonce'. -/
def evidenceNonceCard : Claim7 := { stood := { row := evidenceNonceRow, standIns := [], harness := (true, "5466753d9ff7503d7e90e48bf681fd5c31bebea7c6566f999e46de334f56badc"), looks := false }, kinds := [], alts := [], laidByText := true, laidKinds := [.data], laidTests := true, laidLooks := .later }
def EvidenceNonceCardSaid : Prop := Claim7.holds Tryd.pinned (.plain (OpenSpec.ofChange evidenceNonceSpec)) evidenceNonceCard

/-- THE TIED CARD OF 'sealwrightlaw36.EvidenceCodec'. -/
def evidenceCodecCard : Claim7 := { stood := { row := evidenceCodecRow, standIns := [], harness := (true, "5466753d9ff7503d7e90e48bf681fd5c31bebea7c6566f999e46de334f56badc"), looks := false }, kinds := [], alts := [], laidByText := true, laidKinds := [.data], laidTests := true, laidLooks := .later }
def EvidenceCodecCardSaid : Prop := Claim7.holds Tryd.pinned (.plain (OpenSpec.ofChange evidenceCodecSpec)) evidenceCodecCard

/-- THE TIED CARD OF 'sealwrightlaw36.EvidenceDecode'. -/
def evidenceDecodeCard : Claim7 := { stood := { row := evidenceDecodeRow, standIns := [], harness := (true, "5466753d9ff7503d7e90e48bf681fd5c31bebea7c6566f999e46de334f56badc"), looks := false }, kinds := [], alts := [], laidByText := true, laidKinds := [.data], laidTests := true, laidLooks := .later }
def EvidenceDecodeCardSaid : Prop := Claim7.holds Tryd.pinned (.plain (OpenSpec.ofChange evidenceDecodeSpec)) evidenceDecodeCard

/-- THE TIED CARD OF 'sealwrightlaw10.AreaCheck'. -/
def areaCheckCard : Claim7 := { stood := { row := areaCheckRow, standIns := [], harness := (true, "5466753d9ff7503d7e90e48bf681fd5c31bebea7c6566f999e46de334f56badc"), looks := false }, kinds := [], alts := [], laidByText := true, laidKinds := [.data], laidTests := true, laidLooks := .later }
def AreaCheckCardSaid : Prop := Claim7.holds Tryd.pinned (.plain (OpenSpec.ofChange areaCheckSpec)) areaCheckCard

/-- THE TIED CARD OF 'sealwrightlaw10.AreaCodec'. -/
def areaCodecCard : Claim7 := { stood := { row := areaCodecRow, standIns := [], harness := (true, "5466753d9ff7503d7e90e48bf681fd5c31bebea7c6566f999e46de334f56badc"), looks := false }, kinds := [], alts := [], laidByText := true, laidKinds := [.data], laidTests := true, laidLooks := .later }
def AreaCodecCardSaid : Prop := Claim7.holds Tryd.pinned (.plain (OpenSpec.ofChange areaCodecSpec)) areaCodecCard

/-- THE TIED CARD OF 'sealwrightlaw10.AreaDecode'. -/
def areaDecodeCard : Claim7 := { stood := { row := areaDecodeRow, standIns := [], harness := (true, "5466753d9ff7503d7e90e48bf681fd5c31bebea7c6566f999e46de334f56badc"), looks := false }, kinds := [], alts := [], laidByText := true, laidKinds := [.data], laidTests := true, laidLooks := .later }
def AreaDecodeCardSaid : Prop := Claim7.holds Tryd.pinned (.plain (OpenSpec.ofChange areaDecodeSpec)) areaDecodeCard

/-- THE TIED CARD OF 'sealwrightlaw10.AreaBinding'. -/
def areaBindingCard : Claim7 := { stood := { row := areaBindingRow, standIns := [], harness := (true, "5466753d9ff7503d7e90e48bf681fd5c31bebea7c6566f999e46de334f56badc"), looks := false }, kinds := [], alts := [], laidByText := true, laidKinds := [.data], laidTests := true, laidLooks := .later }
def AreaBindingCardSaid : Prop := Claim7.holds Tryd.pinned (.plain (OpenSpec.ofChange areaBindingSpec)) areaBindingCard

/-- THE TIED CARD OF 'sealwrightlaw10.AreaWritten'. -/
def areaWrittenCard : Claim7 := { stood := { row := areaWrittenRow, standIns := [], harness := (true, "5466753d9ff7503d7e90e48bf681fd5c31bebea7c6566f999e46de334f56badc"), looks := false }, kinds := [], alts := [], laidByText := true, laidKinds := [.data], laidTests := true, laidLooks := .later }
def AreaWrittenCardSaid : Prop := Claim7.holds Tryd.pinned (.plain (OpenSpec.ofChange areaWrittenSpec)) areaWrittenCard

/-- THE TIED CARD OF 'sealwrightlaw10.AreaNames'. -/
def areaNamesCard : Claim7 := { stood := { row := areaNamesRow, standIns := [], harness := (true, "5466753d9ff7503d7e90e48bf681fd5c31bebea7c6566f999e46de334f56badc"), looks := false }, kinds := [], alts := [], laidByText := true, laidKinds := [.data], laidTests := true, laidLooks := .later }
def AreaNamesCardSaid : Prop := Claim7.holds Tryd.pinned (.plain (OpenSpec.ofChange areaNamesSpec)) areaNamesCard

/-- THE TIED CARD OF 'sealwrightlaw4.BoxSeal'. -/
def boxSealCard : Claim7 := { stood := { row := boxSealRow, standIns := [], harness := (true, "5466753d9ff7503d7e90e48bf681fd5c31bebea7c6566f999e46de334f56badc"), looks := false }, kinds := [], alts := [], laidByText := true, laidKinds := [.data], laidTests := true, laidLooks := .later }
def BoxSealCardSaid : Prop := Claim7.holds Tryd.pinned (.plain (OpenSpec.ofChange boxSealSpec)) boxSealCard

/-- THE TIED CARD OF 'sealwrightlaw4.BoxTrip'. -/
def boxTripCard : Claim7 := { stood := { row := boxTripRow, standIns := [], harness := (true, "5466753d9ff7503d7e90e48bf681fd5c31bebea7c6566f999e46de334f56badc"), looks := false }, kinds := [], alts := [], laidByText := true, laidKinds := [.data], laidTests := true, laidLooks := .later }
def BoxTripCardSaid : Prop := Claim7.holds Tryd.pinned (.plain (OpenSpec.ofChange boxTripSpec)) boxTripCard

/-- THE TIED CARD OF 'sealwrightlaw4.BoxOpen'. -/
def boxOpenCard : Claim7 := { stood := { row := boxOpenRow, standIns := [], harness := (true, "5466753d9ff7503d7e90e48bf681fd5c31bebea7c6566f999e46de334f56badc"), looks := false }, kinds := [], alts := [], laidByText := true, laidKinds := [.data], laidTests := true, laidLooks := .later }
def BoxOpenCardSaid : Prop := Claim7.holds Tryd.pinned (.plain (OpenSpec.ofChange boxOpenSpec)) boxOpenCard

/-- THE TIED CARD OF 'sealwrightlaw4.BoxTampered'. -/
def boxTamperedCard : Claim7 := { stood := { row := boxTamperedRow, standIns := [], harness := (true, "5466753d9ff7503d7e90e48bf681fd5c31bebea7c6566f999e46de334f56badc"), looks := false }, kinds := [], alts := [], laidByText := true, laidKinds := [.data], laidTests := true, laidLooks := .later }
def BoxTamperedCardSaid : Prop := Claim7.holds Tryd.pinned (.plain (OpenSpec.ofChange boxTamperedSpec)) boxTamperedCard

/-- THE TIED CARD OF 'sealwrightlaw4.BoxKeys'. -/
def boxKeysCard : Claim7 := { stood := { row := boxKeysRow, standIns := [], harness := (true, "5466753d9ff7503d7e90e48bf681fd5c31bebea7c6566f999e46de334f56badc"), looks := false }, kinds := [], alts := [], laidByText := true, laidKinds := [.data], laidTests := true, laidLooks := .later }
def BoxKeysCardSaid : Prop := Claim7.holds Tryd.pinned (.plain (OpenSpec.ofChange boxKeysSpec)) boxKeysCard

/-- THE TIED CARD OF 'sealwrightlaw4.BoxLimits'. -/
def boxLimitsCard : Claim7 := { stood := { row := boxLimitsRow, standIns := [], harness := (true, "5466753d9ff7503d7e90e48bf681fd5c31bebea7c6566f999e46de334f56badc"), looks := false }, kinds := [], alts := [], laidByText := true, laidKinds := [.data], laidTests := true, laidLooks := .later }
def BoxLimitsCardSaid : Prop := Claim7.holds Tryd.pinned (.plain (OpenSpec.ofChange boxLimitsSpec)) boxLimitsCard

/-- THE TIED CARD OF 'sealwrightlaw4.BoxStream'. -/
def boxStreamCard : Claim7 := { stood := { row := boxStreamRow, standIns := [], harness := (true, "5466753d9ff7503d7e90e48bf681fd5c31bebea7c6566f999e46de334f56badc"), looks := false }, kinds := [], alts := [], laidByText := true, laidKinds := [.data], laidTests := true, laidLooks := .later }
def BoxStreamCardSaid : Prop := Claim7.holds Tryd.pinned (.plain (OpenSpec.ofChange boxStreamSpec)) boxStreamCard

/-- THE SECOND FORM's CARD OF 'sealwrightlaw36.EvidenceSelection'. -/
def evidenceSelectionUptoCard : Claim7 := { stood := { row := evidenceSelectionUptoRow, standIns := [], harness := (true, "5466753d9ff7503d7e90e48bf681fd5c31bebea7c6566f999e46de334f56badc"), looks := false }, kinds := [], alts := [], laidByText := true, laidKinds := [.data], laidTests := true, laidLooks := .later }
def EvidenceSelectionUptoCardSaid : Prop := Claim7.holds Tryd.pinned (.plain (OpenSpec.upto evidenceSelectionSpec)) evidenceSelectionUptoCard

/-- THE SECOND FORM's CARD OF 'sealwrightlaw36.EvidenceNonce'. -/
def evidenceNonceUptoCard : Claim7 := { stood := { row := evidenceNonceUptoRow, standIns := [], harness := (true, "5466753d9ff7503d7e90e48bf681fd5c31bebea7c6566f999e46de334f56badc"), looks := false }, kinds := [], alts := [], laidByText := true, laidKinds := [.data], laidTests := true, laidLooks := .later }
def EvidenceNonceUptoCardSaid : Prop := Claim7.holds Tryd.pinned (.plain (OpenSpec.upto evidenceNonceSpec)) evidenceNonceUptoCard

/-- THE SECOND FORM's CARD OF 'sealwrightlaw36.EvidenceCodec'. -/
def evidenceCodecUptoCard : Claim7 := { stood := { row := evidenceCodecUptoRow, standIns := [], harness := (true, "5466753d9ff7503d7e90e48bf681fd5c31bebea7c6566f999e46de334f56badc"), looks := false }, kinds := [], alts := [], laidByText := true, laidKinds := [.data], laidTests := true, laidLooks := .later }
def EvidenceCodecUptoCardSaid : Prop := Claim7.holds Tryd.pinned (.plain (OpenSpec.upto evidenceCodecSpec)) evidenceCodecUptoCard

/-- THE SECOND FORM's CARD OF 'sealwrightlaw36.EvidenceDecode'. -/
def evidenceDecodeUptoCard : Claim7 := { stood := { row := evidenceDecodeUptoRow, standIns := [], harness := (true, "5466753d9ff7503d7e90e48bf681fd5c31bebea7c6566f999e46de334f56badc"), looks := false }, kinds := [], alts := [], laidByText := true, laidKinds := [.data], laidTests := true, laidLooks := .later }
def EvidenceDecodeUptoCardSaid : Prop := Claim7.holds Tryd.pinned (.plain (OpenSpec.upto evidenceDecodeSpec)) evidenceDecodeUptoCard

/-- THE SECOND FORM's CARD OF 'sealwrightlaw10.AreaCheck'. -/
def areaCheckUptoCard : Claim7 := { stood := { row := areaCheckUptoRow, standIns := [], harness := (true, "5466753d9ff7503d7e90e48bf681fd5c31bebea7c6566f999e46de334f56badc"), looks := false }, kinds := [], alts := [], laidByText := true, laidKinds := [.data], laidTests := true, laidLooks := .later }
def AreaCheckUptoCardSaid : Prop := Claim7.holds Tryd.pinned (.plain (OpenSpec.upto areaCheckSpec)) areaCheckUptoCard

/-- THE SECOND FORM's CARD OF 'sealwrightlaw10.AreaCodec'. -/
def areaCodecUptoCard : Claim7 := { stood := { row := areaCodecUptoRow, standIns := [], harness := (true, "5466753d9ff7503d7e90e48bf681fd5c31bebea7c6566f999e46de334f56badc"), looks := false }, kinds := [], alts := [], laidByText := true, laidKinds := [.data], laidTests := true, laidLooks := .later }
def AreaCodecUptoCardSaid : Prop := Claim7.holds Tryd.pinned (.plain (OpenSpec.upto areaCodecSpec)) areaCodecUptoCard

/-- THE SECOND FORM's CARD OF 'sealwrightlaw10.AreaDecode'. -/
def areaDecodeUptoCard : Claim7 := { stood := { row := areaDecodeUptoRow, standIns := [], harness := (true, "5466753d9ff7503d7e90e48bf681fd5c31bebea7c6566f999e46de334f56badc"), looks := false }, kinds := [], alts := [], laidByText := true, laidKinds := [.data], laidTests := true, laidLooks := .later }
def AreaDecodeUptoCardSaid : Prop := Claim7.holds Tryd.pinned (.plain (OpenSpec.upto areaDecodeSpec)) areaDecodeUptoCard

/-- THE SECOND FORM's CARD OF 'sealwrightlaw10.AreaBinding'. -/
def areaBindingUptoCard : Claim7 := { stood := { row := areaBindingUptoRow, standIns := [], harness := (true, "5466753d9ff7503d7e90e48bf681fd5c31bebea7c6566f999e46de334f56badc"), looks := false }, kinds := [], alts := [], laidByText := true, laidKinds := [.data], laidTests := true, laidLooks := .later }
def AreaBindingUptoCardSaid : Prop := Claim7.holds Tryd.pinned (.plain (OpenSpec.upto areaBindingSpec)) areaBindingUptoCard

/-- THE SECOND FORM's CARD OF 'sealwrightlaw10.AreaWritten'. -/
def areaWrittenUptoCard : Claim7 := { stood := { row := areaWrittenUptoRow, standIns := [], harness := (true, "5466753d9ff7503d7e90e48bf681fd5c31bebea7c6566f999e46de334f56badc"), looks := false }, kinds := [], alts := [], laidByText := true, laidKinds := [.data], laidTests := true, laidLooks := .later }
def AreaWrittenUptoCardSaid : Prop := Claim7.holds Tryd.pinned (.plain (OpenSpec.upto areaWrittenSpec)) areaWrittenUptoCard

/-- THE SECOND FORM's CARD OF 'sealwrightlaw10.AreaNames'. -/
def areaNamesUptoCard : Claim7 := { stood := { row := areaNamesUptoRow, standIns := [], harness := (true, "5466753d9ff7503d7e90e48bf681fd5c31bebea7c6566f999e46de334f56badc"), looks := false }, kinds := [], alts := [], laidByText := true, laidKinds := [.data], laidTests := true, laidLooks := .later }
def AreaNamesUptoCardSaid : Prop := Claim7.holds Tryd.pinned (.plain (OpenSpec.upto areaNamesSpec)) areaNamesUptoCard

/-- THE SECOND FORM's CARD OF 'sealwrightlaw4.BoxSeal'. -/
def boxSealUptoCard : Claim7 := { stood := { row := boxSealUptoRow, standIns := [], harness := (true, "5466753d9ff7503d7e90e48bf681fd5c31bebea7c6566f999e46de334f56badc"), looks := false }, kinds := [], alts := [], laidByText := true, laidKinds := [.data], laidTests := true, laidLooks := .later }
def BoxSealUptoCardSaid : Prop := Claim7.holds Tryd.pinned (.plain (OpenSpec.upto boxSealSpec)) boxSealUptoCard

/-- THE SECOND FORM's CARD OF 'sealwrightlaw4.BoxTrip'. -/
def boxTripUptoCard : Claim7 := { stood := { row := boxTripUptoRow, standIns := [], harness := (true, "5466753d9ff7503d7e90e48bf681fd5c31bebea7c6566f999e46de334f56badc"), looks := false }, kinds := [], alts := [], laidByText := true, laidKinds := [.data], laidTests := true, laidLooks := .later }
def BoxTripUptoCardSaid : Prop := Claim7.holds Tryd.pinned (.plain (OpenSpec.upto boxTripSpec)) boxTripUptoCard

/-- THE SECOND FORM's CARD OF 'sealwrightlaw4.BoxOpen'. -/
def boxOpenUptoCard : Claim7 := { stood := { row := boxOpenUptoRow, standIns := [], harness := (true, "5466753d9ff7503d7e90e48bf681fd5c31bebea7c6566f999e46de334f56badc"), looks := false }, kinds := [], alts := [], laidByText := true, laidKinds := [.data], laidTests := true, laidLooks := .later }
def BoxOpenUptoCardSaid : Prop := Claim7.holds Tryd.pinned (.plain (OpenSpec.upto boxOpenSpec)) boxOpenUptoCard

/-- THE SECOND FORM's CARD OF 'sealwrightlaw4.BoxTampered'. -/
def boxTamperedUptoCard : Claim7 := { stood := { row := boxTamperedUptoRow, standIns := [], harness := (true, "5466753d9ff7503d7e90e48bf681fd5c31bebea7c6566f999e46de334f56badc"), looks := false }, kinds := [], alts := [], laidByText := true, laidKinds := [.data], laidTests := true, laidLooks := .later }
def BoxTamperedUptoCardSaid : Prop := Claim7.holds Tryd.pinned (.plain (OpenSpec.upto boxTamperedSpec)) boxTamperedUptoCard

/-- THE SECOND FORM's CARD OF 'sealwrightlaw4.BoxKeys'. -/
def boxKeysUptoCard : Claim7 := { stood := { row := boxKeysUptoRow, standIns := [], harness := (true, "5466753d9ff7503d7e90e48bf681fd5c31bebea7c6566f999e46de334f56badc"), looks := false }, kinds := [], alts := [], laidByText := true, laidKinds := [.data], laidTests := true, laidLooks := .later }
def BoxKeysUptoCardSaid : Prop := Claim7.holds Tryd.pinned (.plain (OpenSpec.upto boxKeysSpec)) boxKeysUptoCard

/-- THE SECOND FORM's CARD OF 'sealwrightlaw4.BoxLimits'. -/
def boxLimitsUptoCard : Claim7 := { stood := { row := boxLimitsUptoRow, standIns := [], harness := (true, "5466753d9ff7503d7e90e48bf681fd5c31bebea7c6566f999e46de334f56badc"), looks := false }, kinds := [], alts := [], laidByText := true, laidKinds := [.data], laidTests := true, laidLooks := .later }
def BoxLimitsUptoCardSaid : Prop := Claim7.holds Tryd.pinned (.plain (OpenSpec.upto boxLimitsSpec)) boxLimitsUptoCard

/-- THE SECOND FORM's CARD OF 'sealwrightlaw4.BoxStream'. -/
def boxStreamUptoCard : Claim7 := { stood := { row := boxStreamUptoRow, standIns := [], harness := (true, "5466753d9ff7503d7e90e48bf681fd5c31bebea7c6566f999e46de334f56badc"), looks := false }, kinds := [], alts := [], laidByText := true, laidKinds := [.data], laidTests := true, laidLooks := .later }
def BoxStreamUptoCardSaid : Prop := Claim7.holds Tryd.pinned (.plain (OpenSpec.upto boxStreamSpec)) boxStreamUptoCard
end Rows
end Go.Proofs.YtchdeeghccdphaaDoor
