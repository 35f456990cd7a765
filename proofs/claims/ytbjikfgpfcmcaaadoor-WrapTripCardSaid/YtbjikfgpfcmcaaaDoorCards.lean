/-
  DERIVED. GIVEN WITH THE SEED: THE CARDS: each row of YtbjikfgpfcmcaaaDoorRows.lean that lists a variable, with what it lists TIED to the program's text (the seventh form; the later family's looks); each row that meets fmt, with fmt's text TOLD by the authors' own Lean function (tested against real Go, not proved from fmt's source: count such statements apart). THE CARD IS WHAT COUNTS. Prove the row's statement (the work); the ties are given (YtbjikfgpfcmcaaaDoorTie.lean); close each card by the builder's one call (the guide's Derived/Test/ToyasCard.lean, 'card_holds'). Laid BY PROGRAM, IN A SANDBOX (cutbox-door.mjs). By AI agents, Wed Nov 11 2026. No macro, syntax, notation, axiom, sorry.
-/
import Derived.Test.YtbjikfgpfcmcaaaDoorRows
import GoSem.ClaimSeven
namespace Go.Proofs.YtbjikfgpfcmcaaaDoor
namespace Rows

/-- THE TIED CARD OF 'sealwrightlaw7.SignerPublic'. -/
def signerPublicCard : Claim7 := { stood := { row := signerPublicRow, standIns := [], harness := (true, "0f64ba4d7d6af43a15144dc933557f4f798a13c51e7b2f1e758a7a7671cc0ae9"), looks := false }, kinds := [], alts := [], laidByText := true, laidKinds := [.data], laidTests := true, laidLooks := .later }
def SignerPublicCardSaid : Prop := Claim7.holds Tryd.pinned (.plain (OpenSpec.ofChange signerPublicSpec)) signerPublicCard

/-- THE TIED CARD OF 'sealwrightlaw7.SignerSign'. -/
def signerSignCard : Claim7 := { stood := { row := signerSignRow, standIns := [], harness := (true, "0f64ba4d7d6af43a15144dc933557f4f798a13c51e7b2f1e758a7a7671cc0ae9"), looks := false }, kinds := [], alts := [], laidByText := true, laidKinds := [.data], laidTests := true, laidLooks := .later }
def SignerSignCardSaid : Prop := Claim7.holds Tryd.pinned (.plain (OpenSpec.ofChange signerSignSpec)) signerSignCard

/-- THE TIED CARD OF 'sealwrightlaw7.SignerTrip'. -/
def signerTripCard : Claim7 := { stood := { row := signerTripRow, standIns := [], harness := (true, "0f64ba4d7d6af43a15144dc933557f4f798a13c51e7b2f1e758a7a7671cc0ae9"), looks := false }, kinds := [], alts := [], laidByText := true, laidKinds := [.data], laidTests := true, laidLooks := .later }
def SignerTripCardSaid : Prop := Claim7.holds Tryd.pinned (.plain (OpenSpec.ofChange signerTripSpec)) signerTripCard

/-- THE TIED CARD OF 'sealwrightlaw7.SignerVerify'. -/
def signerVerifyCard : Claim7 := { stood := { row := signerVerifyRow, standIns := [], harness := (true, "0f64ba4d7d6af43a15144dc933557f4f798a13c51e7b2f1e758a7a7671cc0ae9"), looks := false }, kinds := [], alts := [], laidByText := true, laidKinds := [.data], laidTests := true, laidLooks := .later }
def SignerVerifyCardSaid : Prop := Claim7.holds Tryd.pinned (.plain (OpenSpec.ofChange signerVerifySpec)) signerVerifyCard

/-- THE TIED CARD OF 'sealwrightlaw7.SignerForms'. -/
def signerFormsCard : Claim7 := { stood := { row := signerFormsRow, standIns := [], harness := (true, "0f64ba4d7d6af43a15144dc933557f4f798a13c51e7b2f1e758a7a7671cc0ae9"), looks := false }, kinds := [], alts := [], laidByText := true, laidKinds := [.data], laidTests := true, laidLooks := .later }
def SignerFormsCardSaid : Prop := Claim7.holds Tryd.pinned (.plain (OpenSpec.ofChange signerFormsSpec)) signerFormsCard

/-- THE TIED CARD OF 'sealwrightlaw7.SignerHeights'. -/
def signerHeightsCard : Claim7 := { stood := { row := signerHeightsRow, standIns := [], harness := (true, "0f64ba4d7d6af43a15144dc933557f4f798a13c51e7b2f1e758a7a7671cc0ae9"), looks := false }, kinds := [], alts := [], laidByText := true, laidKinds := [.data], laidTests := true, laidLooks := .later }
def SignerHeightsCardSaid : Prop := Claim7.holds Tryd.pinned (.plain (OpenSpec.ofChange signerHeightsSpec)) signerHeightsCard

/-- THE TIED CARD OF 'sealwrightlaw16.AttestVerify'. -/
def attestVerifyCard : Claim7 := { stood := { row := attestVerifyRow, standIns := [], harness := (true, "0f64ba4d7d6af43a15144dc933557f4f798a13c51e7b2f1e758a7a7671cc0ae9"), looks := false }, kinds := [], alts := [], laidByText := true, laidKinds := [.data], laidTests := true, laidLooks := .later }
def AttestVerifyCardSaid : Prop := Claim7.holds Tryd.pinned (.plain (OpenSpec.ofChange attestVerifySpec)) attestVerifyCard

/-- THE TIED CARD OF 'sealwrightlaw16.AttestTrip'. -/
def attestTripCard : Claim7 := { stood := { row := attestTripRow, standIns := [], harness := (true, "0f64ba4d7d6af43a15144dc933557f4f798a13c51e7b2f1e758a7a7671cc0ae9"), looks := false }, kinds := [], alts := [], laidByText := true, laidKinds := [.data], laidTests := true, laidLooks := .later }
def AttestTripCardSaid : Prop := Claim7.holds Tryd.pinned (.plain (OpenSpec.ofChange attestTripSpec)) attestTripCard

/-- THE TIED CARD OF 'sealwrightlaw16.AttestPolicy'. -/
def attestPolicyCard : Claim7 := { stood := { row := attestPolicyRow, standIns := [], harness := (true, "0f64ba4d7d6af43a15144dc933557f4f798a13c51e7b2f1e758a7a7671cc0ae9"), looks := false }, kinds := [], alts := [], laidByText := true, laidKinds := [.data], laidTests := true, laidLooks := .later }
def AttestPolicyCardSaid : Prop := Claim7.holds Tryd.pinned (.plain (OpenSpec.ofChange attestPolicySpec)) attestPolicyCard

/-- THE TIED CARD OF 'sealwrightlaw11.WrapMake'. -/
def wrapMakeCard : Claim7 := { stood := { row := wrapMakeRow, standIns := [], harness := (true, "0f64ba4d7d6af43a15144dc933557f4f798a13c51e7b2f1e758a7a7671cc0ae9"), looks := false }, kinds := [], alts := [], laidByText := true, laidKinds := [.data], laidTests := true, laidLooks := .later }
def WrapMakeCardSaid : Prop := Claim7.holds Tryd.pinned (.plain (OpenSpec.ofChange wrapMakeSpec)) wrapMakeCard

/-- THE TIED CARD OF 'sealwrightlaw11.WrapTrip'. -/
def wrapTripCard : Claim7 := { stood := { row := wrapTripRow, standIns := [], harness := (true, "0f64ba4d7d6af43a15144dc933557f4f798a13c51e7b2f1e758a7a7671cc0ae9"), looks := false }, kinds := [], alts := [], laidByText := true, laidKinds := [.data], laidTests := true, laidLooks := .later }
def WrapTripCardSaid : Prop := Claim7.holds Tryd.pinned (.plain (OpenSpec.ofChange wrapTripSpec)) wrapTripCard

/-- THE TIED CARD OF 'sealwrightlaw11.WrapUnique'. -/
def wrapUniqueCard : Claim7 := { stood := { row := wrapUniqueRow, standIns := [], harness := (true, "0f64ba4d7d6af43a15144dc933557f4f798a13c51e7b2f1e758a7a7671cc0ae9"), looks := false }, kinds := [], alts := [], laidByText := true, laidKinds := [.data], laidTests := true, laidLooks := .later }
def WrapUniqueCardSaid : Prop := Claim7.holds Tryd.pinned (.plain (OpenSpec.ofChange wrapUniqueSpec)) wrapUniqueCard

/-- THE TIED CARD OF 'sealwrightlaw11.WrapSame'. -/
def wrapSameCard : Claim7 := { stood := { row := wrapSameRow, standIns := [], harness := (true, "0f64ba4d7d6af43a15144dc933557f4f798a13c51e7b2f1e758a7a7671cc0ae9"), looks := false }, kinds := [], alts := [], laidByText := true, laidKinds := [.data], laidTests := true, laidLooks := .later }
def WrapSameCardSaid : Prop := Claim7.holds Tryd.pinned (.plain (OpenSpec.ofChange wrapSameSpec)) wrapSameCard

/-- THE SECOND FORM's CARD OF 'sealwrightlaw7.SignerPublic'. -/
def signerPublicUptoCard : Claim7 := { stood := { row := signerPublicUptoRow, standIns := [], harness := (true, "0f64ba4d7d6af43a15144dc933557f4f798a13c51e7b2f1e758a7a7671cc0ae9"), looks := false }, kinds := [], alts := [], laidByText := true, laidKinds := [.data], laidTests := true, laidLooks := .later }
def SignerPublicUptoCardSaid : Prop := Claim7.holds Tryd.pinned (.plain (OpenSpec.upto signerPublicSpec)) signerPublicUptoCard

/-- THE SECOND FORM's CARD OF 'sealwrightlaw7.SignerSign'. -/
def signerSignUptoCard : Claim7 := { stood := { row := signerSignUptoRow, standIns := [], harness := (true, "0f64ba4d7d6af43a15144dc933557f4f798a13c51e7b2f1e758a7a7671cc0ae9"), looks := false }, kinds := [], alts := [], laidByText := true, laidKinds := [.data], laidTests := true, laidLooks := .later }
def SignerSignUptoCardSaid : Prop := Claim7.holds Tryd.pinned (.plain (OpenSpec.upto signerSignSpec)) signerSignUptoCard

/-- THE SECOND FORM's CARD OF 'sealwrightlaw7.SignerTrip'. -/
def signerTripUptoCard : Claim7 := { stood := { row := signerTripUptoRow, standIns := [], harness := (true, "0f64ba4d7d6af43a15144dc933557f4f798a13c51e7b2f1e758a7a7671cc0ae9"), looks := false }, kinds := [], alts := [], laidByText := true, laidKinds := [.data], laidTests := true, laidLooks := .later }
def SignerTripUptoCardSaid : Prop := Claim7.holds Tryd.pinned (.plain (OpenSpec.upto signerTripSpec)) signerTripUptoCard

/-- THE SECOND FORM's CARD OF 'sealwrightlaw7.SignerVerify'. -/
def signerVerifyUptoCard : Claim7 := { stood := { row := signerVerifyUptoRow, standIns := [], harness := (true, "0f64ba4d7d6af43a15144dc933557f4f798a13c51e7b2f1e758a7a7671cc0ae9"), looks := false }, kinds := [], alts := [], laidByText := true, laidKinds := [.data], laidTests := true, laidLooks := .later }
def SignerVerifyUptoCardSaid : Prop := Claim7.holds Tryd.pinned (.plain (OpenSpec.upto signerVerifySpec)) signerVerifyUptoCard

/-- THE SECOND FORM's CARD OF 'sealwrightlaw7.SignerForms'. -/
def signerFormsUptoCard : Claim7 := { stood := { row := signerFormsUptoRow, standIns := [], harness := (true, "0f64ba4d7d6af43a15144dc933557f4f798a13c51e7b2f1e758a7a7671cc0ae9"), looks := false }, kinds := [], alts := [], laidByText := true, laidKinds := [.data], laidTests := true, laidLooks := .later }
def SignerFormsUptoCardSaid : Prop := Claim7.holds Tryd.pinned (.plain (OpenSpec.upto signerFormsSpec)) signerFormsUptoCard

/-- THE SECOND FORM's CARD OF 'sealwrightlaw7.SignerHeights'. -/
def signerHeightsUptoCard : Claim7 := { stood := { row := signerHeightsUptoRow, standIns := [], harness := (true, "0f64ba4d7d6af43a15144dc933557f4f798a13c51e7b2f1e758a7a7671cc0ae9"), looks := false }, kinds := [], alts := [], laidByText := true, laidKinds := [.data], laidTests := true, laidLooks := .later }
def SignerHeightsUptoCardSaid : Prop := Claim7.holds Tryd.pinned (.plain (OpenSpec.upto signerHeightsSpec)) signerHeightsUptoCard

/-- THE SECOND FORM's CARD OF 'sealwrightlaw16.AttestVerify'. -/
def attestVerifyUptoCard : Claim7 := { stood := { row := attestVerifyUptoRow, standIns := [], harness := (true, "0f64ba4d7d6af43a15144dc933557f4f798a13c51e7b2f1e758a7a7671cc0ae9"), looks := false }, kinds := [], alts := [], laidByText := true, laidKinds := [.data], laidTests := true, laidLooks := .later }
def AttestVerifyUptoCardSaid : Prop := Claim7.holds Tryd.pinned (.plain (OpenSpec.upto attestVerifySpec)) attestVerifyUptoCard

/-- THE SECOND FORM's CARD OF 'sealwrightlaw16.AttestTrip'. -/
def attestTripUptoCard : Claim7 := { stood := { row := attestTripUptoRow, standIns := [], harness := (true, "0f64ba4d7d6af43a15144dc933557f4f798a13c51e7b2f1e758a7a7671cc0ae9"), looks := false }, kinds := [], alts := [], laidByText := true, laidKinds := [.data], laidTests := true, laidLooks := .later }
def AttestTripUptoCardSaid : Prop := Claim7.holds Tryd.pinned (.plain (OpenSpec.upto attestTripSpec)) attestTripUptoCard

/-- THE SECOND FORM's CARD OF 'sealwrightlaw16.AttestPolicy'. -/
def attestPolicyUptoCard : Claim7 := { stood := { row := attestPolicyUptoRow, standIns := [], harness := (true, "0f64ba4d7d6af43a15144dc933557f4f798a13c51e7b2f1e758a7a7671cc0ae9"), looks := false }, kinds := [], alts := [], laidByText := true, laidKinds := [.data], laidTests := true, laidLooks := .later }
def AttestPolicyUptoCardSaid : Prop := Claim7.holds Tryd.pinned (.plain (OpenSpec.upto attestPolicySpec)) attestPolicyUptoCard

/-- THE SECOND FORM's CARD OF 'sealwrightlaw11.WrapMake'. -/
def wrapMakeUptoCard : Claim7 := { stood := { row := wrapMakeUptoRow, standIns := [], harness := (true, "0f64ba4d7d6af43a15144dc933557f4f798a13c51e7b2f1e758a7a7671cc0ae9"), looks := false }, kinds := [], alts := [], laidByText := true, laidKinds := [.data], laidTests := true, laidLooks := .later }
def WrapMakeUptoCardSaid : Prop := Claim7.holds Tryd.pinned (.plain (OpenSpec.upto wrapMakeSpec)) wrapMakeUptoCard

/-- THE SECOND FORM's CARD OF 'sealwrightlaw11.WrapTrip'. -/
def wrapTripUptoCard : Claim7 := { stood := { row := wrapTripUptoRow, standIns := [], harness := (true, "0f64ba4d7d6af43a15144dc933557f4f798a13c51e7b2f1e758a7a7671cc0ae9"), looks := false }, kinds := [], alts := [], laidByText := true, laidKinds := [.data], laidTests := true, laidLooks := .later }
def WrapTripUptoCardSaid : Prop := Claim7.holds Tryd.pinned (.plain (OpenSpec.upto wrapTripSpec)) wrapTripUptoCard

/-- THE SECOND FORM's CARD OF 'sealwrightlaw11.WrapUnique'. -/
def wrapUniqueUptoCard : Claim7 := { stood := { row := wrapUniqueUptoRow, standIns := [], harness := (true, "0f64ba4d7d6af43a15144dc933557f4f798a13c51e7b2f1e758a7a7671cc0ae9"), looks := false }, kinds := [], alts := [], laidByText := true, laidKinds := [.data], laidTests := true, laidLooks := .later }
def WrapUniqueUptoCardSaid : Prop := Claim7.holds Tryd.pinned (.plain (OpenSpec.upto wrapUniqueSpec)) wrapUniqueUptoCard

/-- THE SECOND FORM's CARD OF 'sealwrightlaw11.WrapSame'. -/
def wrapSameUptoCard : Claim7 := { stood := { row := wrapSameUptoRow, standIns := [], harness := (true, "0f64ba4d7d6af43a15144dc933557f4f798a13c51e7b2f1e758a7a7671cc0ae9"), looks := false }, kinds := [], alts := [], laidByText := true, laidKinds := [.data], laidTests := true, laidLooks := .later }
def WrapSameUptoCardSaid : Prop := Claim7.holds Tryd.pinned (.plain (OpenSpec.upto wrapSameSpec)) wrapSameUptoCard
end Rows
end Go.Proofs.YtbjikfgpfcmcaaaDoor
