/-
  DERIVED. GIVEN WITH THE SEED: THE CARDS: each row of YtfjcmolccckhhaaDoorRows.lean that lists a variable, with what it lists TIED to the program's text (the seventh form; the later family's looks); each row that meets fmt, with fmt's text TOLD by the authors' own Lean function (tested against real Go, not proved from fmt's source: count such statements apart). THE CARD IS WHAT COUNTS. Prove the row's statement (the work); the ties are given (YtfjcmolccckhhaaDoorTie.lean); close each card by the builder's one call (the guide's Derived/Test/ToyasCard.lean, 'card_holds'). Laid BY PROGRAM, IN A SANDBOX (cutbox-door.mjs). By AI agents, Wed Nov 11 2026. No macro, syntax, notation, axiom, sorry.
-/
import Derived.Test.YtfjcmolccckhhaaDoorRows
import GoSem.ClaimSeven
namespace Go.Proofs.YtfjcmolccckhhaaDoor
namespace Rows

/-- THE TIED CARD OF 'sealwrightlaw4.BoxTampered'. -/
def boxTamperedCard : Claim7 := { stood := { row := boxTamperedRow, standIns := [], harness := (true, "3c82f033ce3722c450bae958b15066b4504ff8f5d79d2b4babfe43f9907cb762"), looks := false }, kinds := [], alts := [], laidByText := true, laidKinds := [.data], laidTests := true, laidLooks := .later }
def BoxTamperedCardSaid : Prop := Claim7.holds Tryd.pinned (.plain (OpenSpec.ofChange boxTamperedSpec)) boxTamperedCard

/-- THE TIED CARD OF 'sealwrightlaw7.SignerForms'. -/
def signerFormsCard : Claim7 := { stood := { row := signerFormsRow, standIns := [], harness := (true, "3c82f033ce3722c450bae958b15066b4504ff8f5d79d2b4babfe43f9907cb762"), looks := false }, kinds := [], alts := [], laidByText := true, laidKinds := [.data], laidTests := true, laidLooks := .later }
def SignerFormsCardSaid : Prop := Claim7.holds Tryd.pinned (.plain (OpenSpec.ofChange signerFormsSpec)) signerFormsCard

/-- THE TIED CARD OF 'sealwrightlaw11.WrapMake'. -/
def wrapMakeCard : Claim7 := { stood := { row := wrapMakeRow, standIns := [], harness := (true, "3c82f033ce3722c450bae958b15066b4504ff8f5d79d2b4babfe43f9907cb762"), looks := false }, kinds := [], alts := [], laidByText := true, laidKinds := [.data], laidTests := true, laidLooks := .later }
def WrapMakeCardSaid : Prop := Claim7.holds Tryd.pinned (.plain (OpenSpec.ofChange wrapMakeSpec)) wrapMakeCard

/-- THE TIED CARD OF 'sealwrightlaw11.WrapSame'. -/
def wrapSameCard : Claim7 := { stood := { row := wrapSameRow, standIns := [], harness := (true, "3c82f033ce3722c450bae958b15066b4504ff8f5d79d2b4babfe43f9907cb762"), looks := false }, kinds := [], alts := [], laidByText := true, laidKinds := [.data], laidTests := true, laidLooks := .later }
def WrapSameCardSaid : Prop := Claim7.holds Tryd.pinned (.plain (OpenSpec.ofChange wrapSameSpec)) wrapSameCard

/-- THE SECOND FORM's CARD OF 'sealwrightlaw4.BoxTampered'. -/
def boxTamperedUptoCard : Claim7 := { stood := { row := boxTamperedUptoRow, standIns := [], harness := (true, "3c82f033ce3722c450bae958b15066b4504ff8f5d79d2b4babfe43f9907cb762"), looks := false }, kinds := [], alts := [], laidByText := true, laidKinds := [.data], laidTests := true, laidLooks := .later }
def BoxTamperedUptoCardSaid : Prop := Claim7.holds Tryd.pinned (.plain (OpenSpec.upto boxTamperedSpec)) boxTamperedUptoCard

/-- THE SECOND FORM's CARD OF 'sealwrightlaw7.SignerForms'. -/
def signerFormsUptoCard : Claim7 := { stood := { row := signerFormsUptoRow, standIns := [], harness := (true, "3c82f033ce3722c450bae958b15066b4504ff8f5d79d2b4babfe43f9907cb762"), looks := false }, kinds := [], alts := [], laidByText := true, laidKinds := [.data], laidTests := true, laidLooks := .later }
def SignerFormsUptoCardSaid : Prop := Claim7.holds Tryd.pinned (.plain (OpenSpec.upto signerFormsSpec)) signerFormsUptoCard

/-- THE SECOND FORM's CARD OF 'sealwrightlaw11.WrapMake'. -/
def wrapMakeUptoCard : Claim7 := { stood := { row := wrapMakeUptoRow, standIns := [], harness := (true, "3c82f033ce3722c450bae958b15066b4504ff8f5d79d2b4babfe43f9907cb762"), looks := false }, kinds := [], alts := [], laidByText := true, laidKinds := [.data], laidTests := true, laidLooks := .later }
def WrapMakeUptoCardSaid : Prop := Claim7.holds Tryd.pinned (.plain (OpenSpec.upto wrapMakeSpec)) wrapMakeUptoCard

/-- THE SECOND FORM's CARD OF 'sealwrightlaw11.WrapSame'. -/
def wrapSameUptoCard : Claim7 := { stood := { row := wrapSameUptoRow, standIns := [], harness := (true, "3c82f033ce3722c450bae958b15066b4504ff8f5d79d2b4babfe43f9907cb762"), looks := false }, kinds := [], alts := [], laidByText := true, laidKinds := [.data], laidTests := true, laidLooks := .later }
def WrapSameUptoCardSaid : Prop := Claim7.holds Tryd.pinned (.plain (OpenSpec.upto wrapSameSpec)) wrapSameUptoCard
end Rows
end Go.Proofs.YtfjcmolccckhhaaDoor
