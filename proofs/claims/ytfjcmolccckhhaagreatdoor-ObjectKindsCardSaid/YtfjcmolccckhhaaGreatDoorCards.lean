/-
  DERIVED. GIVEN WITH THE SEED: THE CARDS: each row of YtfjcmolccckhhaaGreatDoorRows.lean that lists a variable, with what it lists TIED to the program's text (the seventh form; the later family's looks); each row that meets fmt, with fmt's text TOLD by the authors' own Lean function (tested against real Go, not proved from fmt's source: count such statements apart). THE CARD IS WHAT COUNTS. Prove the row's statement (the work); the ties are given (YtfjcmolccckhhaaGreatDoorTie.lean); close each card by the builder's one call (the guide's Derived/Test/ToyasCard.lean, 'card_holds'). Laid BY PROGRAM, IN A SANDBOX (cutbox-door.mjs). By AI agents, Wed Nov 11 2026. No macro, syntax, notation, axiom, sorry.
-/
import Derived.Test.YtfjcmolccckhhaaGreatDoorRows
import GoSem.ClaimSeven
namespace Go.Proofs.YtfjcmolccckhhaaGreatDoor
namespace Rows

/-- THE TIED CARD OF 'sealwrightlaw21.ObjectSame'. -/
def objectSameCard : Claim7 := { stood := { row := objectSameRow, standIns := [], harness := (true, "f2a7607ed682dd17e1f90a38c872927d0bd4b9cec7d119bb51ec24a9484ac260"), looks := false }, kinds := [], alts := [], laidByText := true, laidKinds := [.data], laidTests := true, laidLooks := .later }
def ObjectSameCardSaid : Prop := Claim7.holds Tryz.pinned (.plain (OpenSpec.ofChange objectSameSpec)) objectSameCard

/-- THE TIED CARD OF 'sealwrightlaw21.ObjectLeaves'. -/
def objectLeavesCard : Claim7 := { stood := { row := objectLeavesRow, standIns := [], harness := (true, "f2a7607ed682dd17e1f90a38c872927d0bd4b9cec7d119bb51ec24a9484ac260"), looks := false }, kinds := [], alts := [], laidByText := true, laidKinds := [.data], laidTests := true, laidLooks := .later }
def ObjectLeavesCardSaid : Prop := Claim7.holds Tryz.pinned (.plain (OpenSpec.ofChange objectLeavesSpec)) objectLeavesCard

/-- THE TIED CARD OF 'sealwrightlaw21.ObjectQuote'. -/
def objectQuoteCard : Claim7 := { stood := { row := objectQuoteRow, standIns := [], harness := (true, "f2a7607ed682dd17e1f90a38c872927d0bd4b9cec7d119bb51ec24a9484ac260"), looks := false }, kinds := [], alts := [], laidByText := true, laidKinds := [.data], laidTests := true, laidLooks := .later }
def ObjectQuoteCardSaid : Prop := Claim7.holds Tryz.pinned (.plain (OpenSpec.ofChange objectQuoteSpec)) objectQuoteCard

/-- THE TIED CARD OF 'sealwrightlaw21.ObjectTrip'. -/
def objectTripCard : Claim7 := { stood := { row := objectTripRow, standIns := [], harness := (true, "f2a7607ed682dd17e1f90a38c872927d0bd4b9cec7d119bb51ec24a9484ac260"), looks := false }, kinds := [], alts := [], laidByText := true, laidKinds := [.data], laidTests := true, laidLooks := .later }
def ObjectTripCardSaid : Prop := Claim7.holds Tryz.pinned (.plain (OpenSpec.ofChange objectTripSpec)) objectTripCard

/-- THE TIED CARD OF 'sealwrightlaw21.ObjectKinds'. -/
def objectKindsCard : Claim7 := { stood := { row := objectKindsRow, standIns := [], harness := (true, "f2a7607ed682dd17e1f90a38c872927d0bd4b9cec7d119bb51ec24a9484ac260"), looks := false }, kinds := [], alts := [], laidByText := true, laidKinds := [.data], laidTests := true, laidLooks := .later }
def ObjectKindsCardSaid : Prop := Claim7.holds Tryz.pinned (.plain (OpenSpec.ofChange objectKindsSpec)) objectKindsCard

/-- THE TIED CARD OF 'sealwrightlaw21.ObjectPrimary'. -/
def objectPrimaryCard : Claim7 := { stood := { row := objectPrimaryRow, standIns := [], harness := (true, "f2a7607ed682dd17e1f90a38c872927d0bd4b9cec7d119bb51ec24a9484ac260"), looks := false }, kinds := [], alts := [], laidByText := true, laidKinds := [.data], laidTests := true, laidLooks := .later }
def ObjectPrimaryCardSaid : Prop := Claim7.holds Tryz.pinned (.plain (OpenSpec.ofChange objectPrimarySpec)) objectPrimaryCard

/-- THE TIED CARD OF 'sealwrightlaw21.ObjectCommands'. -/
def objectCommandsCard : Claim7 := { stood := { row := objectCommandsRow, standIns := [], harness := (true, "f2a7607ed682dd17e1f90a38c872927d0bd4b9cec7d119bb51ec24a9484ac260"), looks := false }, kinds := [], alts := [], laidByText := true, laidKinds := [.data], laidTests := true, laidLooks := .later }
def ObjectCommandsCardSaid : Prop := Claim7.holds Tryz.pinned (.plain (OpenSpec.ofChange objectCommandsSpec)) objectCommandsCard

/-- THE SECOND FORM's CARD OF 'sealwrightlaw21.ObjectSame'. -/
def objectSameUptoCard : Claim7 := { stood := { row := objectSameUptoRow, standIns := [], harness := (true, "f2a7607ed682dd17e1f90a38c872927d0bd4b9cec7d119bb51ec24a9484ac260"), looks := false }, kinds := [], alts := [], laidByText := true, laidKinds := [.data], laidTests := true, laidLooks := .later }
def ObjectSameUptoCardSaid : Prop := Claim7.holds Tryz.pinned (.plain (OpenSpec.upto objectSameSpec)) objectSameUptoCard

/-- THE SECOND FORM's CARD OF 'sealwrightlaw21.ObjectLeaves'. -/
def objectLeavesUptoCard : Claim7 := { stood := { row := objectLeavesUptoRow, standIns := [], harness := (true, "f2a7607ed682dd17e1f90a38c872927d0bd4b9cec7d119bb51ec24a9484ac260"), looks := false }, kinds := [], alts := [], laidByText := true, laidKinds := [.data], laidTests := true, laidLooks := .later }
def ObjectLeavesUptoCardSaid : Prop := Claim7.holds Tryz.pinned (.plain (OpenSpec.upto objectLeavesSpec)) objectLeavesUptoCard

/-- THE SECOND FORM's CARD OF 'sealwrightlaw21.ObjectQuote'. -/
def objectQuoteUptoCard : Claim7 := { stood := { row := objectQuoteUptoRow, standIns := [], harness := (true, "f2a7607ed682dd17e1f90a38c872927d0bd4b9cec7d119bb51ec24a9484ac260"), looks := false }, kinds := [], alts := [], laidByText := true, laidKinds := [.data], laidTests := true, laidLooks := .later }
def ObjectQuoteUptoCardSaid : Prop := Claim7.holds Tryz.pinned (.plain (OpenSpec.upto objectQuoteSpec)) objectQuoteUptoCard

/-- THE SECOND FORM's CARD OF 'sealwrightlaw21.ObjectTrip'. -/
def objectTripUptoCard : Claim7 := { stood := { row := objectTripUptoRow, standIns := [], harness := (true, "f2a7607ed682dd17e1f90a38c872927d0bd4b9cec7d119bb51ec24a9484ac260"), looks := false }, kinds := [], alts := [], laidByText := true, laidKinds := [.data], laidTests := true, laidLooks := .later }
def ObjectTripUptoCardSaid : Prop := Claim7.holds Tryz.pinned (.plain (OpenSpec.upto objectTripSpec)) objectTripUptoCard

/-- THE SECOND FORM's CARD OF 'sealwrightlaw21.ObjectKinds'. -/
def objectKindsUptoCard : Claim7 := { stood := { row := objectKindsUptoRow, standIns := [], harness := (true, "f2a7607ed682dd17e1f90a38c872927d0bd4b9cec7d119bb51ec24a9484ac260"), looks := false }, kinds := [], alts := [], laidByText := true, laidKinds := [.data], laidTests := true, laidLooks := .later }
def ObjectKindsUptoCardSaid : Prop := Claim7.holds Tryz.pinned (.plain (OpenSpec.upto objectKindsSpec)) objectKindsUptoCard

/-- THE SECOND FORM's CARD OF 'sealwrightlaw21.ObjectPrimary'. -/
def objectPrimaryUptoCard : Claim7 := { stood := { row := objectPrimaryUptoRow, standIns := [], harness := (true, "f2a7607ed682dd17e1f90a38c872927d0bd4b9cec7d119bb51ec24a9484ac260"), looks := false }, kinds := [], alts := [], laidByText := true, laidKinds := [.data], laidTests := true, laidLooks := .later }
def ObjectPrimaryUptoCardSaid : Prop := Claim7.holds Tryz.pinned (.plain (OpenSpec.upto objectPrimarySpec)) objectPrimaryUptoCard

/-- THE SECOND FORM's CARD OF 'sealwrightlaw21.ObjectCommands'. -/
def objectCommandsUptoCard : Claim7 := { stood := { row := objectCommandsUptoRow, standIns := [], harness := (true, "f2a7607ed682dd17e1f90a38c872927d0bd4b9cec7d119bb51ec24a9484ac260"), looks := false }, kinds := [], alts := [], laidByText := true, laidKinds := [.data], laidTests := true, laidLooks := .later }
def ObjectCommandsUptoCardSaid : Prop := Claim7.holds Tryz.pinned (.plain (OpenSpec.upto objectCommandsSpec)) objectCommandsUptoCard
end Rows
end Go.Proofs.YtfjcmolccckhhaaGreatDoor
