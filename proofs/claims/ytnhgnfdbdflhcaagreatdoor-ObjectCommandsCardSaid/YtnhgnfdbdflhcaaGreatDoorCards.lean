/-
  DERIVED. GIVEN WITH THE SEED: THE CARDS: each row of YtnhgnfdbdflhcaaGreatDoorRows.lean that lists a variable, with what it lists TIED to the program's text (the seventh form; the later family's looks); each row that meets fmt, with fmt's text TOLD by the authors' own Lean function (tested against real Go, not proved from fmt's source: count such statements apart). THE CARD IS WHAT COUNTS. Prove the row's statement (the work); the ties are given (YtnhgnfdbdflhcaaGreatDoorTie.lean); close each card by the builder's one call (the guide's Derived/Test/ToyasCard.lean, 'card_holds'). Laid BY PROGRAM, IN A SANDBOX (cutbox-door.mjs). By AI agents, Wed Nov 11 2026. No macro, syntax, notation, axiom, sorry.
-/
import Derived.Test.YtnhgnfdbdflhcaaGreatDoorRows
import GoSem.ClaimSeven
namespace Go.Proofs.YtnhgnfdbdflhcaaGreatDoor
namespace Rows

/-- THE TIED CARD OF 'sealwrightlaw21.ObjectQuote'. -/
def objectQuoteCard : Claim7 := { stood := { row := objectQuoteRow, standIns := [], harness := (true, "51f3548e164d46ebeda2c40be1b35867562c09a42cb4bbf190b19003f1f8e2c0"), looks := false }, kinds := [], alts := [], laidByText := true, laidKinds := [.data], laidTests := true, laidLooks := .later }
def ObjectQuoteCardSaid : Prop := Claim7.holds Tryz.pinned (.plain (OpenSpec.ofChange objectQuoteSpec)) objectQuoteCard

/-- THE TIED CARD OF 'sealwrightlaw21.ObjectPrimary'. -/
def objectPrimaryCard : Claim7 := { stood := { row := objectPrimaryRow, standIns := [], harness := (true, "51f3548e164d46ebeda2c40be1b35867562c09a42cb4bbf190b19003f1f8e2c0"), looks := false }, kinds := [], alts := [], laidByText := true, laidKinds := [.data], laidTests := true, laidLooks := .later }
def ObjectPrimaryCardSaid : Prop := Claim7.holds Tryz.pinned (.plain (OpenSpec.ofChange objectPrimarySpec)) objectPrimaryCard

/-- THE TIED CARD OF 'sealwrightlaw21.ObjectCommands'. -/
def objectCommandsCard : Claim7 := { stood := { row := objectCommandsRow, standIns := [], harness := (true, "51f3548e164d46ebeda2c40be1b35867562c09a42cb4bbf190b19003f1f8e2c0"), looks := false }, kinds := [], alts := [], laidByText := true, laidKinds := [.data], laidTests := true, laidLooks := .later }
def ObjectCommandsCardSaid : Prop := Claim7.holds Tryz.pinned (.plain (OpenSpec.ofChange objectCommandsSpec)) objectCommandsCard

/-- THE SECOND FORM's CARD OF 'sealwrightlaw21.ObjectQuote'. -/
def objectQuoteUptoCard : Claim7 := { stood := { row := objectQuoteUptoRow, standIns := [], harness := (true, "51f3548e164d46ebeda2c40be1b35867562c09a42cb4bbf190b19003f1f8e2c0"), looks := false }, kinds := [], alts := [], laidByText := true, laidKinds := [.data], laidTests := true, laidLooks := .later }
def ObjectQuoteUptoCardSaid : Prop := Claim7.holds Tryz.pinned (.plain (OpenSpec.upto objectQuoteSpec)) objectQuoteUptoCard

/-- THE SECOND FORM's CARD OF 'sealwrightlaw21.ObjectPrimary'. -/
def objectPrimaryUptoCard : Claim7 := { stood := { row := objectPrimaryUptoRow, standIns := [], harness := (true, "51f3548e164d46ebeda2c40be1b35867562c09a42cb4bbf190b19003f1f8e2c0"), looks := false }, kinds := [], alts := [], laidByText := true, laidKinds := [.data], laidTests := true, laidLooks := .later }
def ObjectPrimaryUptoCardSaid : Prop := Claim7.holds Tryz.pinned (.plain (OpenSpec.upto objectPrimarySpec)) objectPrimaryUptoCard

/-- THE SECOND FORM's CARD OF 'sealwrightlaw21.ObjectCommands'. -/
def objectCommandsUptoCard : Claim7 := { stood := { row := objectCommandsUptoRow, standIns := [], harness := (true, "51f3548e164d46ebeda2c40be1b35867562c09a42cb4bbf190b19003f1f8e2c0"), looks := false }, kinds := [], alts := [], laidByText := true, laidKinds := [.data], laidTests := true, laidLooks := .later }
def ObjectCommandsUptoCardSaid : Prop := Claim7.holds Tryz.pinned (.plain (OpenSpec.upto objectCommandsSpec)) objectCommandsUptoCard
end Rows
end Go.Proofs.YtnhgnfdbdflhcaaGreatDoor
