/-
  DERIVED. GIVEN WITH THE SEED: THE CARDS: each row of YtanagnimhaemgaaGreatDoorRows.lean that lists a variable, with what it lists TIED to the program's text (the seventh form; the later family's looks); each row that meets fmt, with fmt's text TOLD by the authors' own Lean function (tested against real Go, not proved from fmt's source: count such statements apart). THE CARD IS WHAT COUNTS. Prove the row's statement (the work); the ties are given (YtanagnimhaemgaaGreatDoorTie.lean); close each card by the builder's one call (the guide's Derived/Test/ToyasCard.lean, 'card_holds'). Laid BY PROGRAM, IN A SANDBOX (cutbox-door.mjs). By AI agents, Wed Nov 11 2026. No macro, syntax, notation, axiom, sorry.
-/
import Derived.Test.YtanagnimhaemgaaGreatDoorRows
import GoSem.ClaimSeven
namespace Go.Proofs.YtanagnimhaemgaaGreatDoor
namespace Rows

/-- THE TIED CARD OF 'sealwrighttop.TopLockout'. -/
def topLockoutCard : Claim7 := { stood := { row := topLockoutRow, standIns := [], harness := (true, "26a9aa5e9a9eea54ae90698ef1336e6349e59f651229ca4628f73f82eb4c7de1"), looks := false }, kinds := [], alts := [], laidByText := true, laidKinds := [.data, .widerDeep, .data, .data, .pinned], laidTests := true, laidLooks := .later }
def TopLockoutCardSaid : Prop := Claim7.holds Tryz.pinned (.plain (OpenSpec.ofChange topLockoutSpec)) topLockoutCard

/-- THE TIED CARD OF 'sealwrighttop.TopReplay'. -/
def topReplayCard : Claim7 := { stood := { row := topReplayRow, standIns := [], harness := (true, "26a9aa5e9a9eea54ae90698ef1336e6349e59f651229ca4628f73f82eb4c7de1"), looks := false }, kinds := [], alts := [], laidByText := true, laidKinds := [.data, .widerDeep, .data, .data, .pinned], laidTests := true, laidLooks := .later }
def TopReplayCardSaid : Prop := Claim7.holds Tryz.pinned (.plain (OpenSpec.ofChange topReplaySpec)) topReplayCard

/-- THE TIED CARD OF 'sealwrighttop.TopQuotes'. -/
def topQuotesCard : Claim7 := { stood := { row := topQuotesRow, standIns := [], harness := (true, "26a9aa5e9a9eea54ae90698ef1336e6349e59f651229ca4628f73f82eb4c7de1"), looks := false }, kinds := [], alts := [], laidByText := true, laidKinds := [.data, .widerDeep, .data, .data, .pinned], laidTests := true, laidLooks := .later }
def TopQuotesCardSaid : Prop := Claim7.holds Tryz.pinned (.plain (OpenSpec.ofChange topQuotesSpec)) topQuotesCard

/-- THE TIED CARD OF 'sealwrighttop.TopClear'. -/
def topClearCard : Claim7 := { stood := { row := topClearRow, standIns := [], harness := (true, "26a9aa5e9a9eea54ae90698ef1336e6349e59f651229ca4628f73f82eb4c7de1"), looks := false }, kinds := [], alts := [], laidByText := true, laidKinds := [.data, .widerDeep, .data, .data, .pinned], laidTests := true, laidLooks := .later }
def TopClearCardSaid : Prop := Claim7.holds Tryz.pinned (.plain (OpenSpec.ofChange topClearSpec)) topClearCard

/-- THE SECOND FORM's CARD OF 'sealwrighttop.TopLockout'. -/
def topLockoutUptoCard : Claim7 := { stood := { row := topLockoutUptoRow, standIns := [], harness := (true, "26a9aa5e9a9eea54ae90698ef1336e6349e59f651229ca4628f73f82eb4c7de1"), looks := false }, kinds := [], alts := [], laidByText := true, laidKinds := [.data, .widerDeep, .data, .data, .pinned], laidTests := true, laidLooks := .later }
def TopLockoutUptoCardSaid : Prop := Claim7.holds Tryz.pinned (.plain (OpenSpec.upto topLockoutSpec)) topLockoutUptoCard

/-- THE SECOND FORM's CARD OF 'sealwrighttop.TopReplay'. -/
def topReplayUptoCard : Claim7 := { stood := { row := topReplayUptoRow, standIns := [], harness := (true, "26a9aa5e9a9eea54ae90698ef1336e6349e59f651229ca4628f73f82eb4c7de1"), looks := false }, kinds := [], alts := [], laidByText := true, laidKinds := [.data, .widerDeep, .data, .data, .pinned], laidTests := true, laidLooks := .later }
def TopReplayUptoCardSaid : Prop := Claim7.holds Tryz.pinned (.plain (OpenSpec.upto topReplaySpec)) topReplayUptoCard

/-- THE SECOND FORM's CARD OF 'sealwrighttop.TopQuotes'. -/
def topQuotesUptoCard : Claim7 := { stood := { row := topQuotesUptoRow, standIns := [], harness := (true, "26a9aa5e9a9eea54ae90698ef1336e6349e59f651229ca4628f73f82eb4c7de1"), looks := false }, kinds := [], alts := [], laidByText := true, laidKinds := [.data, .widerDeep, .data, .data, .pinned], laidTests := true, laidLooks := .later }
def TopQuotesUptoCardSaid : Prop := Claim7.holds Tryz.pinned (.plain (OpenSpec.upto topQuotesSpec)) topQuotesUptoCard

/-- THE SECOND FORM's CARD OF 'sealwrighttop.TopClear'. -/
def topClearUptoCard : Claim7 := { stood := { row := topClearUptoRow, standIns := [], harness := (true, "26a9aa5e9a9eea54ae90698ef1336e6349e59f651229ca4628f73f82eb4c7de1"), looks := false }, kinds := [], alts := [], laidByText := true, laidKinds := [.data, .widerDeep, .data, .data, .pinned], laidTests := true, laidLooks := .later }
def TopClearUptoCardSaid : Prop := Claim7.holds Tryz.pinned (.plain (OpenSpec.upto topClearSpec)) topClearUptoCard
end Rows
end Go.Proofs.YtanagnimhaemgaaGreatDoor
