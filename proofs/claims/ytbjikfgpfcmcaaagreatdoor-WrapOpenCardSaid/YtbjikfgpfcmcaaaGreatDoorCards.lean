/-
  DERIVED. GIVEN WITH THE SEED: THE CARDS: each row of YtbjikfgpfcmcaaaGreatDoorRows.lean that lists a variable, with what it lists TIED to the program's text (the seventh form; the later family's looks); each row that meets fmt, with fmt's text TOLD by the authors' own Lean function (tested against real Go, not proved from fmt's source: count such statements apart). THE CARD IS WHAT COUNTS. Prove the row's statement (the work); the ties are given (YtbjikfgpfcmcaaaGreatDoorTie.lean); close each card by the builder's one call (the guide's Derived/Test/ToyasCard.lean, 'card_holds'). Laid BY PROGRAM, IN A SANDBOX (cutbox-door.mjs). By AI agents, Wed Nov 11 2026. No macro, syntax, notation, axiom, sorry.
-/
import Derived.Test.YtbjikfgpfcmcaaaGreatDoorRows
import GoSem.ClaimSeven
namespace Go.Proofs.YtbjikfgpfcmcaaaGreatDoor
namespace Rows

/-- THE TIED CARD OF 'sealwrightlaw11.WrapPrivate'. -/
def wrapPrivateCard : Claim7 := { stood := { row := wrapPrivateRow, standIns := [], harness := (true, "9b6eb7e2be6dc18f9347737636cce837bee480f0262aca8e8829b630886d0927"), looks := false }, kinds := [], alts := [], laidByText := true, laidKinds := [.data], laidTests := true, laidLooks := .later }
def WrapPrivateCardSaid : Prop := Claim7.holds Tryz.pinned (.plain (OpenSpec.ofChange wrapPrivateSpec)) wrapPrivateCard

/-- THE TIED CARD OF 'sealwrightlaw11.WrapOpen'. -/
def wrapOpenCard : Claim7 := { stood := { row := wrapOpenRow, standIns := [], harness := (true, "9b6eb7e2be6dc18f9347737636cce837bee480f0262aca8e8829b630886d0927"), looks := false }, kinds := [], alts := [], laidByText := true, laidKinds := [.data], laidTests := true, laidLooks := .later }
def WrapOpenCardSaid : Prop := Claim7.holds Tryz.pinned (.plain (OpenSpec.ofChange wrapOpenSpec)) wrapOpenCard

/-- THE SECOND FORM's CARD OF 'sealwrightlaw11.WrapPrivate'. -/
def wrapPrivateUptoCard : Claim7 := { stood := { row := wrapPrivateUptoRow, standIns := [], harness := (true, "9b6eb7e2be6dc18f9347737636cce837bee480f0262aca8e8829b630886d0927"), looks := false }, kinds := [], alts := [], laidByText := true, laidKinds := [.data], laidTests := true, laidLooks := .later }
def WrapPrivateUptoCardSaid : Prop := Claim7.holds Tryz.pinned (.plain (OpenSpec.upto wrapPrivateSpec)) wrapPrivateUptoCard

/-- THE SECOND FORM's CARD OF 'sealwrightlaw11.WrapOpen'. -/
def wrapOpenUptoCard : Claim7 := { stood := { row := wrapOpenUptoRow, standIns := [], harness := (true, "9b6eb7e2be6dc18f9347737636cce837bee480f0262aca8e8829b630886d0927"), looks := false }, kinds := [], alts := [], laidByText := true, laidKinds := [.data], laidTests := true, laidLooks := .later }
def WrapOpenUptoCardSaid : Prop := Claim7.holds Tryz.pinned (.plain (OpenSpec.upto wrapOpenSpec)) wrapOpenUptoCard
end Rows
end Go.Proofs.YtbjikfgpfcmcaaaGreatDoor
