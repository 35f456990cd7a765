/-
  DERIVED. GIVEN WITH THE SEED: THE CARDS: each row of YtlaglaehkhmklaaDoorRows.lean that lists a variable, with what it lists TIED to the program's text (the seventh form; the later family's looks); each row that meets fmt, with fmt's text TOLD by the authors' own Lean function (tested against real Go, not proved from fmt's source: count such statements apart). THE CARD IS WHAT COUNTS. Prove the row's statement (the work); the ties are given (YtlaglaehkhmklaaDoorTie.lean); close each card by the builder's one call (the guide's Derived/Test/ToyasCard.lean, 'card_holds'). Laid BY PROGRAM, IN A SANDBOX (cutbox-door.mjs). By AI agents, Wed Nov 11 2026. No macro, syntax, notation, axiom, sorry.
-/
import Derived.Test.YtlaglaehkhmklaaDoorRows
import GoSem.ClaimSeven
namespace Go.Proofs.YtlaglaehkhmklaaDoor
namespace Rows

/-- THE TIED CARD OF 'sealwrightlaw6.TreeRoot'. -/
def treeRootCard : Claim7 := { stood := { row := treeRootRow, standIns := [], harness := (true, "30ff800ff4888f9a927d2301551272efdb28427e65d852c5d710d8346c96bf19"), looks := false }, kinds := [], alts := [], laidByText := true, laidKinds := [.data], laidTests := true, laidLooks := .later }
def TreeRootCardSaid : Prop := Claim7.holds Tryd.pinned (.plain (OpenSpec.ofChange treeRootSpec)) treeRootCard

/-- THE TIED CARD OF 'sealwrightlaw6.TreePath'. -/
def treePathCard : Claim7 := { stood := { row := treePathRow, standIns := [], harness := (true, "30ff800ff4888f9a927d2301551272efdb28427e65d852c5d710d8346c96bf19"), looks := false }, kinds := [], alts := [], laidByText := true, laidKinds := [.data], laidTests := true, laidLooks := .later }
def TreePathCardSaid : Prop := Claim7.holds Tryd.pinned (.plain (OpenSpec.ofChange treePathSpec)) treePathCard

/-- THE TIED CARD OF 'sealwrightlaw6.TreeClimb'. -/
def treeClimbCard : Claim7 := { stood := { row := treeClimbRow, standIns := [], harness := (true, "30ff800ff4888f9a927d2301551272efdb28427e65d852c5d710d8346c96bf19"), looks := false }, kinds := [], alts := [], laidByText := true, laidKinds := [.data], laidTests := true, laidLooks := .later }
def TreeClimbCardSaid : Prop := Claim7.holds Tryd.pinned (.plain (OpenSpec.ofChange treeClimbSpec)) treeClimbCard

/-- THE TIED CARD OF 'sealwrightlaw6.TreeTrip'. -/
def treeTripCard : Claim7 := { stood := { row := treeTripRow, standIns := [], harness := (true, "30ff800ff4888f9a927d2301551272efdb28427e65d852c5d710d8346c96bf19"), looks := false }, kinds := [], alts := [], laidByText := true, laidKinds := [.data], laidTests := true, laidLooks := .later }
def TreeTripCardSaid : Prop := Claim7.holds Tryd.pinned (.plain (OpenSpec.ofChange treeTripSpec)) treeTripCard

/-- THE TIED CARD OF 'sealwrightlaw6.TreeBinding'. -/
def treeBindingCard : Claim7 := { stood := { row := treeBindingRow, standIns := [], harness := (true, "30ff800ff4888f9a927d2301551272efdb28427e65d852c5d710d8346c96bf19"), looks := false }, kinds := [], alts := [], laidByText := true, laidKinds := [.data], laidTests := true, laidLooks := .later }
def TreeBindingCardSaid : Prop := Claim7.holds Tryd.pinned (.plain (OpenSpec.ofChange treeBindingSpec)) treeBindingCard

/-- THE TIED CARD OF 'sealwrightlaw6.TreeSwap'. -/
def treeSwapCard : Claim7 := { stood := { row := treeSwapRow, standIns := [], harness := (true, "30ff800ff4888f9a927d2301551272efdb28427e65d852c5d710d8346c96bf19"), looks := false }, kinds := [], alts := [], laidByText := true, laidKinds := [.data], laidTests := true, laidLooks := .later }
def TreeSwapCardSaid : Prop := Claim7.holds Tryd.pinned (.plain (OpenSpec.ofChange treeSwapSpec)) treeSwapCard

/-- THE TIED CARD OF 'sealwrightlaw5.OnetimeDigits'. -/
def onetimeDigitsCard : Claim7 := { stood := { row := onetimeDigitsRow, standIns := [], harness := (true, "30ff800ff4888f9a927d2301551272efdb28427e65d852c5d710d8346c96bf19"), looks := false }, kinds := [], alts := [], laidByText := true, laidKinds := [.data], laidTests := true, laidLooks := .later }
def OnetimeDigitsCardSaid : Prop := Claim7.holds Tryd.pinned (.plain (OpenSpec.ofChange onetimeDigitsSpec)) onetimeDigitsCard

/-- THE TIED CARD OF 'sealwrightlaw5.OnetimeChecksum'. -/
def onetimeChecksumCard : Claim7 := { stood := { row := onetimeChecksumRow, standIns := [], harness := (true, "30ff800ff4888f9a927d2301551272efdb28427e65d852c5d710d8346c96bf19"), looks := false }, kinds := [], alts := [], laidByText := true, laidKinds := [.data], laidTests := true, laidLooks := .later }
def OnetimeChecksumCardSaid : Prop := Claim7.holds Tryd.pinned (.plain (OpenSpec.ofChange onetimeChecksumSpec)) onetimeChecksumCard

/-- THE TIED CARD OF 'sealwrightlaw5.OnetimePublic'. -/
def onetimePublicCard : Claim7 := { stood := { row := onetimePublicRow, standIns := [], harness := (true, "30ff800ff4888f9a927d2301551272efdb28427e65d852c5d710d8346c96bf19"), looks := false }, kinds := [], alts := [], laidByText := true, laidKinds := [.data], laidTests := true, laidLooks := .later }
def OnetimePublicCardSaid : Prop := Claim7.holds Tryd.pinned (.plain (OpenSpec.ofChange onetimePublicSpec)) onetimePublicCard

/-- THE TIED CARD OF 'sealwrightlaw5.OnetimeSign'. -/
def onetimeSignCard : Claim7 := { stood := { row := onetimeSignRow, standIns := [], harness := (true, "30ff800ff4888f9a927d2301551272efdb28427e65d852c5d710d8346c96bf19"), looks := false }, kinds := [], alts := [], laidByText := true, laidKinds := [.data], laidTests := true, laidLooks := .later }
def OnetimeSignCardSaid : Prop := Claim7.holds Tryd.pinned (.plain (OpenSpec.ofChange onetimeSignSpec)) onetimeSignCard

/-- THE TIED CARD OF 'sealwrightlaw5.OnetimeRecover'. -/
def onetimeRecoverCard : Claim7 := { stood := { row := onetimeRecoverRow, standIns := [], harness := (true, "30ff800ff4888f9a927d2301551272efdb28427e65d852c5d710d8346c96bf19"), looks := false }, kinds := [], alts := [], laidByText := true, laidKinds := [.data], laidTests := true, laidLooks := .later }
def OnetimeRecoverCardSaid : Prop := Claim7.holds Tryd.pinned (.plain (OpenSpec.ofChange onetimeRecoverSpec)) onetimeRecoverCard

/-- THE TIED CARD OF 'sealwrightlaw5.OnetimeTrip'. -/
def onetimeTripCard : Claim7 := { stood := { row := onetimeTripRow, standIns := [], harness := (true, "30ff800ff4888f9a927d2301551272efdb28427e65d852c5d710d8346c96bf19"), looks := false }, kinds := [], alts := [], laidByText := true, laidKinds := [.data], laidTests := true, laidLooks := .later }
def OnetimeTripCardSaid : Prop := Claim7.holds Tryd.pinned (.plain (OpenSpec.ofChange onetimeTripSpec)) onetimeTripCard

/-- THE TIED CARD OF 'sealwrightlaw5.OnetimeCross'. -/
def onetimeCrossCard : Claim7 := { stood := { row := onetimeCrossRow, standIns := [], harness := (true, "30ff800ff4888f9a927d2301551272efdb28427e65d852c5d710d8346c96bf19"), looks := false }, kinds := [], alts := [], laidByText := true, laidKinds := [.data], laidTests := true, laidLooks := .later }
def OnetimeCrossCardSaid : Prop := Claim7.holds Tryd.pinned (.plain (OpenSpec.ofChange onetimeCrossSpec)) onetimeCrossCard

/-- THE SECOND FORM's CARD OF 'sealwrightlaw6.TreeRoot'. -/
def treeRootUptoCard : Claim7 := { stood := { row := treeRootUptoRow, standIns := [], harness := (true, "30ff800ff4888f9a927d2301551272efdb28427e65d852c5d710d8346c96bf19"), looks := false }, kinds := [], alts := [], laidByText := true, laidKinds := [.data], laidTests := true, laidLooks := .later }
def TreeRootUptoCardSaid : Prop := Claim7.holds Tryd.pinned (.plain (OpenSpec.upto treeRootSpec)) treeRootUptoCard

/-- THE SECOND FORM's CARD OF 'sealwrightlaw6.TreePath'. -/
def treePathUptoCard : Claim7 := { stood := { row := treePathUptoRow, standIns := [], harness := (true, "30ff800ff4888f9a927d2301551272efdb28427e65d852c5d710d8346c96bf19"), looks := false }, kinds := [], alts := [], laidByText := true, laidKinds := [.data], laidTests := true, laidLooks := .later }
def TreePathUptoCardSaid : Prop := Claim7.holds Tryd.pinned (.plain (OpenSpec.upto treePathSpec)) treePathUptoCard

/-- THE SECOND FORM's CARD OF 'sealwrightlaw6.TreeClimb'. -/
def treeClimbUptoCard : Claim7 := { stood := { row := treeClimbUptoRow, standIns := [], harness := (true, "30ff800ff4888f9a927d2301551272efdb28427e65d852c5d710d8346c96bf19"), looks := false }, kinds := [], alts := [], laidByText := true, laidKinds := [.data], laidTests := true, laidLooks := .later }
def TreeClimbUptoCardSaid : Prop := Claim7.holds Tryd.pinned (.plain (OpenSpec.upto treeClimbSpec)) treeClimbUptoCard

/-- THE SECOND FORM's CARD OF 'sealwrightlaw6.TreeTrip'. -/
def treeTripUptoCard : Claim7 := { stood := { row := treeTripUptoRow, standIns := [], harness := (true, "30ff800ff4888f9a927d2301551272efdb28427e65d852c5d710d8346c96bf19"), looks := false }, kinds := [], alts := [], laidByText := true, laidKinds := [.data], laidTests := true, laidLooks := .later }
def TreeTripUptoCardSaid : Prop := Claim7.holds Tryd.pinned (.plain (OpenSpec.upto treeTripSpec)) treeTripUptoCard

/-- THE SECOND FORM's CARD OF 'sealwrightlaw6.TreeBinding'. -/
def treeBindingUptoCard : Claim7 := { stood := { row := treeBindingUptoRow, standIns := [], harness := (true, "30ff800ff4888f9a927d2301551272efdb28427e65d852c5d710d8346c96bf19"), looks := false }, kinds := [], alts := [], laidByText := true, laidKinds := [.data], laidTests := true, laidLooks := .later }
def TreeBindingUptoCardSaid : Prop := Claim7.holds Tryd.pinned (.plain (OpenSpec.upto treeBindingSpec)) treeBindingUptoCard

/-- THE SECOND FORM's CARD OF 'sealwrightlaw6.TreeSwap'. -/
def treeSwapUptoCard : Claim7 := { stood := { row := treeSwapUptoRow, standIns := [], harness := (true, "30ff800ff4888f9a927d2301551272efdb28427e65d852c5d710d8346c96bf19"), looks := false }, kinds := [], alts := [], laidByText := true, laidKinds := [.data], laidTests := true, laidLooks := .later }
def TreeSwapUptoCardSaid : Prop := Claim7.holds Tryd.pinned (.plain (OpenSpec.upto treeSwapSpec)) treeSwapUptoCard

/-- THE SECOND FORM's CARD OF 'sealwrightlaw5.OnetimeDigits'. -/
def onetimeDigitsUptoCard : Claim7 := { stood := { row := onetimeDigitsUptoRow, standIns := [], harness := (true, "30ff800ff4888f9a927d2301551272efdb28427e65d852c5d710d8346c96bf19"), looks := false }, kinds := [], alts := [], laidByText := true, laidKinds := [.data], laidTests := true, laidLooks := .later }
def OnetimeDigitsUptoCardSaid : Prop := Claim7.holds Tryd.pinned (.plain (OpenSpec.upto onetimeDigitsSpec)) onetimeDigitsUptoCard

/-- THE SECOND FORM's CARD OF 'sealwrightlaw5.OnetimeChecksum'. -/
def onetimeChecksumUptoCard : Claim7 := { stood := { row := onetimeChecksumUptoRow, standIns := [], harness := (true, "30ff800ff4888f9a927d2301551272efdb28427e65d852c5d710d8346c96bf19"), looks := false }, kinds := [], alts := [], laidByText := true, laidKinds := [.data], laidTests := true, laidLooks := .later }
def OnetimeChecksumUptoCardSaid : Prop := Claim7.holds Tryd.pinned (.plain (OpenSpec.upto onetimeChecksumSpec)) onetimeChecksumUptoCard

/-- THE SECOND FORM's CARD OF 'sealwrightlaw5.OnetimePublic'. -/
def onetimePublicUptoCard : Claim7 := { stood := { row := onetimePublicUptoRow, standIns := [], harness := (true, "30ff800ff4888f9a927d2301551272efdb28427e65d852c5d710d8346c96bf19"), looks := false }, kinds := [], alts := [], laidByText := true, laidKinds := [.data], laidTests := true, laidLooks := .later }
def OnetimePublicUptoCardSaid : Prop := Claim7.holds Tryd.pinned (.plain (OpenSpec.upto onetimePublicSpec)) onetimePublicUptoCard

/-- THE SECOND FORM's CARD OF 'sealwrightlaw5.OnetimeSign'. -/
def onetimeSignUptoCard : Claim7 := { stood := { row := onetimeSignUptoRow, standIns := [], harness := (true, "30ff800ff4888f9a927d2301551272efdb28427e65d852c5d710d8346c96bf19"), looks := false }, kinds := [], alts := [], laidByText := true, laidKinds := [.data], laidTests := true, laidLooks := .later }
def OnetimeSignUptoCardSaid : Prop := Claim7.holds Tryd.pinned (.plain (OpenSpec.upto onetimeSignSpec)) onetimeSignUptoCard

/-- THE SECOND FORM's CARD OF 'sealwrightlaw5.OnetimeRecover'. -/
def onetimeRecoverUptoCard : Claim7 := { stood := { row := onetimeRecoverUptoRow, standIns := [], harness := (true, "30ff800ff4888f9a927d2301551272efdb28427e65d852c5d710d8346c96bf19"), looks := false }, kinds := [], alts := [], laidByText := true, laidKinds := [.data], laidTests := true, laidLooks := .later }
def OnetimeRecoverUptoCardSaid : Prop := Claim7.holds Tryd.pinned (.plain (OpenSpec.upto onetimeRecoverSpec)) onetimeRecoverUptoCard

/-- THE SECOND FORM's CARD OF 'sealwrightlaw5.OnetimeTrip'. -/
def onetimeTripUptoCard : Claim7 := { stood := { row := onetimeTripUptoRow, standIns := [], harness := (true, "30ff800ff4888f9a927d2301551272efdb28427e65d852c5d710d8346c96bf19"), looks := false }, kinds := [], alts := [], laidByText := true, laidKinds := [.data], laidTests := true, laidLooks := .later }
def OnetimeTripUptoCardSaid : Prop := Claim7.holds Tryd.pinned (.plain (OpenSpec.upto onetimeTripSpec)) onetimeTripUptoCard

/-- THE SECOND FORM's CARD OF 'sealwrightlaw5.OnetimeCross'. -/
def onetimeCrossUptoCard : Claim7 := { stood := { row := onetimeCrossUptoRow, standIns := [], harness := (true, "30ff800ff4888f9a927d2301551272efdb28427e65d852c5d710d8346c96bf19"), looks := false }, kinds := [], alts := [], laidByText := true, laidKinds := [.data], laidTests := true, laidLooks := .later }
def OnetimeCrossUptoCardSaid : Prop := Claim7.holds Tryd.pinned (.plain (OpenSpec.upto onetimeCrossSpec)) onetimeCrossUptoCard
end Rows
end Go.Proofs.YtlaglaehkhmklaaDoor
