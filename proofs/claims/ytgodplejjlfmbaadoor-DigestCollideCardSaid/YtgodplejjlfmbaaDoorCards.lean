/-
  DERIVED. GIVEN WITH THE SEED: THE CARDS: each row of YtgodplejjlfmbaaDoorRows.lean that lists a variable, with what it lists TIED to the program's text (the seventh form; the later family's looks); each row that meets fmt, with fmt's text TOLD by the authors' own Lean function (tested against real Go, not proved from fmt's source: count such statements apart). THE CARD IS WHAT COUNTS. Prove the row's statement (the work); the ties are given (YtgodplejjlfmbaaDoorTie.lean); close each card by the builder's one call (the guide's Derived/Test/ToyasCard.lean, 'card_holds'). Laid BY PROGRAM, IN A SANDBOX (cutbox-door.mjs). By AI agents, Wed Nov 11 2026. No macro, syntax, notation, axiom, sorry.
-/
import Derived.Test.YtgodplejjlfmbaaDoorRows
import GoSem.ClaimSeven
namespace Go.Proofs.YtgodplejjlfmbaaDoor
namespace Rows

/-- THE TIED CARD OF 'sealwrightlaw1.DigestSum'. -/
def digestSumCard : Claim7 := { stood := { row := digestSumRow, standIns := [], harness := (true, "1985151b78de79c5a25adc48d60665511314ff0d2ce6fc0328993c2405a33b6b"), looks := false }, kinds := [], alts := [], laidByText := true, laidKinds := [.data], laidTests := true, laidLooks := .later }
def DigestSumCardSaid : Prop := Claim7.holds Tryd.pinned (.plain (OpenSpec.ofChange digestSumSpec)) digestSumCard

/-- THE TIED CARD OF 'sealwrightlaw1.DigestPadding'. -/
def digestPaddingCard : Claim7 := { stood := { row := digestPaddingRow, standIns := [], harness := (true, "1985151b78de79c5a25adc48d60665511314ff0d2ce6fc0328993c2405a33b6b"), looks := false }, kinds := [], alts := [], laidByText := true, laidKinds := [.data], laidTests := true, laidLooks := .later }
def DigestPaddingCardSaid : Prop := Claim7.holds Tryd.pinned (.plain (OpenSpec.ofChange digestPaddingSpec)) digestPaddingCard

/-- THE TIED CARD OF 'sealwrightlaw1.DigestCollide'. -/
def digestCollideCard : Claim7 := { stood := { row := digestCollideRow, standIns := [], harness := (true, "1985151b78de79c5a25adc48d60665511314ff0d2ce6fc0328993c2405a33b6b"), looks := false }, kinds := [], alts := [], laidByText := true, laidKinds := [.data], laidTests := true, laidLooks := .later }
def DigestCollideCardSaid : Prop := Claim7.holds Tryd.pinned (.plain (OpenSpec.ofChange digestCollideSpec)) digestCollideCard

/-- THE TIED CARD OF 'sealwrightlaw1.DigestSize'. -/
def digestSizeCard : Claim7 := { stood := { row := digestSizeRow, standIns := [], harness := (true, "1985151b78de79c5a25adc48d60665511314ff0d2ce6fc0328993c2405a33b6b"), looks := false }, kinds := [], alts := [], laidByText := true, laidKinds := [.data], laidTests := true, laidLooks := .later }
def DigestSizeCardSaid : Prop := Claim7.holds Tryd.pinned (.plain (OpenSpec.ofChange digestSizeSpec)) digestSizeCard

/-- THE TIED CARD OF 'sealwrightlaw1.DigestInjective'. -/
def digestInjectiveCard : Claim7 := { stood := { row := digestInjectiveRow, standIns := [], harness := (true, "1985151b78de79c5a25adc48d60665511314ff0d2ce6fc0328993c2405a33b6b"), looks := false }, kinds := [], alts := [], laidByText := true, laidKinds := [.data], laidTests := true, laidLooks := .later }
def DigestInjectiveCardSaid : Prop := Claim7.holds Tryd.pinned (.plain (OpenSpec.ofChange digestInjectiveSpec)) digestInjectiveCard

/-- THE TIED CARD OF 'sealwrightlaw1.DigestBorders'. -/
def digestBordersCard : Claim7 := { stood := { row := digestBordersRow, standIns := [], harness := (true, "1985151b78de79c5a25adc48d60665511314ff0d2ce6fc0328993c2405a33b6b"), looks := false }, kinds := [], alts := [], laidByText := true, laidKinds := [.data], laidTests := true, laidLooks := .later }
def DigestBordersCardSaid : Prop := Claim7.holds Tryd.pinned (.plain (OpenSpec.ofChange digestBordersSpec)) digestBordersCard

/-- THE TIED CARD OF 'sealwrightlaw1.DigestFrame'. -/
def digestFrameCard : Claim7 := { stood := { row := digestFrameRow, standIns := [], harness := (true, "1985151b78de79c5a25adc48d60665511314ff0d2ce6fc0328993c2405a33b6b"), looks := false }, kinds := [], alts := [], laidByText := true, laidKinds := [.data], laidTests := true, laidLooks := .later }
def DigestFrameCardSaid : Prop := Claim7.holds Tryd.pinned (.plain (OpenSpec.ofChange digestFrameSpec)) digestFrameCard

/-- THE SECOND FORM's CARD OF 'sealwrightlaw1.DigestSum'. -/
def digestSumUptoCard : Claim7 := { stood := { row := digestSumUptoRow, standIns := [], harness := (true, "1985151b78de79c5a25adc48d60665511314ff0d2ce6fc0328993c2405a33b6b"), looks := false }, kinds := [], alts := [], laidByText := true, laidKinds := [.data], laidTests := true, laidLooks := .later }
def DigestSumUptoCardSaid : Prop := Claim7.holds Tryd.pinned (.plain (OpenSpec.upto digestSumSpec)) digestSumUptoCard

/-- THE SECOND FORM's CARD OF 'sealwrightlaw1.DigestPadding'. -/
def digestPaddingUptoCard : Claim7 := { stood := { row := digestPaddingUptoRow, standIns := [], harness := (true, "1985151b78de79c5a25adc48d60665511314ff0d2ce6fc0328993c2405a33b6b"), looks := false }, kinds := [], alts := [], laidByText := true, laidKinds := [.data], laidTests := true, laidLooks := .later }
def DigestPaddingUptoCardSaid : Prop := Claim7.holds Tryd.pinned (.plain (OpenSpec.upto digestPaddingSpec)) digestPaddingUptoCard

/-- THE SECOND FORM's CARD OF 'sealwrightlaw1.DigestCollide'. -/
def digestCollideUptoCard : Claim7 := { stood := { row := digestCollideUptoRow, standIns := [], harness := (true, "1985151b78de79c5a25adc48d60665511314ff0d2ce6fc0328993c2405a33b6b"), looks := false }, kinds := [], alts := [], laidByText := true, laidKinds := [.data], laidTests := true, laidLooks := .later }
def DigestCollideUptoCardSaid : Prop := Claim7.holds Tryd.pinned (.plain (OpenSpec.upto digestCollideSpec)) digestCollideUptoCard

/-- THE SECOND FORM's CARD OF 'sealwrightlaw1.DigestSize'. -/
def digestSizeUptoCard : Claim7 := { stood := { row := digestSizeUptoRow, standIns := [], harness := (true, "1985151b78de79c5a25adc48d60665511314ff0d2ce6fc0328993c2405a33b6b"), looks := false }, kinds := [], alts := [], laidByText := true, laidKinds := [.data], laidTests := true, laidLooks := .later }
def DigestSizeUptoCardSaid : Prop := Claim7.holds Tryd.pinned (.plain (OpenSpec.upto digestSizeSpec)) digestSizeUptoCard

/-- THE SECOND FORM's CARD OF 'sealwrightlaw1.DigestInjective'. -/
def digestInjectiveUptoCard : Claim7 := { stood := { row := digestInjectiveUptoRow, standIns := [], harness := (true, "1985151b78de79c5a25adc48d60665511314ff0d2ce6fc0328993c2405a33b6b"), looks := false }, kinds := [], alts := [], laidByText := true, laidKinds := [.data], laidTests := true, laidLooks := .later }
def DigestInjectiveUptoCardSaid : Prop := Claim7.holds Tryd.pinned (.plain (OpenSpec.upto digestInjectiveSpec)) digestInjectiveUptoCard

/-- THE SECOND FORM's CARD OF 'sealwrightlaw1.DigestBorders'. -/
def digestBordersUptoCard : Claim7 := { stood := { row := digestBordersUptoRow, standIns := [], harness := (true, "1985151b78de79c5a25adc48d60665511314ff0d2ce6fc0328993c2405a33b6b"), looks := false }, kinds := [], alts := [], laidByText := true, laidKinds := [.data], laidTests := true, laidLooks := .later }
def DigestBordersUptoCardSaid : Prop := Claim7.holds Tryd.pinned (.plain (OpenSpec.upto digestBordersSpec)) digestBordersUptoCard

/-- THE SECOND FORM's CARD OF 'sealwrightlaw1.DigestFrame'. -/
def digestFrameUptoCard : Claim7 := { stood := { row := digestFrameUptoRow, standIns := [], harness := (true, "1985151b78de79c5a25adc48d60665511314ff0d2ce6fc0328993c2405a33b6b"), looks := false }, kinds := [], alts := [], laidByText := true, laidKinds := [.data], laidTests := true, laidLooks := .later }
def DigestFrameUptoCardSaid : Prop := Claim7.holds Tryd.pinned (.plain (OpenSpec.upto digestFrameSpec)) digestFrameUptoCard
end Rows
end Go.Proofs.YtgodplejjlfmbaaDoor
