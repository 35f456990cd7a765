/-
  NARROWER THAN 'FOR EVERY INPUT', by the rows' own cells (each row's printed sentence says how): EvidenceSelection: laid · EvidenceNonce: laid · EvidenceCodec: laid · EvidenceDecode: laid · AreaCheck: laid · AreaCodec: laid · AreaDecode: laid · AreaBinding: laid · AreaWritten: laid · AreaNames: laid · BoxSeal: laid · BoxTrip: laid · BoxOpen: laid · BoxTampered: laid · BoxKeys: laid · BoxLimits: laid · BoxStream: laid.
  DERIVED. THE GIVEN ROWS OF THIS SEAT. 17 by the template 'for every input the law returns true; each argument reads behind the call as it read before'; 0 by the template 'total and deterministic' (their statements: YtchdeeghccdphaaDoorTotals.lean).
  GIVEN WITH THE SEED: the statements are not yours to turn. If you find one false, say at which input.
  Laid BY PROGRAM, IN A SANDBOX (cutbox-rows.mjs): the forced cells as the released guide's own fill.sh prints them over the translation 67ccd1ae3daa57fb… (all of the seat's roots in one cut). By AI agents, Wed Nov 11 2026. No macro, syntax, notation, axiom, sorry.
-/
import Derived.Test.YtchdeeghccdphaaDoorChecked
import GoSem.Claim
import GoSem.ClaimJoined
import GoSem.ClaimMapViews
import Derived.JoinedTies
import Derived.KernelRfl
namespace Go.Proofs.YtchdeeghccdphaaDoor
/- THE CELL 'sum', in the pinned program and in every row, IS THE sha256 OF THE DUMP (.gsa) THAT YtchdeeghccdphaaDoorProg.lean LOADS. Nothing in Lean hashes anything: it is a label: what it is worth is what the hold of that sum in a sandbox is worth. -/
noncomputable def Tryd.pinned : Pinned := { name := "ytchdeeghccdphaadoor", sum := "67ccd1ae3daa57fba5a80f6f54ee04567d4a129a39ac6d40fe84385df2672215", checked := Tryd.checked }
namespace Rows
def none {H : Type} : Left H := { results := [], args := [] }

/- WHAT THE LISTED PACKAGE-LEVEL VARIABLES READ AS WHEN THE CALL BEGINS. Each datum BY PROGRAM (the guide's laid-datum.mjs) off the statement by which the dump's own 'gosem.cut.vars' lays the variable. In a bare row this is a premise. The card (YtchdeeghccdphaaDoorCards.lean) ties it to the program's text. -/
def laid_sealwright_digest_round256 {H : Type} : DataW H := .agg [.lit (.int .u32 1116352408), .lit (.int .u32 1899447441), .lit (.int .u32 3049323471), .lit (.int .u32 3921009573), .lit (.int .u32 961987163), .lit (.int .u32 1508970993), .lit (.int .u32 2453635748), .lit (.int .u32 2870763221), .lit (.int .u32 3624381080), .lit (.int .u32 310598401), .lit (.int .u32 607225278), .lit (.int .u32 1426881987), .lit (.int .u32 1925078388), .lit (.int .u32 2162078206), .lit (.int .u32 2614888103), .lit (.int .u32 3248222580), .lit (.int .u32 3835390401), .lit (.int .u32 4022224774), .lit (.int .u32 264347078), .lit (.int .u32 604807628), .lit (.int .u32 770255983), .lit (.int .u32 1249150122), .lit (.int .u32 1555081692), .lit (.int .u32 1996064986), .lit (.int .u32 2554220882), .lit (.int .u32 2821834349), .lit (.int .u32 2952996808), .lit (.int .u32 3210313671), .lit (.int .u32 3336571891), .lit (.int .u32 3584528711), .lit (.int .u32 113926993), .lit (.int .u32 338241895), .lit (.int .u32 666307205), .lit (.int .u32 773529912), .lit (.int .u32 1294757372), .lit (.int .u32 1396182291), .lit (.int .u32 1695183700), .lit (.int .u32 1986661051), .lit (.int .u32 2177026350), .lit (.int .u32 2456956037), .lit (.int .u32 2730485921), .lit (.int .u32 2820302411), .lit (.int .u32 3259730800), .lit (.int .u32 3345764771), .lit (.int .u32 3516065817), .lit (.int .u32 3600352804), .lit (.int .u32 4094571909), .lit (.int .u32 275423344), .lit (.int .u32 430227734), .lit (.int .u32 506948616), .lit (.int .u32 659060556), .lit (.int .u32 883997877), .lit (.int .u32 958139571), .lit (.int .u32 1322822218), .lit (.int .u32 1537002063), .lit (.int .u32 1747873779), .lit (.int .u32 1955562222), .lit (.int .u32 2024104815), .lit (.int .u32 2227730452), .lit (.int .u32 2361852424), .lit (.int .u32 2428436474), .lit (.int .u32 2756734187), .lit (.int .u32 3204031479), .lit (.int .u32 3329325298)]

/-- 'sealwrightlaw36.EvidenceSelection': WHATEVER THE INPUT: true; the input reads as it did. -/
def evidenceSelectionSpec : ChangeSpec := { name := "evidenceSelection", fn := fun _ => fun
  | [d] => { results := [.lit (.bool true)], args := [d] }
  | _ => none }
def evidenceSelectionRow : OpenClaim := { program := "ytchdeeghccdphaadoor", sum := "67ccd1ae3daa57fba5a80f6f54ee04567d4a129a39ac6d40fe84385df2672215", func := "sealwright/sealwrightlaw36.EvidenceSelection", spec := "evidenceSelection", unfollowed := true, recurses := true, named := ["sealwright/digest.round256"], apart := false, laid := [("sealwright/digest.round256", laid_sealwright_digest_round256)] }
def EvidenceSelectionSaid : Prop := evidenceSelectionRow.holds Tryd.pinned (OpenSpec.ofChange evidenceSelectionSpec)

/-- ITS FALSE NEIGHBOUR: 'it returns false'. Refute it at one input. -/
def evidenceSelectionWrong : ChangeSpec := { name := "evidenceSelection", fn := fun _ => fun
  | [d] => { results := [.lit (.bool false)], args := [d] }
  | _ => none }
def EvidenceSelectionWrongFalsely : Prop := evidenceSelectionRow.holds Tryd.pinned (OpenSpec.ofChange evidenceSelectionWrong)

/-- 'sealwrightlaw36.EvidenceNonce': WHATEVER THE INPUT: true; the input reads as it did. -/
def evidenceNonceSpec : ChangeSpec := { name := "evidenceNonce", fn := fun _ => fun
  | [d1, d2, d3, d4, d5, d6] => { results := [.lit (.bool true)], args := [d1, d2, d3, d4, d5, d6] }
  | _ => none }
def evidenceNonceRow : OpenClaim := { program := "ytchdeeghccdphaadoor", sum := "67ccd1ae3daa57fba5a80f6f54ee04567d4a129a39ac6d40fe84385df2672215", func := "sealwright/sealwrightlaw36.EvidenceNonce", spec := "evidenceNonce", unfollowed := true, recurses := true, named := ["sealwright/digest.round256"], apart := false, laid := [("sealwright/digest.round256", laid_sealwright_digest_round256)] }
def EvidenceNonceSaid : Prop := evidenceNonceRow.holds Tryd.pinned (OpenSpec.ofChange evidenceNonceSpec)

/-- ITS FALSE NEIGHBOUR: 'it returns false'. Refute it at one input. -/
def evidenceNonceWrong : ChangeSpec := { name := "evidenceNonce", fn := fun _ => fun
  | [d1, d2, d3, d4, d5, d6] => { results := [.lit (.bool false)], args := [d1, d2, d3, d4, d5, d6] }
  | _ => none }
def EvidenceNonceWrongFalsely : Prop := evidenceNonceRow.holds Tryd.pinned (OpenSpec.ofChange evidenceNonceWrong)

/-- 'sealwrightlaw36.EvidenceCodec': WHATEVER THE INPUT: true; the input reads as it did. -/
def evidenceCodecSpec : ChangeSpec := { name := "evidenceCodec", fn := fun _ => fun
  | [d1, d2, d3, d4] => { results := [.lit (.bool true)], args := [d1, d2, d3, d4] }
  | _ => none }
def evidenceCodecRow : OpenClaim := { program := "ytchdeeghccdphaadoor", sum := "67ccd1ae3daa57fba5a80f6f54ee04567d4a129a39ac6d40fe84385df2672215", func := "sealwright/sealwrightlaw36.EvidenceCodec", spec := "evidenceCodec", unfollowed := true, recurses := true, named := ["sealwright/digest.round256"], apart := false, laid := [("sealwright/digest.round256", laid_sealwright_digest_round256)] }
def EvidenceCodecSaid : Prop := evidenceCodecRow.holds Tryd.pinned (OpenSpec.ofChange evidenceCodecSpec)

/-- ITS FALSE NEIGHBOUR: 'it returns false'. Refute it at one input. -/
def evidenceCodecWrong : ChangeSpec := { name := "evidenceCodec", fn := fun _ => fun
  | [d1, d2, d3, d4] => { results := [.lit (.bool false)], args := [d1, d2, d3, d4] }
  | _ => none }
def EvidenceCodecWrongFalsely : Prop := evidenceCodecRow.holds Tryd.pinned (OpenSpec.ofChange evidenceCodecWrong)

/-- 'sealwrightlaw36.EvidenceDecode': WHATEVER THE INPUT: true; the input reads as it did. -/
def evidenceDecodeSpec : ChangeSpec := { name := "evidenceDecode", fn := fun _ => fun
  | [d1, d2, d3, d4, d5, d6] => { results := [.lit (.bool true)], args := [d1, d2, d3, d4, d5, d6] }
  | _ => none }
def evidenceDecodeRow : OpenClaim := { program := "ytchdeeghccdphaadoor", sum := "67ccd1ae3daa57fba5a80f6f54ee04567d4a129a39ac6d40fe84385df2672215", func := "sealwright/sealwrightlaw36.EvidenceDecode", spec := "evidenceDecode", unfollowed := true, recurses := true, named := ["sealwright/digest.round256"], apart := false, laid := [("sealwright/digest.round256", laid_sealwright_digest_round256)] }
def EvidenceDecodeSaid : Prop := evidenceDecodeRow.holds Tryd.pinned (OpenSpec.ofChange evidenceDecodeSpec)

/-- ITS FALSE NEIGHBOUR: 'it returns false'. Refute it at one input. -/
def evidenceDecodeWrong : ChangeSpec := { name := "evidenceDecode", fn := fun _ => fun
  | [d1, d2, d3, d4, d5, d6] => { results := [.lit (.bool false)], args := [d1, d2, d3, d4, d5, d6] }
  | _ => none }
def EvidenceDecodeWrongFalsely : Prop := evidenceDecodeRow.holds Tryd.pinned (OpenSpec.ofChange evidenceDecodeWrong)

/-- 'sealwrightlaw10.AreaCheck': WHATEVER THE INPUT: true; the input reads as it did. -/
def areaCheckSpec : ChangeSpec := { name := "areaCheck", fn := fun _ => fun
  | [d1, d2, d3] => { results := [.lit (.bool true)], args := [d1, d2, d3] }
  | _ => none }
def areaCheckRow : OpenClaim := { program := "ytchdeeghccdphaadoor", sum := "67ccd1ae3daa57fba5a80f6f54ee04567d4a129a39ac6d40fe84385df2672215", func := "sealwright/sealwrightlaw10.AreaCheck", spec := "areaCheck", unfollowed := true, recurses := true, named := ["sealwright/digest.round256"], apart := false, laid := [("sealwright/digest.round256", laid_sealwright_digest_round256)] }
def AreaCheckSaid : Prop := areaCheckRow.holds Tryd.pinned (OpenSpec.ofChange areaCheckSpec)

/-- ITS FALSE NEIGHBOUR: 'it returns false'. Refute it at one input. -/
def areaCheckWrong : ChangeSpec := { name := "areaCheck", fn := fun _ => fun
  | [d1, d2, d3] => { results := [.lit (.bool false)], args := [d1, d2, d3] }
  | _ => none }
def AreaCheckWrongFalsely : Prop := areaCheckRow.holds Tryd.pinned (OpenSpec.ofChange areaCheckWrong)

/-- 'sealwrightlaw10.AreaCodec': WHATEVER THE INPUT: true; the input reads as it did. -/
def areaCodecSpec : ChangeSpec := { name := "areaCodec", fn := fun _ => fun
  | [d] => { results := [.lit (.bool true)], args := [d] }
  | _ => none }
def areaCodecRow : OpenClaim := { program := "ytchdeeghccdphaadoor", sum := "67ccd1ae3daa57fba5a80f6f54ee04567d4a129a39ac6d40fe84385df2672215", func := "sealwright/sealwrightlaw10.AreaCodec", spec := "areaCodec", unfollowed := true, recurses := true, named := ["sealwright/digest.round256"], apart := false, laid := [("sealwright/digest.round256", laid_sealwright_digest_round256)] }
def AreaCodecSaid : Prop := areaCodecRow.holds Tryd.pinned (OpenSpec.ofChange areaCodecSpec)

/-- ITS FALSE NEIGHBOUR: 'it returns false'. Refute it at one input. -/
def areaCodecWrong : ChangeSpec := { name := "areaCodec", fn := fun _ => fun
  | [d] => { results := [.lit (.bool false)], args := [d] }
  | _ => none }
def AreaCodecWrongFalsely : Prop := areaCodecRow.holds Tryd.pinned (OpenSpec.ofChange areaCodecWrong)

/-- 'sealwrightlaw10.AreaDecode': WHATEVER THE INPUT: true; the input reads as it did. -/
def areaDecodeSpec : ChangeSpec := { name := "areaDecode", fn := fun _ => fun
  | [d1, d2, d3, d4, d5] => { results := [.lit (.bool true)], args := [d1, d2, d3, d4, d5] }
  | _ => none }
def areaDecodeRow : OpenClaim := { program := "ytchdeeghccdphaadoor", sum := "67ccd1ae3daa57fba5a80f6f54ee04567d4a129a39ac6d40fe84385df2672215", func := "sealwright/sealwrightlaw10.AreaDecode", spec := "areaDecode", unfollowed := true, recurses := true, named := ["sealwright/digest.round256"], apart := false, laid := [("sealwright/digest.round256", laid_sealwright_digest_round256)] }
def AreaDecodeSaid : Prop := areaDecodeRow.holds Tryd.pinned (OpenSpec.ofChange areaDecodeSpec)

/-- ITS FALSE NEIGHBOUR: 'it returns false'. Refute it at one input. -/
def areaDecodeWrong : ChangeSpec := { name := "areaDecode", fn := fun _ => fun
  | [d1, d2, d3, d4, d5] => { results := [.lit (.bool false)], args := [d1, d2, d3, d4, d5] }
  | _ => none }
def AreaDecodeWrongFalsely : Prop := areaDecodeRow.holds Tryd.pinned (OpenSpec.ofChange areaDecodeWrong)

/-- 'sealwrightlaw10.AreaBinding': WHATEVER THE INPUT: true; the input reads as it did. -/
def areaBindingSpec : ChangeSpec := { name := "areaBinding", fn := fun _ => fun
  | [d1, d2] => { results := [.lit (.bool true)], args := [d1, d2] }
  | _ => none }
def areaBindingRow : OpenClaim := { program := "ytchdeeghccdphaadoor", sum := "67ccd1ae3daa57fba5a80f6f54ee04567d4a129a39ac6d40fe84385df2672215", func := "sealwright/sealwrightlaw10.AreaBinding", spec := "areaBinding", unfollowed := true, recurses := true, named := ["sealwright/digest.round256"], apart := false, laid := [("sealwright/digest.round256", laid_sealwright_digest_round256)] }
def AreaBindingSaid : Prop := areaBindingRow.holds Tryd.pinned (OpenSpec.ofChange areaBindingSpec)

/-- ITS FALSE NEIGHBOUR: 'it returns false'. Refute it at one input. -/
def areaBindingWrong : ChangeSpec := { name := "areaBinding", fn := fun _ => fun
  | [d1, d2] => { results := [.lit (.bool false)], args := [d1, d2] }
  | _ => none }
def AreaBindingWrongFalsely : Prop := areaBindingRow.holds Tryd.pinned (OpenSpec.ofChange areaBindingWrong)

/-- 'sealwrightlaw10.AreaWritten': WHATEVER THE INPUT: true; the input reads as it did. -/
def areaWrittenSpec : ChangeSpec := { name := "areaWritten", fn := fun _ => fun
  | [d1, d2, d3, d4] => { results := [.lit (.bool true)], args := [d1, d2, d3, d4] }
  | _ => none }
def areaWrittenRow : OpenClaim := { program := "ytchdeeghccdphaadoor", sum := "67ccd1ae3daa57fba5a80f6f54ee04567d4a129a39ac6d40fe84385df2672215", func := "sealwright/sealwrightlaw10.AreaWritten", spec := "areaWritten", unfollowed := true, recurses := true, named := ["sealwright/digest.round256"], apart := false, laid := [("sealwright/digest.round256", laid_sealwright_digest_round256)] }
def AreaWrittenSaid : Prop := areaWrittenRow.holds Tryd.pinned (OpenSpec.ofChange areaWrittenSpec)

/-- ITS FALSE NEIGHBOUR: 'it returns false'. Refute it at one input. -/
def areaWrittenWrong : ChangeSpec := { name := "areaWritten", fn := fun _ => fun
  | [d1, d2, d3, d4] => { results := [.lit (.bool false)], args := [d1, d2, d3, d4] }
  | _ => none }
def AreaWrittenWrongFalsely : Prop := areaWrittenRow.holds Tryd.pinned (OpenSpec.ofChange areaWrittenWrong)

/-- 'sealwrightlaw10.AreaNames': WHATEVER THE INPUT: true; the input reads as it did. -/
def areaNamesSpec : ChangeSpec := { name := "areaNames", fn := fun _ => fun
  | [d1, d2, d3] => { results := [.lit (.bool true)], args := [d1, d2, d3] }
  | _ => none }
def areaNamesRow : OpenClaim := { program := "ytchdeeghccdphaadoor", sum := "67ccd1ae3daa57fba5a80f6f54ee04567d4a129a39ac6d40fe84385df2672215", func := "sealwright/sealwrightlaw10.AreaNames", spec := "areaNames", unfollowed := true, recurses := true, named := ["sealwright/digest.round256"], apart := false, laid := [("sealwright/digest.round256", laid_sealwright_digest_round256)] }
def AreaNamesSaid : Prop := areaNamesRow.holds Tryd.pinned (OpenSpec.ofChange areaNamesSpec)

/-- ITS FALSE NEIGHBOUR: 'it returns false'. Refute it at one input. -/
def areaNamesWrong : ChangeSpec := { name := "areaNames", fn := fun _ => fun
  | [d1, d2, d3] => { results := [.lit (.bool false)], args := [d1, d2, d3] }
  | _ => none }
def AreaNamesWrongFalsely : Prop := areaNamesRow.holds Tryd.pinned (OpenSpec.ofChange areaNamesWrong)

/-- 'sealwrightlaw4.BoxSeal': WHATEVER THE INPUT: true; the input reads as it did. -/
def boxSealSpec : ChangeSpec := { name := "boxSeal", fn := fun _ => fun
  | [d1, d2, d3, d4] => { results := [.lit (.bool true)], args := [d1, d2, d3, d4] }
  | _ => none }
def boxSealRow : OpenClaim := { program := "ytchdeeghccdphaadoor", sum := "67ccd1ae3daa57fba5a80f6f54ee04567d4a129a39ac6d40fe84385df2672215", func := "sealwright/sealwrightlaw4.BoxSeal", spec := "boxSeal", unfollowed := true, recurses := true, named := ["sealwright/digest.round256"], apart := false, laid := [("sealwright/digest.round256", laid_sealwright_digest_round256)] }
def BoxSealSaid : Prop := boxSealRow.holds Tryd.pinned (OpenSpec.ofChange boxSealSpec)

/-- ITS FALSE NEIGHBOUR: 'it returns false'. Refute it at one input. -/
def boxSealWrong : ChangeSpec := { name := "boxSeal", fn := fun _ => fun
  | [d1, d2, d3, d4] => { results := [.lit (.bool false)], args := [d1, d2, d3, d4] }
  | _ => none }
def BoxSealWrongFalsely : Prop := boxSealRow.holds Tryd.pinned (OpenSpec.ofChange boxSealWrong)

/-- 'sealwrightlaw4.BoxTrip': WHATEVER THE INPUT: true; the input reads as it did. -/
def boxTripSpec : ChangeSpec := { name := "boxTrip", fn := fun _ => fun
  | [d1, d2, d3, d4] => { results := [.lit (.bool true)], args := [d1, d2, d3, d4] }
  | _ => none }
def boxTripRow : OpenClaim := { program := "ytchdeeghccdphaadoor", sum := "67ccd1ae3daa57fba5a80f6f54ee04567d4a129a39ac6d40fe84385df2672215", func := "sealwright/sealwrightlaw4.BoxTrip", spec := "boxTrip", unfollowed := true, recurses := true, named := ["sealwright/digest.round256"], apart := false, laid := [("sealwright/digest.round256", laid_sealwright_digest_round256)] }
def BoxTripSaid : Prop := boxTripRow.holds Tryd.pinned (OpenSpec.ofChange boxTripSpec)

/-- ITS FALSE NEIGHBOUR: 'it returns false'. Refute it at one input. -/
def boxTripWrong : ChangeSpec := { name := "boxTrip", fn := fun _ => fun
  | [d1, d2, d3, d4] => { results := [.lit (.bool false)], args := [d1, d2, d3, d4] }
  | _ => none }
def BoxTripWrongFalsely : Prop := boxTripRow.holds Tryd.pinned (OpenSpec.ofChange boxTripWrong)

/-- 'sealwrightlaw4.BoxOpen': WHATEVER THE INPUT: true; the input reads as it did. -/
def boxOpenSpec : ChangeSpec := { name := "boxOpen", fn := fun _ => fun
  | [d1, d2, d3, d4, d5, d6, d7, d8] => { results := [.lit (.bool true)], args := [d1, d2, d3, d4, d5, d6, d7, d8] }
  | _ => none }
def boxOpenRow : OpenClaim := { program := "ytchdeeghccdphaadoor", sum := "67ccd1ae3daa57fba5a80f6f54ee04567d4a129a39ac6d40fe84385df2672215", func := "sealwright/sealwrightlaw4.BoxOpen", spec := "boxOpen", unfollowed := true, recurses := true, named := ["sealwright/digest.round256"], apart := false, laid := [("sealwright/digest.round256", laid_sealwright_digest_round256)] }
def BoxOpenSaid : Prop := boxOpenRow.holds Tryd.pinned (OpenSpec.ofChange boxOpenSpec)

/-- ITS FALSE NEIGHBOUR: 'it returns false'. Refute it at one input. -/
def boxOpenWrong : ChangeSpec := { name := "boxOpen", fn := fun _ => fun
  | [d1, d2, d3, d4, d5, d6, d7, d8] => { results := [.lit (.bool false)], args := [d1, d2, d3, d4, d5, d6, d7, d8] }
  | _ => none }
def BoxOpenWrongFalsely : Prop := boxOpenRow.holds Tryd.pinned (OpenSpec.ofChange boxOpenWrong)

/-- 'sealwrightlaw4.BoxTampered': WHATEVER THE INPUT: true; the input reads as it did. -/
def boxTamperedSpec : ChangeSpec := { name := "boxTampered", fn := fun _ => fun
  | [d1, d2, d3, d4, d5, d6] => { results := [.lit (.bool true)], args := [d1, d2, d3, d4, d5, d6] }
  | _ => none }
def boxTamperedRow : OpenClaim := { program := "ytchdeeghccdphaadoor", sum := "67ccd1ae3daa57fba5a80f6f54ee04567d4a129a39ac6d40fe84385df2672215", func := "sealwright/sealwrightlaw4.BoxTampered", spec := "boxTampered", unfollowed := true, recurses := true, named := ["sealwright/digest.round256"], apart := false, laid := [("sealwright/digest.round256", laid_sealwright_digest_round256)] }
def BoxTamperedSaid : Prop := boxTamperedRow.holds Tryd.pinned (OpenSpec.ofChange boxTamperedSpec)

/-- ITS FALSE NEIGHBOUR: 'it returns false'. Refute it at one input. -/
def boxTamperedWrong : ChangeSpec := { name := "boxTampered", fn := fun _ => fun
  | [d1, d2, d3, d4, d5, d6] => { results := [.lit (.bool false)], args := [d1, d2, d3, d4, d5, d6] }
  | _ => none }
def BoxTamperedWrongFalsely : Prop := boxTamperedRow.holds Tryd.pinned (OpenSpec.ofChange boxTamperedWrong)

/-- 'sealwrightlaw4.BoxKeys': WHATEVER THE INPUT: true; the input reads as it did. -/
def boxKeysSpec : ChangeSpec := { name := "boxKeys", fn := fun _ => fun
  | [d1, d2, d3, d4, d5, d6] => { results := [.lit (.bool true)], args := [d1, d2, d3, d4, d5, d6] }
  | _ => none }
def boxKeysRow : OpenClaim := { program := "ytchdeeghccdphaadoor", sum := "67ccd1ae3daa57fba5a80f6f54ee04567d4a129a39ac6d40fe84385df2672215", func := "sealwright/sealwrightlaw4.BoxKeys", spec := "boxKeys", unfollowed := true, recurses := true, named := ["sealwright/digest.round256"], apart := false, laid := [("sealwright/digest.round256", laid_sealwright_digest_round256)] }
def BoxKeysSaid : Prop := boxKeysRow.holds Tryd.pinned (OpenSpec.ofChange boxKeysSpec)

/-- ITS FALSE NEIGHBOUR: 'it returns false'. Refute it at one input. -/
def boxKeysWrong : ChangeSpec := { name := "boxKeys", fn := fun _ => fun
  | [d1, d2, d3, d4, d5, d6] => { results := [.lit (.bool false)], args := [d1, d2, d3, d4, d5, d6] }
  | _ => none }
def BoxKeysWrongFalsely : Prop := boxKeysRow.holds Tryd.pinned (OpenSpec.ofChange boxKeysWrong)

/-- 'sealwrightlaw4.BoxLimits': WHATEVER THE INPUT: true; the input reads as it did. -/
def boxLimitsSpec : ChangeSpec := { name := "boxLimits", fn := fun _ => fun
  | [d1, d2, d3] => { results := [.lit (.bool true)], args := [d1, d2, d3] }
  | _ => none }
def boxLimitsRow : OpenClaim := { program := "ytchdeeghccdphaadoor", sum := "67ccd1ae3daa57fba5a80f6f54ee04567d4a129a39ac6d40fe84385df2672215", func := "sealwright/sealwrightlaw4.BoxLimits", spec := "boxLimits", unfollowed := true, recurses := true, named := ["sealwright/digest.round256"], apart := false, laid := [("sealwright/digest.round256", laid_sealwright_digest_round256)] }
def BoxLimitsSaid : Prop := boxLimitsRow.holds Tryd.pinned (OpenSpec.ofChange boxLimitsSpec)

/-- ITS FALSE NEIGHBOUR: 'it returns false'. Refute it at one input. -/
def boxLimitsWrong : ChangeSpec := { name := "boxLimits", fn := fun _ => fun
  | [d1, d2, d3] => { results := [.lit (.bool false)], args := [d1, d2, d3] }
  | _ => none }
def BoxLimitsWrongFalsely : Prop := boxLimitsRow.holds Tryd.pinned (OpenSpec.ofChange boxLimitsWrong)

/-- 'sealwrightlaw4.BoxStream': WHATEVER THE INPUT: true; the input reads as it did. -/
def boxStreamSpec : ChangeSpec := { name := "boxStream", fn := fun _ => fun
  | [d1, d2, d3, d4] => { results := [.lit (.bool true)], args := [d1, d2, d3, d4] }
  | _ => none }
def boxStreamRow : OpenClaim := { program := "ytchdeeghccdphaadoor", sum := "67ccd1ae3daa57fba5a80f6f54ee04567d4a129a39ac6d40fe84385df2672215", func := "sealwright/sealwrightlaw4.BoxStream", spec := "boxStream", unfollowed := true, recurses := true, named := ["sealwright/digest.round256"], apart := false, laid := [("sealwright/digest.round256", laid_sealwright_digest_round256)] }
def BoxStreamSaid : Prop := boxStreamRow.holds Tryd.pinned (OpenSpec.ofChange boxStreamSpec)

/-- ITS FALSE NEIGHBOUR: 'it returns false'. Refute it at one input. -/
def boxStreamWrong : ChangeSpec := { name := "boxStream", fn := fun _ => fun
  | [d1, d2, d3, d4] => { results := [.lit (.bool false)], args := [d1, d2, d3, d4] }
  | _ => none }
def BoxStreamWrongFalsely : Prop := boxStreamRow.holds Tryd.pinned (OpenSpec.ofChange boxStreamWrong)

/- THE SECOND FORM. 'bulk': how many values and letters a reading holds, each counted each time it is reached (what is shared counts as often as it is met; a slice's spare places count too). A statement '..UptoSaid' is the law's where the arguments, and the package variables that the reading takes, are together of bulk at most 1048576: NARROWER than '..Said'. Prove '..Said' where nothing that the law and all that it calls make is longer than what came in: it says more and counts as full. Else prove '..UptoSaid'. A law counts once. -/
mutual
def uptoBulk {H : Type} : DataW H → Nat
  | .lit (.string bytes) => bytes.length + 1
  | .lit _ => 1
  | .nil => 1
  | .ptr d => uptoBulk d + 1
  | .slice elems spare => uptoBulkAll elems + uptoBulkAll spare + 1
  | .agg parts => uptoBulkAll parts + 1
  | .iface _ d => uptoBulk d + 1
  | .map entries => uptoBulkEntries entries + 1
  | .held _ => 1
def uptoBulkAll {H : Type} : List (DataW H) → Nat
  | [] => 0
  | d :: r => uptoBulk d + uptoBulkAll r
def uptoBulkEntries {H : Type} : List (Lit × DataW H) → Nat
  | [] => 0
  | x :: r => uptoBulkEntry x + uptoBulkEntries r
def uptoBulkEntry {H : Type} : Lit × DataW H → Nat
  | (.string bytes, d) => bytes.length + uptoBulk d + 1
  | (_, d) => uptoBulk d + 1
 end
def uptoSmall : (H : Type) → List (DataW H) → Bool := fun _ ds => decide (uptoBulkAll ds ≤ 1048576)
def OpenSpec.upto (s : _root_.Go.ChangeSpec) : _root_.Go.OpenSpec := { _root_.Go.OpenSpec.ofChange s with cond := some uptoSmall }

/-- 'sealwrightlaw36.EvidenceSelection', WHERE WHAT IT READS IS OF BULK AT MOST 1048576: true; the input reads as it did. -/
def evidenceSelectionUptoRow : OpenClaim := { program := "ytchdeeghccdphaadoor", sum := "67ccd1ae3daa57fba5a80f6f54ee04567d4a129a39ac6d40fe84385df2672215", func := "sealwright/sealwrightlaw36.EvidenceSelection", spec := "evidenceSelection", unfollowed := true, recurses := true, named := ["sealwright/digest.round256"], apart := false, laid := [("sealwright/digest.round256", laid_sealwright_digest_round256)], narrowed := true }
def EvidenceSelectionUptoSaid : Prop := evidenceSelectionUptoRow.holds Tryd.pinned (OpenSpec.upto evidenceSelectionSpec)

/-- 'sealwrightlaw36.EvidenceNonce', WHERE WHAT IT READS IS OF BULK AT MOST 1048576: true; the input reads as it did. -/
def evidenceNonceUptoRow : OpenClaim := { program := "ytchdeeghccdphaadoor", sum := "67ccd1ae3daa57fba5a80f6f54ee04567d4a129a39ac6d40fe84385df2672215", func := "sealwright/sealwrightlaw36.EvidenceNonce", spec := "evidenceNonce", unfollowed := true, recurses := true, named := ["sealwright/digest.round256"], apart := false, laid := [("sealwright/digest.round256", laid_sealwright_digest_round256)], narrowed := true }
def EvidenceNonceUptoSaid : Prop := evidenceNonceUptoRow.holds Tryd.pinned (OpenSpec.upto evidenceNonceSpec)

/-- 'sealwrightlaw36.EvidenceCodec', WHERE WHAT IT READS IS OF BULK AT MOST 1048576: true; the input reads as it did. -/
def evidenceCodecUptoRow : OpenClaim := { program := "ytchdeeghccdphaadoor", sum := "67ccd1ae3daa57fba5a80f6f54ee04567d4a129a39ac6d40fe84385df2672215", func := "sealwright/sealwrightlaw36.EvidenceCodec", spec := "evidenceCodec", unfollowed := true, recurses := true, named := ["sealwright/digest.round256"], apart := false, laid := [("sealwright/digest.round256", laid_sealwright_digest_round256)], narrowed := true }
def EvidenceCodecUptoSaid : Prop := evidenceCodecUptoRow.holds Tryd.pinned (OpenSpec.upto evidenceCodecSpec)

/-- 'sealwrightlaw36.EvidenceDecode', WHERE WHAT IT READS IS OF BULK AT MOST 1048576: true; the input reads as it did. -/
def evidenceDecodeUptoRow : OpenClaim := { program := "ytchdeeghccdphaadoor", sum := "67ccd1ae3daa57fba5a80f6f54ee04567d4a129a39ac6d40fe84385df2672215", func := "sealwright/sealwrightlaw36.EvidenceDecode", spec := "evidenceDecode", unfollowed := true, recurses := true, named := ["sealwright/digest.round256"], apart := false, laid := [("sealwright/digest.round256", laid_sealwright_digest_round256)], narrowed := true }
def EvidenceDecodeUptoSaid : Prop := evidenceDecodeUptoRow.holds Tryd.pinned (OpenSpec.upto evidenceDecodeSpec)

/-- 'sealwrightlaw10.AreaCheck', WHERE WHAT IT READS IS OF BULK AT MOST 1048576: true; the input reads as it did. -/
def areaCheckUptoRow : OpenClaim := { program := "ytchdeeghccdphaadoor", sum := "67ccd1ae3daa57fba5a80f6f54ee04567d4a129a39ac6d40fe84385df2672215", func := "sealwright/sealwrightlaw10.AreaCheck", spec := "areaCheck", unfollowed := true, recurses := true, named := ["sealwright/digest.round256"], apart := false, laid := [("sealwright/digest.round256", laid_sealwright_digest_round256)], narrowed := true }
def AreaCheckUptoSaid : Prop := areaCheckUptoRow.holds Tryd.pinned (OpenSpec.upto areaCheckSpec)

/-- 'sealwrightlaw10.AreaCodec', WHERE WHAT IT READS IS OF BULK AT MOST 1048576: true; the input reads as it did. -/
def areaCodecUptoRow : OpenClaim := { program := "ytchdeeghccdphaadoor", sum := "67ccd1ae3daa57fba5a80f6f54ee04567d4a129a39ac6d40fe84385df2672215", func := "sealwright/sealwrightlaw10.AreaCodec", spec := "areaCodec", unfollowed := true, recurses := true, named := ["sealwright/digest.round256"], apart := false, laid := [("sealwright/digest.round256", laid_sealwright_digest_round256)], narrowed := true }
def AreaCodecUptoSaid : Prop := areaCodecUptoRow.holds Tryd.pinned (OpenSpec.upto areaCodecSpec)

/-- 'sealwrightlaw10.AreaDecode', WHERE WHAT IT READS IS OF BULK AT MOST 1048576: true; the input reads as it did. -/
def areaDecodeUptoRow : OpenClaim := { program := "ytchdeeghccdphaadoor", sum := "67ccd1ae3daa57fba5a80f6f54ee04567d4a129a39ac6d40fe84385df2672215", func := "sealwright/sealwrightlaw10.AreaDecode", spec := "areaDecode", unfollowed := true, recurses := true, named := ["sealwright/digest.round256"], apart := false, laid := [("sealwright/digest.round256", laid_sealwright_digest_round256)], narrowed := true }
def AreaDecodeUptoSaid : Prop := areaDecodeUptoRow.holds Tryd.pinned (OpenSpec.upto areaDecodeSpec)

/-- 'sealwrightlaw10.AreaBinding', WHERE WHAT IT READS IS OF BULK AT MOST 1048576: true; the input reads as it did. -/
def areaBindingUptoRow : OpenClaim := { program := "ytchdeeghccdphaadoor", sum := "67ccd1ae3daa57fba5a80f6f54ee04567d4a129a39ac6d40fe84385df2672215", func := "sealwright/sealwrightlaw10.AreaBinding", spec := "areaBinding", unfollowed := true, recurses := true, named := ["sealwright/digest.round256"], apart := false, laid := [("sealwright/digest.round256", laid_sealwright_digest_round256)], narrowed := true }
def AreaBindingUptoSaid : Prop := areaBindingUptoRow.holds Tryd.pinned (OpenSpec.upto areaBindingSpec)

/-- 'sealwrightlaw10.AreaWritten', WHERE WHAT IT READS IS OF BULK AT MOST 1048576: true; the input reads as it did. -/
def areaWrittenUptoRow : OpenClaim := { program := "ytchdeeghccdphaadoor", sum := "67ccd1ae3daa57fba5a80f6f54ee04567d4a129a39ac6d40fe84385df2672215", func := "sealwright/sealwrightlaw10.AreaWritten", spec := "areaWritten", unfollowed := true, recurses := true, named := ["sealwright/digest.round256"], apart := false, laid := [("sealwright/digest.round256", laid_sealwright_digest_round256)], narrowed := true }
def AreaWrittenUptoSaid : Prop := areaWrittenUptoRow.holds Tryd.pinned (OpenSpec.upto areaWrittenSpec)

/-- 'sealwrightlaw10.AreaNames', WHERE WHAT IT READS IS OF BULK AT MOST 1048576: true; the input reads as it did. -/
def areaNamesUptoRow : OpenClaim := { program := "ytchdeeghccdphaadoor", sum := "67ccd1ae3daa57fba5a80f6f54ee04567d4a129a39ac6d40fe84385df2672215", func := "sealwright/sealwrightlaw10.AreaNames", spec := "areaNames", unfollowed := true, recurses := true, named := ["sealwright/digest.round256"], apart := false, laid := [("sealwright/digest.round256", laid_sealwright_digest_round256)], narrowed := true }
def AreaNamesUptoSaid : Prop := areaNamesUptoRow.holds Tryd.pinned (OpenSpec.upto areaNamesSpec)

/-- 'sealwrightlaw4.BoxSeal', WHERE WHAT IT READS IS OF BULK AT MOST 1048576: true; the input reads as it did. -/
def boxSealUptoRow : OpenClaim := { program := "ytchdeeghccdphaadoor", sum := "67ccd1ae3daa57fba5a80f6f54ee04567d4a129a39ac6d40fe84385df2672215", func := "sealwright/sealwrightlaw4.BoxSeal", spec := "boxSeal", unfollowed := true, recurses := true, named := ["sealwright/digest.round256"], apart := false, laid := [("sealwright/digest.round256", laid_sealwright_digest_round256)], narrowed := true }
def BoxSealUptoSaid : Prop := boxSealUptoRow.holds Tryd.pinned (OpenSpec.upto boxSealSpec)

/-- 'sealwrightlaw4.BoxTrip', WHERE WHAT IT READS IS OF BULK AT MOST 1048576: true; the input reads as it did. -/
def boxTripUptoRow : OpenClaim := { program := "ytchdeeghccdphaadoor", sum := "67ccd1ae3daa57fba5a80f6f54ee04567d4a129a39ac6d40fe84385df2672215", func := "sealwright/sealwrightlaw4.BoxTrip", spec := "boxTrip", unfollowed := true, recurses := true, named := ["sealwright/digest.round256"], apart := false, laid := [("sealwright/digest.round256", laid_sealwright_digest_round256)], narrowed := true }
def BoxTripUptoSaid : Prop := boxTripUptoRow.holds Tryd.pinned (OpenSpec.upto boxTripSpec)

/-- 'sealwrightlaw4.BoxOpen', WHERE WHAT IT READS IS OF BULK AT MOST 1048576: true; the input reads as it did. -/
def boxOpenUptoRow : OpenClaim := { program := "ytchdeeghccdphaadoor", sum := "67ccd1ae3daa57fba5a80f6f54ee04567d4a129a39ac6d40fe84385df2672215", func := "sealwright/sealwrightlaw4.BoxOpen", spec := "boxOpen", unfollowed := true, recurses := true, named := ["sealwright/digest.round256"], apart := false, laid := [("sealwright/digest.round256", laid_sealwright_digest_round256)], narrowed := true }
def BoxOpenUptoSaid : Prop := boxOpenUptoRow.holds Tryd.pinned (OpenSpec.upto boxOpenSpec)

/-- 'sealwrightlaw4.BoxTampered', WHERE WHAT IT READS IS OF BULK AT MOST 1048576: true; the input reads as it did. -/
def boxTamperedUptoRow : OpenClaim := { program := "ytchdeeghccdphaadoor", sum := "67ccd1ae3daa57fba5a80f6f54ee04567d4a129a39ac6d40fe84385df2672215", func := "sealwright/sealwrightlaw4.BoxTampered", spec := "boxTampered", unfollowed := true, recurses := true, named := ["sealwright/digest.round256"], apart := false, laid := [("sealwright/digest.round256", laid_sealwright_digest_round256)], narrowed := true }
def BoxTamperedUptoSaid : Prop := boxTamperedUptoRow.holds Tryd.pinned (OpenSpec.upto boxTamperedSpec)

/-- 'sealwrightlaw4.BoxKeys', WHERE WHAT IT READS IS OF BULK AT MOST 1048576: true; the input reads as it did. -/
def boxKeysUptoRow : OpenClaim := { program := "ytchdeeghccdphaadoor", sum := "67ccd1ae3daa57fba5a80f6f54ee04567d4a129a39ac6d40fe84385df2672215", func := "sealwright/sealwrightlaw4.BoxKeys", spec := "boxKeys", unfollowed := true, recurses := true, named := ["sealwright/digest.round256"], apart := false, laid := [("sealwright/digest.round256", laid_sealwright_digest_round256)], narrowed := true }
def BoxKeysUptoSaid : Prop := boxKeysUptoRow.holds Tryd.pinned (OpenSpec.upto boxKeysSpec)

/-- 'sealwrightlaw4.BoxLimits', WHERE WHAT IT READS IS OF BULK AT MOST 1048576: true; the input reads as it did. -/
def boxLimitsUptoRow : OpenClaim := { program := "ytchdeeghccdphaadoor", sum := "67ccd1ae3daa57fba5a80f6f54ee04567d4a129a39ac6d40fe84385df2672215", func := "sealwright/sealwrightlaw4.BoxLimits", spec := "boxLimits", unfollowed := true, recurses := true, named := ["sealwright/digest.round256"], apart := false, laid := [("sealwright/digest.round256", laid_sealwright_digest_round256)], narrowed := true }
def BoxLimitsUptoSaid : Prop := boxLimitsUptoRow.holds Tryd.pinned (OpenSpec.upto boxLimitsSpec)

/-- 'sealwrightlaw4.BoxStream', WHERE WHAT IT READS IS OF BULK AT MOST 1048576: true; the input reads as it did. -/
def boxStreamUptoRow : OpenClaim := { program := "ytchdeeghccdphaadoor", sum := "67ccd1ae3daa57fba5a80f6f54ee04567d4a129a39ac6d40fe84385df2672215", func := "sealwright/sealwrightlaw4.BoxStream", spec := "boxStream", unfollowed := true, recurses := true, named := ["sealwright/digest.round256"], apart := false, laid := [("sealwright/digest.round256", laid_sealwright_digest_round256)], narrowed := true }
def BoxStreamUptoSaid : Prop := boxStreamUptoRow.holds Tryd.pinned (OpenSpec.upto boxStreamSpec)

end Rows
end Go.Proofs.YtchdeeghccdphaaDoor
