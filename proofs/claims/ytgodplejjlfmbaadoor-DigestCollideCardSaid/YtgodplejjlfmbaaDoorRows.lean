/-
  NARROWER THAN 'FOR EVERY INPUT', by the rows' own cells (each row's printed sentence says how): DigestSum: laid · DigestPadding: laid · DigestCollide: laid · DigestSize: laid · DigestInjective: laid · DigestBorders: laid · DigestFrame: laid.
  DERIVED. THE GIVEN ROWS OF THIS SEAT. 7 by the template 'for every input the law returns true; each argument reads behind the call as it read before'; 0 by the template 'total and deterministic' (their statements: YtgodplejjlfmbaaDoorTotals.lean).
  GIVEN WITH THE SEED: the statements are not yours to turn. If you find one false, say at which input.
  Laid BY PROGRAM, IN A SANDBOX (cutbox-rows.mjs): the forced cells as the released guide's own fill.sh prints them over the translation 0ce6b8658c5cdcd5… (all of the seat's roots in one cut). By AI agents, Wed Nov 11 2026. No macro, syntax, notation, axiom, sorry.
-/
import Derived.Test.YtgodplejjlfmbaaDoorChecked
import GoSem.Claim
import GoSem.ClaimJoined
import GoSem.ClaimMapViews
import Derived.JoinedTies
import Derived.KernelRfl
namespace Go.Proofs.YtgodplejjlfmbaaDoor
/- THE CELL 'sum', in the pinned program and in every row, IS THE sha256 OF THE DUMP (.gsa) THAT YtgodplejjlfmbaaDoorProg.lean LOADS. Nothing in Lean hashes anything: it is a label: what it is worth is what the hold of that sum in a sandbox is worth. -/
noncomputable def Tryd.pinned : Pinned := { name := "ytgodplejjlfmbaadoor", sum := "0ce6b8658c5cdcd5f2cc74b5ad4c1b8fe980bdf29d6e823b7a7a25bead938f92", checked := Tryd.checked }
namespace Rows
def none {H : Type} : Left H := { results := [], args := [] }

/- WHAT THE LISTED PACKAGE-LEVEL VARIABLES READ AS WHEN THE CALL BEGINS. Each datum BY PROGRAM (the guide's laid-datum.mjs) off the statement by which the dump's own 'gosem.cut.vars' lays the variable. In a bare row this is a premise. The card (YtgodplejjlfmbaaDoorCards.lean) ties it to the program's text. -/
def laid_sealwright_digest_round256 {H : Type} : DataW H := .agg [.lit (.int .u32 1116352408), .lit (.int .u32 1899447441), .lit (.int .u32 3049323471), .lit (.int .u32 3921009573), .lit (.int .u32 961987163), .lit (.int .u32 1508970993), .lit (.int .u32 2453635748), .lit (.int .u32 2870763221), .lit (.int .u32 3624381080), .lit (.int .u32 310598401), .lit (.int .u32 607225278), .lit (.int .u32 1426881987), .lit (.int .u32 1925078388), .lit (.int .u32 2162078206), .lit (.int .u32 2614888103), .lit (.int .u32 3248222580), .lit (.int .u32 3835390401), .lit (.int .u32 4022224774), .lit (.int .u32 264347078), .lit (.int .u32 604807628), .lit (.int .u32 770255983), .lit (.int .u32 1249150122), .lit (.int .u32 1555081692), .lit (.int .u32 1996064986), .lit (.int .u32 2554220882), .lit (.int .u32 2821834349), .lit (.int .u32 2952996808), .lit (.int .u32 3210313671), .lit (.int .u32 3336571891), .lit (.int .u32 3584528711), .lit (.int .u32 113926993), .lit (.int .u32 338241895), .lit (.int .u32 666307205), .lit (.int .u32 773529912), .lit (.int .u32 1294757372), .lit (.int .u32 1396182291), .lit (.int .u32 1695183700), .lit (.int .u32 1986661051), .lit (.int .u32 2177026350), .lit (.int .u32 2456956037), .lit (.int .u32 2730485921), .lit (.int .u32 2820302411), .lit (.int .u32 3259730800), .lit (.int .u32 3345764771), .lit (.int .u32 3516065817), .lit (.int .u32 3600352804), .lit (.int .u32 4094571909), .lit (.int .u32 275423344), .lit (.int .u32 430227734), .lit (.int .u32 506948616), .lit (.int .u32 659060556), .lit (.int .u32 883997877), .lit (.int .u32 958139571), .lit (.int .u32 1322822218), .lit (.int .u32 1537002063), .lit (.int .u32 1747873779), .lit (.int .u32 1955562222), .lit (.int .u32 2024104815), .lit (.int .u32 2227730452), .lit (.int .u32 2361852424), .lit (.int .u32 2428436474), .lit (.int .u32 2756734187), .lit (.int .u32 3204031479), .lit (.int .u32 3329325298)]

/-- 'sealwrightlaw1.DigestSum': WHATEVER THE INPUT: true; the input reads as it did. -/
def digestSumSpec : ChangeSpec := { name := "digestSum", fn := fun _ => fun
  | [d1, d2] => { results := [.lit (.bool true)], args := [d1, d2] }
  | _ => none }
def digestSumRow : OpenClaim := { program := "ytgodplejjlfmbaadoor", sum := "0ce6b8658c5cdcd5f2cc74b5ad4c1b8fe980bdf29d6e823b7a7a25bead938f92", func := "sealwright/sealwrightlaw1.DigestSum", spec := "digestSum", named := ["sealwright/digest.round256"], apart := false, laid := [("sealwright/digest.round256", laid_sealwright_digest_round256)] }
def DigestSumSaid : Prop := digestSumRow.holds Tryd.pinned (OpenSpec.ofChange digestSumSpec)

/-- ITS FALSE NEIGHBOUR: 'it returns false'. Refute it at one input. -/
def digestSumWrong : ChangeSpec := { name := "digestSum", fn := fun _ => fun
  | [d1, d2] => { results := [.lit (.bool false)], args := [d1, d2] }
  | _ => none }
def DigestSumWrongFalsely : Prop := digestSumRow.holds Tryd.pinned (OpenSpec.ofChange digestSumWrong)

/-- 'sealwrightlaw1.DigestPadding': WHATEVER THE INPUT: true; the input reads as it did. -/
def digestPaddingSpec : ChangeSpec := { name := "digestPadding", fn := fun _ => fun
  | [d1, d2] => { results := [.lit (.bool true)], args := [d1, d2] }
  | _ => none }
def digestPaddingRow : OpenClaim := { program := "ytgodplejjlfmbaadoor", sum := "0ce6b8658c5cdcd5f2cc74b5ad4c1b8fe980bdf29d6e823b7a7a25bead938f92", func := "sealwright/sealwrightlaw1.DigestPadding", spec := "digestPadding", named := ["sealwright/digest.round256"], apart := false, laid := [("sealwright/digest.round256", laid_sealwright_digest_round256)] }
def DigestPaddingSaid : Prop := digestPaddingRow.holds Tryd.pinned (OpenSpec.ofChange digestPaddingSpec)

/-- ITS FALSE NEIGHBOUR: 'it returns false'. Refute it at one input. -/
def digestPaddingWrong : ChangeSpec := { name := "digestPadding", fn := fun _ => fun
  | [d1, d2] => { results := [.lit (.bool false)], args := [d1, d2] }
  | _ => none }
def DigestPaddingWrongFalsely : Prop := digestPaddingRow.holds Tryd.pinned (OpenSpec.ofChange digestPaddingWrong)

/-- 'sealwrightlaw1.DigestCollide': WHATEVER THE INPUT: true; the input reads as it did. -/
def digestCollideSpec : ChangeSpec := { name := "digestCollide", fn := fun _ => fun
  | [d1, d2, d3] => { results := [.lit (.bool true)], args := [d1, d2, d3] }
  | _ => none }
def digestCollideRow : OpenClaim := { program := "ytgodplejjlfmbaadoor", sum := "0ce6b8658c5cdcd5f2cc74b5ad4c1b8fe980bdf29d6e823b7a7a25bead938f92", func := "sealwright/sealwrightlaw1.DigestCollide", spec := "digestCollide", named := ["sealwright/digest.round256"], apart := false, laid := [("sealwright/digest.round256", laid_sealwright_digest_round256)] }
def DigestCollideSaid : Prop := digestCollideRow.holds Tryd.pinned (OpenSpec.ofChange digestCollideSpec)

/-- ITS FALSE NEIGHBOUR: 'it returns false'. Refute it at one input. -/
def digestCollideWrong : ChangeSpec := { name := "digestCollide", fn := fun _ => fun
  | [d1, d2, d3] => { results := [.lit (.bool false)], args := [d1, d2, d3] }
  | _ => none }
def DigestCollideWrongFalsely : Prop := digestCollideRow.holds Tryd.pinned (OpenSpec.ofChange digestCollideWrong)

/-- 'sealwrightlaw1.DigestSize': WHATEVER THE INPUT: true; the input reads as it did. -/
def digestSizeSpec : ChangeSpec := { name := "digestSize", fn := fun _ => fun
  | [d1, d2] => { results := [.lit (.bool true)], args := [d1, d2] }
  | _ => none }
def digestSizeRow : OpenClaim := { program := "ytgodplejjlfmbaadoor", sum := "0ce6b8658c5cdcd5f2cc74b5ad4c1b8fe980bdf29d6e823b7a7a25bead938f92", func := "sealwright/sealwrightlaw1.DigestSize", spec := "digestSize", named := ["sealwright/digest.round256"], apart := false, laid := [("sealwright/digest.round256", laid_sealwright_digest_round256)] }
def DigestSizeSaid : Prop := digestSizeRow.holds Tryd.pinned (OpenSpec.ofChange digestSizeSpec)

/-- ITS FALSE NEIGHBOUR: 'it returns false'. Refute it at one input. -/
def digestSizeWrong : ChangeSpec := { name := "digestSize", fn := fun _ => fun
  | [d1, d2] => { results := [.lit (.bool false)], args := [d1, d2] }
  | _ => none }
def DigestSizeWrongFalsely : Prop := digestSizeRow.holds Tryd.pinned (OpenSpec.ofChange digestSizeWrong)

/-- 'sealwrightlaw1.DigestInjective': WHATEVER THE INPUT: true; the input reads as it did. -/
def digestInjectiveSpec : ChangeSpec := { name := "digestInjective", fn := fun _ => fun
  | [d1, d2, d3, d4] => { results := [.lit (.bool true)], args := [d1, d2, d3, d4] }
  | _ => none }
def digestInjectiveRow : OpenClaim := { program := "ytgodplejjlfmbaadoor", sum := "0ce6b8658c5cdcd5f2cc74b5ad4c1b8fe980bdf29d6e823b7a7a25bead938f92", func := "sealwright/sealwrightlaw1.DigestInjective", spec := "digestInjective", named := ["sealwright/digest.round256"], apart := false, laid := [("sealwright/digest.round256", laid_sealwright_digest_round256)] }
def DigestInjectiveSaid : Prop := digestInjectiveRow.holds Tryd.pinned (OpenSpec.ofChange digestInjectiveSpec)

/-- ITS FALSE NEIGHBOUR: 'it returns false'. Refute it at one input. -/
def digestInjectiveWrong : ChangeSpec := { name := "digestInjective", fn := fun _ => fun
  | [d1, d2, d3, d4] => { results := [.lit (.bool false)], args := [d1, d2, d3, d4] }
  | _ => none }
def DigestInjectiveWrongFalsely : Prop := digestInjectiveRow.holds Tryd.pinned (OpenSpec.ofChange digestInjectiveWrong)

/-- 'sealwrightlaw1.DigestBorders': WHATEVER THE INPUT: true; the input reads as it did. -/
def digestBordersSpec : ChangeSpec := { name := "digestBorders", fn := fun _ => fun
  | [d1, d2, d3, d4] => { results := [.lit (.bool true)], args := [d1, d2, d3, d4] }
  | _ => none }
def digestBordersRow : OpenClaim := { program := "ytgodplejjlfmbaadoor", sum := "0ce6b8658c5cdcd5f2cc74b5ad4c1b8fe980bdf29d6e823b7a7a25bead938f92", func := "sealwright/sealwrightlaw1.DigestBorders", spec := "digestBorders", named := ["sealwright/digest.round256"], apart := false, laid := [("sealwright/digest.round256", laid_sealwright_digest_round256)] }
def DigestBordersSaid : Prop := digestBordersRow.holds Tryd.pinned (OpenSpec.ofChange digestBordersSpec)

/-- ITS FALSE NEIGHBOUR: 'it returns false'. Refute it at one input. -/
def digestBordersWrong : ChangeSpec := { name := "digestBorders", fn := fun _ => fun
  | [d1, d2, d3, d4] => { results := [.lit (.bool false)], args := [d1, d2, d3, d4] }
  | _ => none }
def DigestBordersWrongFalsely : Prop := digestBordersRow.holds Tryd.pinned (OpenSpec.ofChange digestBordersWrong)

/-- 'sealwrightlaw1.DigestFrame': WHATEVER THE INPUT: true; the input reads as it did. -/
def digestFrameSpec : ChangeSpec := { name := "digestFrame", fn := fun _ => fun
  | [d1, d2] => { results := [.lit (.bool true)], args := [d1, d2] }
  | _ => none }
def digestFrameRow : OpenClaim := { program := "ytgodplejjlfmbaadoor", sum := "0ce6b8658c5cdcd5f2cc74b5ad4c1b8fe980bdf29d6e823b7a7a25bead938f92", func := "sealwright/sealwrightlaw1.DigestFrame", spec := "digestFrame", named := ["sealwright/digest.round256"], apart := false, laid := [("sealwright/digest.round256", laid_sealwright_digest_round256)] }
def DigestFrameSaid : Prop := digestFrameRow.holds Tryd.pinned (OpenSpec.ofChange digestFrameSpec)

/-- ITS FALSE NEIGHBOUR: 'it returns false'. Refute it at one input. -/
def digestFrameWrong : ChangeSpec := { name := "digestFrame", fn := fun _ => fun
  | [d1, d2] => { results := [.lit (.bool false)], args := [d1, d2] }
  | _ => none }
def DigestFrameWrongFalsely : Prop := digestFrameRow.holds Tryd.pinned (OpenSpec.ofChange digestFrameWrong)

/- THE SECOND FORM. 'bulk': how many values and letters a reading holds, each counted each time it is reached (what is shared counts as often as it is met; a slice's spare places count too). A statement '..UptoSaid' is the law's where the arguments, and the package variables that the reading takes, are together of bulk at most 1048576: NARROWER than '..Said'. Prove '..Said' where nothing that the law and all that it calls make is longer than what came in: it says more and counts as full. Else prove '..UptoSaid'. A law counts once. -/
mutual
def uptoBulk {H : Type} : DataW H → Nat
  | .lit (.string bytes) => bytes.length + 1
  | .lit _ => 1
  | .nil => 1
  | .ptr d => uptoBulk d + 1
  | .slice elems spare => uptoBulkAll elems + uptoBulkAll spare + 1
  | .agg parts => uptoBulkAll parts + 1
  | .iface _ d => uptoBulk d + 1
  | .map entries => uptoBulkEntries entries + 1
  | .held _ => 1
def uptoBulkAll {H : Type} : List (DataW H) → Nat
  | [] => 0
  | d :: r => uptoBulk d + uptoBulkAll r
def uptoBulkEntries {H : Type} : List (Lit × DataW H) → Nat
  | [] => 0
  | x :: r => uptoBulkEntry x + uptoBulkEntries r
def uptoBulkEntry {H : Type} : Lit × DataW H → Nat
  | (.string bytes, d) => bytes.length + uptoBulk d + 1
  | (_, d) => uptoBulk d + 1
 end
def uptoSmall : (H : Type) → List (DataW H) → Bool := fun _ ds => decide (uptoBulkAll ds ≤ 1048576)
def OpenSpec.upto (s : _root_.Go.ChangeSpec) : _root_.Go.OpenSpec := { _root_.Go.OpenSpec.ofChange s with cond := some uptoSmall }

/-- 'sealwrightlaw1.DigestSum', WHERE WHAT IT READS IS OF BULK AT MOST 1048576: true; the input reads as it did. -/
def digestSumUptoRow : OpenClaim := { program := "ytgodplejjlfmbaadoor", sum := "0ce6b8658c5cdcd5f2cc74b5ad4c1b8fe980bdf29d6e823b7a7a25bead938f92", func := "sealwright/sealwrightlaw1.DigestSum", spec := "digestSum", named := ["sealwright/digest.round256"], apart := false, laid := [("sealwright/digest.round256", laid_sealwright_digest_round256)], narrowed := true }
def DigestSumUptoSaid : Prop := digestSumUptoRow.holds Tryd.pinned (OpenSpec.upto digestSumSpec)

/-- 'sealwrightlaw1.DigestPadding', WHERE WHAT IT READS IS OF BULK AT MOST 1048576: true; the input reads as it did. -/
def digestPaddingUptoRow : OpenClaim := { program := "ytgodplejjlfmbaadoor", sum := "0ce6b8658c5cdcd5f2cc74b5ad4c1b8fe980bdf29d6e823b7a7a25bead938f92", func := "sealwright/sealwrightlaw1.DigestPadding", spec := "digestPadding", named := ["sealwright/digest.round256"], apart := false, laid := [("sealwright/digest.round256", laid_sealwright_digest_round256)], narrowed := true }
def DigestPaddingUptoSaid : Prop := digestPaddingUptoRow.holds Tryd.pinned (OpenSpec.upto digestPaddingSpec)

/-- 'sealwrightlaw1.DigestCollide', WHERE WHAT IT READS IS OF BULK AT MOST 1048576: true; the input reads as it did. -/
def digestCollideUptoRow : OpenClaim := { program := "ytgodplejjlfmbaadoor", sum := "0ce6b8658c5cdcd5f2cc74b5ad4c1b8fe980bdf29d6e823b7a7a25bead938f92", func := "sealwright/sealwrightlaw1.DigestCollide", spec := "digestCollide", named := ["sealwright/digest.round256"], apart := false, laid := [("sealwright/digest.round256", laid_sealwright_digest_round256)], narrowed := true }
def DigestCollideUptoSaid : Prop := digestCollideUptoRow.holds Tryd.pinned (OpenSpec.upto digestCollideSpec)

/-- 'sealwrightlaw1.DigestSize', WHERE WHAT IT READS IS OF BULK AT MOST 1048576: true; the input reads as it did. -/
def digestSizeUptoRow : OpenClaim := { program := "ytgodplejjlfmbaadoor", sum := "0ce6b8658c5cdcd5f2cc74b5ad4c1b8fe980bdf29d6e823b7a7a25bead938f92", func := "sealwright/sealwrightlaw1.DigestSize", spec := "digestSize", named := ["sealwright/digest.round256"], apart := false, laid := [("sealwright/digest.round256", laid_sealwright_digest_round256)], narrowed := true }
def DigestSizeUptoSaid : Prop := digestSizeUptoRow.holds Tryd.pinned (OpenSpec.upto digestSizeSpec)

/-- 'sealwrightlaw1.DigestInjective', WHERE WHAT IT READS IS OF BULK AT MOST 1048576: true; the input reads as it did. -/
def digestInjectiveUptoRow : OpenClaim := { program := "ytgodplejjlfmbaadoor", sum := "0ce6b8658c5cdcd5f2cc74b5ad4c1b8fe980bdf29d6e823b7a7a25bead938f92", func := "sealwright/sealwrightlaw1.DigestInjective", spec := "digestInjective", named := ["sealwright/digest.round256"], apart := false, laid := [("sealwright/digest.round256", laid_sealwright_digest_round256)], narrowed := true }
def DigestInjectiveUptoSaid : Prop := digestInjectiveUptoRow.holds Tryd.pinned (OpenSpec.upto digestInjectiveSpec)

/-- 'sealwrightlaw1.DigestBorders', WHERE WHAT IT READS IS OF BULK AT MOST 1048576: true; the input reads as it did. -/
def digestBordersUptoRow : OpenClaim := { program := "ytgodplejjlfmbaadoor", sum := "0ce6b8658c5cdcd5f2cc74b5ad4c1b8fe980bdf29d6e823b7a7a25bead938f92", func := "sealwright/sealwrightlaw1.DigestBorders", spec := "digestBorders", named := ["sealwright/digest.round256"], apart := false, laid := [("sealwright/digest.round256", laid_sealwright_digest_round256)], narrowed := true }
def DigestBordersUptoSaid : Prop := digestBordersUptoRow.holds Tryd.pinned (OpenSpec.upto digestBordersSpec)

/-- 'sealwrightlaw1.DigestFrame', WHERE WHAT IT READS IS OF BULK AT MOST 1048576: true; the input reads as it did. -/
def digestFrameUptoRow : OpenClaim := { program := "ytgodplejjlfmbaadoor", sum := "0ce6b8658c5cdcd5f2cc74b5ad4c1b8fe980bdf29d6e823b7a7a25bead938f92", func := "sealwright/sealwrightlaw1.DigestFrame", spec := "digestFrame", named := ["sealwright/digest.round256"], apart := false, laid := [("sealwright/digest.round256", laid_sealwright_digest_round256)], narrowed := true }
def DigestFrameUptoSaid : Prop := digestFrameUptoRow.holds Tryd.pinned (OpenSpec.upto digestFrameSpec)

end Rows
end Go.Proofs.YtgodplejjlfmbaaDoor
