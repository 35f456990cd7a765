/-
  NARROWER THAN 'FOR EVERY INPUT', by the rows' own cells (each row's printed sentence says how): TreeRoot: laid · TreePath: laid · TreeClimb: laid · TreeTrip: laid · TreeBinding: laid · TreeSwap: laid · OnetimeDigits: laid · OnetimeChecksum: laid · OnetimePublic: laid · OnetimeSign: laid · OnetimeRecover: laid · OnetimeTrip: laid · OnetimeCross: laid.
  DERIVED. THE GIVEN ROWS OF THIS SEAT. 13 by the template 'for every input the law returns true; each argument reads behind the call as it read before'; 0 by the template 'total and deterministic' (their statements: YtlaglaehkhmklaaDoorTotals.lean).
  GIVEN WITH THE SEED: the statements are not yours to turn. If you find one false, say at which input.
  Laid BY PROGRAM, IN A SANDBOX (cutbox-rows.mjs): the forced cells as the released guide's own fill.sh prints them over the translation 18c17b4068e873f0… (all of the seat's roots in one cut). By AI agents, Wed Nov 11 2026. No macro, syntax, notation, axiom, sorry.
-/
import Derived.Test.YtlaglaehkhmklaaDoorChecked
import GoSem.Claim
import GoSem.ClaimJoined
import GoSem.ClaimMapViews
import Derived.JoinedTies
import Derived.KernelRfl
namespace Go.Proofs.YtlaglaehkhmklaaDoor
/- THE CELL 'sum', in the pinned program and in every row, IS THE sha256 OF THE DUMP (.gsa) THAT YtlaglaehkhmklaaDoorProg.lean LOADS. Nothing in Lean hashes anything: it is a label: what it is worth is what the hold of that sum in a sandbox is worth. -/
noncomputable def Tryd.pinned : Pinned := { name := "ytlaglaehkhmklaadoor", sum := "18c17b4068e873f0be149687060356b01e1fbd709f600b80331a161c4d7cb406", checked := Tryd.checked }
namespace Rows
def none {H : Type} : Left H := { results := [], args := [] }

/- WHAT THE LISTED PACKAGE-LEVEL VARIABLES READ AS WHEN THE CALL BEGINS. Each datum BY PROGRAM (the guide's laid-datum.mjs) off the statement by which the dump's own 'gosem.cut.vars' lays the variable. In a bare row this is a premise. The card (YtlaglaehkhmklaaDoorCards.lean) ties it to the program's text. -/
def laid_sealwright_digest_round256 {H : Type} : DataW H := .agg [.lit (.int .u32 1116352408), .lit (.int .u32 1899447441), .lit (.int .u32 3049323471), .lit (.int .u32 3921009573), .lit (.int .u32 961987163), .lit (.int .u32 1508970993), .lit (.int .u32 2453635748), .lit (.int .u32 2870763221), .lit (.int .u32 3624381080), .lit (.int .u32 310598401), .lit (.int .u32 607225278), .lit (.int .u32 1426881987), .lit (.int .u32 1925078388), .lit (.int .u32 2162078206), .lit (.int .u32 2614888103), .lit (.int .u32 3248222580), .lit (.int .u32 3835390401), .lit (.int .u32 4022224774), .lit (.int .u32 264347078), .lit (.int .u32 604807628), .lit (.int .u32 770255983), .lit (.int .u32 1249150122), .lit (.int .u32 1555081692), .lit (.int .u32 1996064986), .lit (.int .u32 2554220882), .lit (.int .u32 2821834349), .lit (.int .u32 2952996808), .lit (.int .u32 3210313671), .lit (.int .u32 3336571891), .lit (.int .u32 3584528711), .lit (.int .u32 113926993), .lit (.int .u32 338241895), .lit (.int .u32 666307205), .lit (.int .u32 773529912), .lit (.int .u32 1294757372), .lit (.int .u32 1396182291), .lit (.int .u32 1695183700), .lit (.int .u32 1986661051), .lit (.int .u32 2177026350), .lit (.int .u32 2456956037), .lit (.int .u32 2730485921), .lit (.int .u32 2820302411), .lit (.int .u32 3259730800), .lit (.int .u32 3345764771), .lit (.int .u32 3516065817), .lit (.int .u32 3600352804), .lit (.int .u32 4094571909), .lit (.int .u32 275423344), .lit (.int .u32 430227734), .lit (.int .u32 506948616), .lit (.int .u32 659060556), .lit (.int .u32 883997877), .lit (.int .u32 958139571), .lit (.int .u32 1322822218), .lit (.int .u32 1537002063), .lit (.int .u32 1747873779), .lit (.int .u32 1955562222), .lit (.int .u32 2024104815), .lit (.int .u32 2227730452), .lit (.int .u32 2361852424), .lit (.int .u32 2428436474), .lit (.int .u32 2756734187), .lit (.int .u32 3204031479), .lit (.int .u32 3329325298)]

/-- 'sealwrightlaw6.TreeRoot': WHATEVER THE INPUT: true; the input reads as it did. -/
def treeRootSpec : ChangeSpec := { name := "treeRoot", fn := fun _ => fun
  | [d1, d2] => { results := [.lit (.bool true)], args := [d1, d2] }
  | _ => none }
def treeRootRow : OpenClaim := { program := "ytlaglaehkhmklaadoor", sum := "18c17b4068e873f0be149687060356b01e1fbd709f600b80331a161c4d7cb406", func := "sealwright/sealwrightlaw6.TreeRoot", spec := "treeRoot", named := ["sealwright/digest.round256"], apart := false, laid := [("sealwright/digest.round256", laid_sealwright_digest_round256)] }
def TreeRootSaid : Prop := treeRootRow.holds Tryd.pinned (OpenSpec.ofChange treeRootSpec)

/-- ITS FALSE NEIGHBOUR: 'it returns false'. Refute it at one input. -/
def treeRootWrong : ChangeSpec := { name := "treeRoot", fn := fun _ => fun
  | [d1, d2] => { results := [.lit (.bool false)], args := [d1, d2] }
  | _ => none }
def TreeRootWrongFalsely : Prop := treeRootRow.holds Tryd.pinned (OpenSpec.ofChange treeRootWrong)

/-- 'sealwrightlaw6.TreePath': WHATEVER THE INPUT: true; the input reads as it did. -/
def treePathSpec : ChangeSpec := { name := "treePath", fn := fun _ => fun
  | [d1, d2, d3] => { results := [.lit (.bool true)], args := [d1, d2, d3] }
  | _ => none }
def treePathRow : OpenClaim := { program := "ytlaglaehkhmklaadoor", sum := "18c17b4068e873f0be149687060356b01e1fbd709f600b80331a161c4d7cb406", func := "sealwright/sealwrightlaw6.TreePath", spec := "treePath", named := ["sealwright/digest.round256"], apart := false, laid := [("sealwright/digest.round256", laid_sealwright_digest_round256)] }
def TreePathSaid : Prop := treePathRow.holds Tryd.pinned (OpenSpec.ofChange treePathSpec)

/-- ITS FALSE NEIGHBOUR: 'it returns false'. Refute it at one input. -/
def treePathWrong : ChangeSpec := { name := "treePath", fn := fun _ => fun
  | [d1, d2, d3] => { results := [.lit (.bool false)], args := [d1, d2, d3] }
  | _ => none }
def TreePathWrongFalsely : Prop := treePathRow.holds Tryd.pinned (OpenSpec.ofChange treePathWrong)

/-- 'sealwrightlaw6.TreeClimb': WHATEVER THE INPUT: true; the input reads as it did. -/
def treeClimbSpec : ChangeSpec := { name := "treeClimb", fn := fun _ => fun
  | [d1, d2, d3] => { results := [.lit (.bool true)], args := [d1, d2, d3] }
  | _ => none }
def treeClimbRow : OpenClaim := { program := "ytlaglaehkhmklaadoor", sum := "18c17b4068e873f0be149687060356b01e1fbd709f600b80331a161c4d7cb406", func := "sealwright/sealwrightlaw6.TreeClimb", spec := "treeClimb", named := ["sealwright/digest.round256"], apart := false, laid := [("sealwright/digest.round256", laid_sealwright_digest_round256)] }
def TreeClimbSaid : Prop := treeClimbRow.holds Tryd.pinned (OpenSpec.ofChange treeClimbSpec)

/-- ITS FALSE NEIGHBOUR: 'it returns false'. Refute it at one input. -/
def treeClimbWrong : ChangeSpec := { name := "treeClimb", fn := fun _ => fun
  | [d1, d2, d3] => { results := [.lit (.bool false)], args := [d1, d2, d3] }
  | _ => none }
def TreeClimbWrongFalsely : Prop := treeClimbRow.holds Tryd.pinned (OpenSpec.ofChange treeClimbWrong)

/-- 'sealwrightlaw6.TreeTrip': WHATEVER THE INPUT: true; the input reads as it did. -/
def treeTripSpec : ChangeSpec := { name := "treeTrip", fn := fun _ => fun
  | [d1, d2] => { results := [.lit (.bool true)], args := [d1, d2] }
  | _ => none }
def treeTripRow : OpenClaim := { program := "ytlaglaehkhmklaadoor", sum := "18c17b4068e873f0be149687060356b01e1fbd709f600b80331a161c4d7cb406", func := "sealwright/sealwrightlaw6.TreeTrip", spec := "treeTrip", named := ["sealwright/digest.round256"], apart := false, laid := [("sealwright/digest.round256", laid_sealwright_digest_round256)] }
def TreeTripSaid : Prop := treeTripRow.holds Tryd.pinned (OpenSpec.ofChange treeTripSpec)

/-- ITS FALSE NEIGHBOUR: 'it returns false'. Refute it at one input. -/
def treeTripWrong : ChangeSpec := { name := "treeTrip", fn := fun _ => fun
  | [d1, d2] => { results := [.lit (.bool false)], args := [d1, d2] }
  | _ => none }
def TreeTripWrongFalsely : Prop := treeTripRow.holds Tryd.pinned (OpenSpec.ofChange treeTripWrong)

/-- 'sealwrightlaw6.TreeBinding': WHATEVER THE INPUT: true; the input reads as it did. -/
def treeBindingSpec : ChangeSpec := { name := "treeBinding", fn := fun _ => fun
  | [d1, d2, d3, d4, d5] => { results := [.lit (.bool true)], args := [d1, d2, d3, d4, d5] }
  | _ => none }
def treeBindingRow : OpenClaim := { program := "ytlaglaehkhmklaadoor", sum := "18c17b4068e873f0be149687060356b01e1fbd709f600b80331a161c4d7cb406", func := "sealwright/sealwrightlaw6.TreeBinding", spec := "treeBinding", named := ["sealwright/digest.round256"], apart := false, laid := [("sealwright/digest.round256", laid_sealwright_digest_round256)] }
def TreeBindingSaid : Prop := treeBindingRow.holds Tryd.pinned (OpenSpec.ofChange treeBindingSpec)

/-- ITS FALSE NEIGHBOUR: 'it returns false'. Refute it at one input. -/
def treeBindingWrong : ChangeSpec := { name := "treeBinding", fn := fun _ => fun
  | [d1, d2, d3, d4, d5] => { results := [.lit (.bool false)], args := [d1, d2, d3, d4, d5] }
  | _ => none }
def TreeBindingWrongFalsely : Prop := treeBindingRow.holds Tryd.pinned (OpenSpec.ofChange treeBindingWrong)

/-- 'sealwrightlaw6.TreeSwap': WHATEVER THE INPUT: true; the input reads as it did. -/
def treeSwapSpec : ChangeSpec := { name := "treeSwap", fn := fun _ => fun
  | [d1, d2, d3, d4] => { results := [.lit (.bool true)], args := [d1, d2, d3, d4] }
  | _ => none }
def treeSwapRow : OpenClaim := { program := "ytlaglaehkhmklaadoor", sum := "18c17b4068e873f0be149687060356b01e1fbd709f600b80331a161c4d7cb406", func := "sealwright/sealwrightlaw6.TreeSwap", spec := "treeSwap", named := ["sealwright/digest.round256"], apart := false, laid := [("sealwright/digest.round256", laid_sealwright_digest_round256)] }
def TreeSwapSaid : Prop := treeSwapRow.holds Tryd.pinned (OpenSpec.ofChange treeSwapSpec)

/-- ITS FALSE NEIGHBOUR: 'it returns false'. Refute it at one input. -/
def treeSwapWrong : ChangeSpec := { name := "treeSwap", fn := fun _ => fun
  | [d1, d2, d3, d4] => { results := [.lit (.bool false)], args := [d1, d2, d3, d4] }
  | _ => none }
def TreeSwapWrongFalsely : Prop := treeSwapRow.holds Tryd.pinned (OpenSpec.ofChange treeSwapWrong)

/-- 'sealwrightlaw5.OnetimeDigits': WHATEVER THE INPUT: true; the input reads as it did. -/
def onetimeDigitsSpec : ChangeSpec := { name := "onetimeDigits", fn := fun _ => fun
  | [d] => { results := [.lit (.bool true)], args := [d] }
  | _ => none }
def onetimeDigitsRow : OpenClaim := { program := "ytlaglaehkhmklaadoor", sum := "18c17b4068e873f0be149687060356b01e1fbd709f600b80331a161c4d7cb406", func := "sealwright/sealwrightlaw5.OnetimeDigits", spec := "onetimeDigits", unfollowed := true, recurses := true, named := ["sealwright/digest.round256"], apart := false, laid := [("sealwright/digest.round256", laid_sealwright_digest_round256)] }
def OnetimeDigitsSaid : Prop := onetimeDigitsRow.holds Tryd.pinned (OpenSpec.ofChange onetimeDigitsSpec)

/-- ITS FALSE NEIGHBOUR: 'it returns false'. Refute it at one input. -/
def onetimeDigitsWrong : ChangeSpec := { name := "onetimeDigits", fn := fun _ => fun
  | [d] => { results := [.lit (.bool false)], args := [d] }
  | _ => none }
def OnetimeDigitsWrongFalsely : Prop := onetimeDigitsRow.holds Tryd.pinned (OpenSpec.ofChange onetimeDigitsWrong)

/-- 'sealwrightlaw5.OnetimeChecksum': WHATEVER THE INPUT: true; the input reads as it did. -/
def onetimeChecksumSpec : ChangeSpec := { name := "onetimeChecksum", fn := fun _ => fun
  | [d] => { results := [.lit (.bool true)], args := [d] }
  | _ => none }
def onetimeChecksumRow : OpenClaim := { program := "ytlaglaehkhmklaadoor", sum := "18c17b4068e873f0be149687060356b01e1fbd709f600b80331a161c4d7cb406", func := "sealwright/sealwrightlaw5.OnetimeChecksum", spec := "onetimeChecksum", unfollowed := true, recurses := true, named := ["sealwright/digest.round256"], apart := false, laid := [("sealwright/digest.round256", laid_sealwright_digest_round256)] }
def OnetimeChecksumSaid : Prop := onetimeChecksumRow.holds Tryd.pinned (OpenSpec.ofChange onetimeChecksumSpec)

/-- ITS FALSE NEIGHBOUR: 'it returns false'. Refute it at one input. -/
def onetimeChecksumWrong : ChangeSpec := { name := "onetimeChecksum", fn := fun _ => fun
  | [d] => { results := [.lit (.bool false)], args := [d] }
  | _ => none }
def OnetimeChecksumWrongFalsely : Prop := onetimeChecksumRow.holds Tryd.pinned (OpenSpec.ofChange onetimeChecksumWrong)

/-- 'sealwrightlaw5.OnetimePublic': WHATEVER THE INPUT: true; the input reads as it did. -/
def onetimePublicSpec : ChangeSpec := { name := "onetimePublic", fn := fun _ => fun
  | [d1, d2] => { results := [.lit (.bool true)], args := [d1, d2] }
  | _ => none }
def onetimePublicRow : OpenClaim := { program := "ytlaglaehkhmklaadoor", sum := "18c17b4068e873f0be149687060356b01e1fbd709f600b80331a161c4d7cb406", func := "sealwright/sealwrightlaw5.OnetimePublic", spec := "onetimePublic", unfollowed := true, recurses := true, named := ["sealwright/digest.round256"], apart := false, laid := [("sealwright/digest.round256", laid_sealwright_digest_round256)] }
def OnetimePublicSaid : Prop := onetimePublicRow.holds Tryd.pinned (OpenSpec.ofChange onetimePublicSpec)

/-- ITS FALSE NEIGHBOUR: 'it returns false'. Refute it at one input. -/
def onetimePublicWrong : ChangeSpec := { name := "onetimePublic", fn := fun _ => fun
  | [d1, d2] => { results := [.lit (.bool false)], args := [d1, d2] }
  | _ => none }
def OnetimePublicWrongFalsely : Prop := onetimePublicRow.holds Tryd.pinned (OpenSpec.ofChange onetimePublicWrong)

/-- 'sealwrightlaw5.OnetimeSign': WHATEVER THE INPUT: true; the input reads as it did. -/
def onetimeSignSpec : ChangeSpec := { name := "onetimeSign", fn := fun _ => fun
  | [d1, d2, d3] => { results := [.lit (.bool true)], args := [d1, d2, d3] }
  | _ => none }
def onetimeSignRow : OpenClaim := { program := "ytlaglaehkhmklaadoor", sum := "18c17b4068e873f0be149687060356b01e1fbd709f600b80331a161c4d7cb406", func := "sealwright/sealwrightlaw5.OnetimeSign", spec := "onetimeSign", unfollowed := true, recurses := true, named := ["sealwright/digest.round256"], apart := false, laid := [("sealwright/digest.round256", laid_sealwright_digest_round256)] }
def OnetimeSignSaid : Prop := onetimeSignRow.holds Tryd.pinned (OpenSpec.ofChange onetimeSignSpec)

/-- ITS FALSE NEIGHBOUR: 'it returns false'. Refute it at one input. -/
def onetimeSignWrong : ChangeSpec := { name := "onetimeSign", fn := fun _ => fun
  | [d1, d2, d3] => { results := [.lit (.bool false)], args := [d1, d2, d3] }
  | _ => none }
def OnetimeSignWrongFalsely : Prop := onetimeSignRow.holds Tryd.pinned (OpenSpec.ofChange onetimeSignWrong)

/-- 'sealwrightlaw5.OnetimeRecover': WHATEVER THE INPUT: true; the input reads as it did. -/
def onetimeRecoverSpec : ChangeSpec := { name := "onetimeRecover", fn := fun _ => fun
  | [d1, d2, d3, d4, d5, d6, d7] => { results := [.lit (.bool true)], args := [d1, d2, d3, d4, d5, d6, d7] }
  | _ => none }
def onetimeRecoverRow : OpenClaim := { program := "ytlaglaehkhmklaadoor", sum := "18c17b4068e873f0be149687060356b01e1fbd709f600b80331a161c4d7cb406", func := "sealwright/sealwrightlaw5.OnetimeRecover", spec := "onetimeRecover", unfollowed := true, recurses := true, named := ["sealwright/digest.round256"], apart := false, laid := [("sealwright/digest.round256", laid_sealwright_digest_round256)] }
def OnetimeRecoverSaid : Prop := onetimeRecoverRow.holds Tryd.pinned (OpenSpec.ofChange onetimeRecoverSpec)

/-- ITS FALSE NEIGHBOUR: 'it returns false'. Refute it at one input. -/
def onetimeRecoverWrong : ChangeSpec := { name := "onetimeRecover", fn := fun _ => fun
  | [d1, d2, d3, d4, d5, d6, d7] => { results := [.lit (.bool false)], args := [d1, d2, d3, d4, d5, d6, d7] }
  | _ => none }
def OnetimeRecoverWrongFalsely : Prop := onetimeRecoverRow.holds Tryd.pinned (OpenSpec.ofChange onetimeRecoverWrong)

/-- 'sealwrightlaw5.OnetimeTrip': WHATEVER THE INPUT: true; the input reads as it did. -/
def onetimeTripSpec : ChangeSpec := { name := "onetimeTrip", fn := fun _ => fun
  | [d1, d2, d3] => { results := [.lit (.bool true)], args := [d1, d2, d3] }
  | _ => none }
def onetimeTripRow : OpenClaim := { program := "ytlaglaehkhmklaadoor", sum := "18c17b4068e873f0be149687060356b01e1fbd709f600b80331a161c4d7cb406", func := "sealwright/sealwrightlaw5.OnetimeTrip", spec := "onetimeTrip", unfollowed := true, recurses := true, named := ["sealwright/digest.round256"], apart := false, laid := [("sealwright/digest.round256", laid_sealwright_digest_round256)] }
def OnetimeTripSaid : Prop := onetimeTripRow.holds Tryd.pinned (OpenSpec.ofChange onetimeTripSpec)

/-- ITS FALSE NEIGHBOUR: 'it returns false'. Refute it at one input. -/
def onetimeTripWrong : ChangeSpec := { name := "onetimeTrip", fn := fun _ => fun
  | [d1, d2, d3] => { results := [.lit (.bool false)], args := [d1, d2, d3] }
  | _ => none }
def OnetimeTripWrongFalsely : Prop := onetimeTripRow.holds Tryd.pinned (OpenSpec.ofChange onetimeTripWrong)

/-- 'sealwrightlaw5.OnetimeCross': WHATEVER THE INPUT: true; the input reads as it did. -/
def onetimeCrossSpec : ChangeSpec := { name := "onetimeCross", fn := fun _ => fun
  | [d1, d2] => { results := [.lit (.bool true)], args := [d1, d2] }
  | _ => none }
def onetimeCrossRow : OpenClaim := { program := "ytlaglaehkhmklaadoor", sum := "18c17b4068e873f0be149687060356b01e1fbd709f600b80331a161c4d7cb406", func := "sealwright/sealwrightlaw5.OnetimeCross", spec := "onetimeCross", unfollowed := true, recurses := true, named := ["sealwright/digest.round256"], apart := false, laid := [("sealwright/digest.round256", laid_sealwright_digest_round256)] }
def OnetimeCrossSaid : Prop := onetimeCrossRow.holds Tryd.pinned (OpenSpec.ofChange onetimeCrossSpec)

/-- ITS FALSE NEIGHBOUR: 'it returns false'. Refute it at one input. -/
def onetimeCrossWrong : ChangeSpec := { name := "onetimeCross", fn := fun _ => fun
  | [d1, d2] => { results := [.lit (.bool false)], args := [d1, d2] }
  | _ => none }
def OnetimeCrossWrongFalsely : Prop := onetimeCrossRow.holds Tryd.pinned (OpenSpec.ofChange onetimeCrossWrong)

/- THE SECOND FORM. 'bulk': how many values and letters a reading holds, each counted each time it is reached (what is shared counts as often as it is met; a slice's spare places count too). A statement '..UptoSaid' is the law's where the arguments, and the package variables that the reading takes, are together of bulk at most 1048576: NARROWER than '..Said'. Prove '..Said' where nothing that the law and all that it calls make is longer than what came in: it says more and counts as full. Else prove '..UptoSaid'. A law counts once. -/
mutual
def uptoBulk {H : Type} : DataW H → Nat
  | .lit (.string bytes) => bytes.length + 1
  | .lit _ => 1
  | .nil => 1
  | .ptr d => uptoBulk d + 1
  | .slice elems spare => uptoBulkAll elems + uptoBulkAll spare + 1
  | .agg parts => uptoBulkAll parts + 1
  | .iface _ d => uptoBulk d + 1
  | .map entries => uptoBulkEntries entries + 1
  | .held _ => 1
def uptoBulkAll {H : Type} : List (DataW H) → Nat
  | [] => 0
  | d :: r => uptoBulk d + uptoBulkAll r
def uptoBulkEntries {H : Type} : List (Lit × DataW H) → Nat
  | [] => 0
  | x :: r => uptoBulkEntry x + uptoBulkEntries r
def uptoBulkEntry {H : Type} : Lit × DataW H → Nat
  | (.string bytes, d) => bytes.length + uptoBulk d + 1
  | (_, d) => uptoBulk d + 1
 end
def uptoSmall : (H : Type) → List (DataW H) → Bool := fun _ ds => decide (uptoBulkAll ds ≤ 1048576)
def OpenSpec.upto (s : _root_.Go.ChangeSpec) : _root_.Go.OpenSpec := { _root_.Go.OpenSpec.ofChange s with cond := some uptoSmall }

/-- 'sealwrightlaw6.TreeRoot', WHERE WHAT IT READS IS OF BULK AT MOST 1048576: true; the input reads as it did. -/
def treeRootUptoRow : OpenClaim := { program := "ytlaglaehkhmklaadoor", sum := "18c17b4068e873f0be149687060356b01e1fbd709f600b80331a161c4d7cb406", func := "sealwright/sealwrightlaw6.TreeRoot", spec := "treeRoot", named := ["sealwright/digest.round256"], apart := false, laid := [("sealwright/digest.round256", laid_sealwright_digest_round256)], narrowed := true }
def TreeRootUptoSaid : Prop := treeRootUptoRow.holds Tryd.pinned (OpenSpec.upto treeRootSpec)

/-- 'sealwrightlaw6.TreePath', WHERE WHAT IT READS IS OF BULK AT MOST 1048576: true; the input reads as it did. -/
def treePathUptoRow : OpenClaim := { program := "ytlaglaehkhmklaadoor", sum := "18c17b4068e873f0be149687060356b01e1fbd709f600b80331a161c4d7cb406", func := "sealwright/sealwrightlaw6.TreePath", spec := "treePath", named := ["sealwright/digest.round256"], apart := false, laid := [("sealwright/digest.round256", laid_sealwright_digest_round256)], narrowed := true }
def TreePathUptoSaid : Prop := treePathUptoRow.holds Tryd.pinned (OpenSpec.upto treePathSpec)

/-- 'sealwrightlaw6.TreeClimb', WHERE WHAT IT READS IS OF BULK AT MOST 1048576: true; the input reads as it did. -/
def treeClimbUptoRow : OpenClaim := { program := "ytlaglaehkhmklaadoor", sum := "18c17b4068e873f0be149687060356b01e1fbd709f600b80331a161c4d7cb406", func := "sealwright/sealwrightlaw6.TreeClimb", spec := "treeClimb", named := ["sealwright/digest.round256"], apart := false, laid := [("sealwright/digest.round256", laid_sealwright_digest_round256)], narrowed := true }
def TreeClimbUptoSaid : Prop := treeClimbUptoRow.holds Tryd.pinned (OpenSpec.upto treeClimbSpec)

/-- 'sealwrightlaw6.TreeTrip', WHERE WHAT IT READS IS OF BULK AT MOST 1048576: true; the input reads as it did. -/
def treeTripUptoRow : OpenClaim := { program := "ytlaglaehkhmklaadoor", sum := "18c17b4068e873f0be149687060356b01e1fbd709f600b80331a161c4d7cb406", func := "sealwright/sealwrightlaw6.TreeTrip", spec := "treeTrip", named := ["sealwright/digest.round256"], apart := false, laid := [("sealwright/digest.round256", laid_sealwright_digest_round256)], narrowed := true }
def TreeTripUptoSaid : Prop := treeTripUptoRow.holds Tryd.pinned (OpenSpec.upto treeTripSpec)

/-- 'sealwrightlaw6.TreeBinding', WHERE WHAT IT READS IS OF BULK AT MOST 1048576: true; the input reads as it did. -/
def treeBindingUptoRow : OpenClaim := { program := "ytlaglaehkhmklaadoor", sum := "18c17b4068e873f0be149687060356b01e1fbd709f600b80331a161c4d7cb406", func := "sealwright/sealwrightlaw6.TreeBinding", spec := "treeBinding", named := ["sealwright/digest.round256"], apart := false, laid := [("sealwright/digest.round256", laid_sealwright_digest_round256)], narrowed := true }
def TreeBindingUptoSaid : Prop := treeBindingUptoRow.holds Tryd.pinned (OpenSpec.upto treeBindingSpec)

/-- 'sealwrightlaw6.TreeSwap', WHERE WHAT IT READS IS OF BULK AT MOST 1048576: true; the input reads as it did. -/
def treeSwapUptoRow : OpenClaim := { program := "ytlaglaehkhmklaadoor", sum := "18c17b4068e873f0be149687060356b01e1fbd709f600b80331a161c4d7cb406", func := "sealwright/sealwrightlaw6.TreeSwap", spec := "treeSwap", named := ["sealwright/digest.round256"], apart := false, laid := [("sealwright/digest.round256", laid_sealwright_digest_round256)], narrowed := true }
def TreeSwapUptoSaid : Prop := treeSwapUptoRow.holds Tryd.pinned (OpenSpec.upto treeSwapSpec)

/-- 'sealwrightlaw5.OnetimeDigits', WHERE WHAT IT READS IS OF BULK AT MOST 1048576: true; the input reads as it did. -/
def onetimeDigitsUptoRow : OpenClaim := { program := "ytlaglaehkhmklaadoor", sum := "18c17b4068e873f0be149687060356b01e1fbd709f600b80331a161c4d7cb406", func := "sealwright/sealwrightlaw5.OnetimeDigits", spec := "onetimeDigits", unfollowed := true, recurses := true, named := ["sealwright/digest.round256"], apart := false, laid := [("sealwright/digest.round256", laid_sealwright_digest_round256)], narrowed := true }
def OnetimeDigitsUptoSaid : Prop := onetimeDigitsUptoRow.holds Tryd.pinned (OpenSpec.upto onetimeDigitsSpec)

/-- 'sealwrightlaw5.OnetimeChecksum', WHERE WHAT IT READS IS OF BULK AT MOST 1048576: true; the input reads as it did. -/
def onetimeChecksumUptoRow : OpenClaim := { program := "ytlaglaehkhmklaadoor", sum := "18c17b4068e873f0be149687060356b01e1fbd709f600b80331a161c4d7cb406", func := "sealwright/sealwrightlaw5.OnetimeChecksum", spec := "onetimeChecksum", unfollowed := true, recurses := true, named := ["sealwright/digest.round256"], apart := false, laid := [("sealwright/digest.round256", laid_sealwright_digest_round256)], narrowed := true }
def OnetimeChecksumUptoSaid : Prop := onetimeChecksumUptoRow.holds Tryd.pinned (OpenSpec.upto onetimeChecksumSpec)

/-- 'sealwrightlaw5.OnetimePublic', WHERE WHAT IT READS IS OF BULK AT MOST 1048576: true; the input reads as it did. -/
def onetimePublicUptoRow : OpenClaim := { program := "ytlaglaehkhmklaadoor", sum := "18c17b4068e873f0be149687060356b01e1fbd709f600b80331a161c4d7cb406", func := "sealwright/sealwrightlaw5.OnetimePublic", spec := "onetimePublic", unfollowed := true, recurses := true, named := ["sealwright/digest.round256"], apart := false, laid := [("sealwright/digest.round256", laid_sealwright_digest_round256)], narrowed := true }
def OnetimePublicUptoSaid : Prop := onetimePublicUptoRow.holds Tryd.pinned (OpenSpec.upto onetimePublicSpec)

/-- 'sealwrightlaw5.OnetimeSign', WHERE WHAT IT READS IS OF BULK AT MOST 1048576: true; the input reads as it did. -/
def onetimeSignUptoRow : OpenClaim := { program := "ytlaglaehkhmklaadoor", sum := "18c17b4068e873f0be149687060356b01e1fbd709f600b80331a161c4d7cb406", func := "sealwright/sealwrightlaw5.OnetimeSign", spec := "onetimeSign", unfollowed := true, recurses := true, named := ["sealwright/digest.round256"], apart := false, laid := [("sealwright/digest.round256", laid_sealwright_digest_round256)], narrowed := true }
def OnetimeSignUptoSaid : Prop := onetimeSignUptoRow.holds Tryd.pinned (OpenSpec.upto onetimeSignSpec)

/-- 'sealwrightlaw5.OnetimeRecover', WHERE WHAT IT READS IS OF BULK AT MOST 1048576: true; the input reads as it did. -/
def onetimeRecoverUptoRow : OpenClaim := { program := "ytlaglaehkhmklaadoor", sum := "18c17b4068e873f0be149687060356b01e1fbd709f600b80331a161c4d7cb406", func := "sealwright/sealwrightlaw5.OnetimeRecover", spec := "onetimeRecover", unfollowed := true, recurses := true, named := ["sealwright/digest.round256"], apart := false, laid := [("sealwright/digest.round256", laid_sealwright_digest_round256)], narrowed := true }
def OnetimeRecoverUptoSaid : Prop := onetimeRecoverUptoRow.holds Tryd.pinned (OpenSpec.upto onetimeRecoverSpec)

/-- 'sealwrightlaw5.OnetimeTrip', WHERE WHAT IT READS IS OF BULK AT MOST 1048576: true; the input reads as it did. -/
def onetimeTripUptoRow : OpenClaim := { program := "ytlaglaehkhmklaadoor", sum := "18c17b4068e873f0be149687060356b01e1fbd709f600b80331a161c4d7cb406", func := "sealwright/sealwrightlaw5.OnetimeTrip", spec := "onetimeTrip", unfollowed := true, recurses := true, named := ["sealwright/digest.round256"], apart := false, laid := [("sealwright/digest.round256", laid_sealwright_digest_round256)], narrowed := true }
def OnetimeTripUptoSaid : Prop := onetimeTripUptoRow.holds Tryd.pinned (OpenSpec.upto onetimeTripSpec)

/-- 'sealwrightlaw5.OnetimeCross', WHERE WHAT IT READS IS OF BULK AT MOST 1048576: true; the input reads as it did. -/
def onetimeCrossUptoRow : OpenClaim := { program := "ytlaglaehkhmklaadoor", sum := "18c17b4068e873f0be149687060356b01e1fbd709f600b80331a161c4d7cb406", func := "sealwright/sealwrightlaw5.OnetimeCross", spec := "onetimeCross", unfollowed := true, recurses := true, named := ["sealwright/digest.round256"], apart := false, laid := [("sealwright/digest.round256", laid_sealwright_digest_round256)], narrowed := true }
def OnetimeCrossUptoSaid : Prop := onetimeCrossUptoRow.holds Tryd.pinned (OpenSpec.upto onetimeCrossSpec)

end Rows
end Go.Proofs.YtlaglaehkhmklaaDoor
