/-
  NARROWER THAN 'FOR EVERY INPUT', by the rows' own cells (each row's printed sentence says how): FnExactBarParts: laid · FnExactRoundLength: laid · FnExactBarText: laid · FnExactScaleStep: laid · FnExactRefOfTile: laid · FnExactBarFor: laid · FnExactRefOf: laid · FnBars: laid.
  DERIVED. THE GIVEN ROWS OF THIS SEAT. 8 by the template 'for every input the law returns true; each argument reads behind the call as it read before'; 0 by the template 'total and deterministic' (their statements: YtpbaggfjagfcgaaDoorTotals.lean).
  GIVEN WITH THE SEED: the statements are not yours to turn. If you find one false, say at which input.
  Laid BY PROGRAM, IN A SANDBOX (cutbox-rows.mjs): the forced cells as the released guide's own fill.sh prints them over the translation 1e5d1db0c9416675… (all of the seat's roots in one cut). By AI agents, Wed Nov 11 2026. No macro, syntax, notation, axiom, sorry.
-/
import Derived.Test.YtpbaggfjagfcgaaDoorChecked
import GoSem.Claim
import GoSem.ClaimJoined
import GoSem.ClaimMapViews
import Derived.JoinedTies
import Derived.KernelRfl
namespace Go.Proofs.YtpbaggfjagfcgaaDoor
/- THE CELL 'sum', in the pinned program and in every row, IS THE sha256 OF THE DUMP (.gsa) THAT YtpbaggfjagfcgaaDoorProg.lean LOADS. Nothing in Lean hashes anything: it is a label: what it is worth is what the hold of that sum in a sandbox is worth. -/
noncomputable def Tryd.pinned : Pinned := { name := "ytpbaggfjagfcgaadoor", sum := "1e5d1db0c941667548b7bcbcc2b22cfbabdffb0f051d61a0ddb1020c33c5ede5", checked := Tryd.checked }
namespace Rows
def none {H : Type} : Left H := { results := [], args := [] }

/- WHAT THE LISTED PACKAGE-LEVEL VARIABLES READ AS WHEN THE CALL BEGINS. Each datum BY PROGRAM (the guide's laid-datum.mjs) off the statement by which the dump's own 'gosem.cut.vars' lays the variable. In a bare row this is a premise. The card (YtpbaggfjagfcgaaDoorCards.lean) ties it to the program's text. -/
def laid_math_bits_deBruijn32tab {H : Type} : DataW H := .agg [.lit (.int .u8 0), .lit (.int .u8 1), .lit (.int .u8 28), .lit (.int .u8 2), .lit (.int .u8 29), .lit (.int .u8 14), .lit (.int .u8 24), .lit (.int .u8 3), .lit (.int .u8 30), .lit (.int .u8 22), .lit (.int .u8 20), .lit (.int .u8 15), .lit (.int .u8 25), .lit (.int .u8 17), .lit (.int .u8 4), .lit (.int .u8 8), .lit (.int .u8 31), .lit (.int .u8 27), .lit (.int .u8 13), .lit (.int .u8 23), .lit (.int .u8 21), .lit (.int .u8 19), .lit (.int .u8 16), .lit (.int .u8 7), .lit (.int .u8 26), .lit (.int .u8 12), .lit (.int .u8 18), .lit (.int .u8 6), .lit (.int .u8 11), .lit (.int .u8 5), .lit (.int .u8 10), .lit (.int .u8 9)]
def laid_math_bits_deBruijn64tab {H : Type} : DataW H := .agg [.lit (.int .u8 0), .lit (.int .u8 1), .lit (.int .u8 56), .lit (.int .u8 2), .lit (.int .u8 57), .lit (.int .u8 49), .lit (.int .u8 28), .lit (.int .u8 3), .lit (.int .u8 61), .lit (.int .u8 58), .lit (.int .u8 42), .lit (.int .u8 50), .lit (.int .u8 38), .lit (.int .u8 29), .lit (.int .u8 17), .lit (.int .u8 4), .lit (.int .u8 62), .lit (.int .u8 47), .lit (.int .u8 59), .lit (.int .u8 36), .lit (.int .u8 45), .lit (.int .u8 43), .lit (.int .u8 51), .lit (.int .u8 22), .lit (.int .u8 53), .lit (.int .u8 39), .lit (.int .u8 33), .lit (.int .u8 30), .lit (.int .u8 24), .lit (.int .u8 18), .lit (.int .u8 12), .lit (.int .u8 5), .lit (.int .u8 63), .lit (.int .u8 55), .lit (.int .u8 48), .lit (.int .u8 27), .lit (.int .u8 60), .lit (.int .u8 41), .lit (.int .u8 37), .lit (.int .u8 16), .lit (.int .u8 46), .lit (.int .u8 35), .lit (.int .u8 44), .lit (.int .u8 21), .lit (.int .u8 52), .lit (.int .u8 32), .lit (.int .u8 23), .lit (.int .u8 11), .lit (.int .u8 54), .lit (.int .u8 26), .lit (.int .u8 40), .lit (.int .u8 15), .lit (.int .u8 34), .lit (.int .u8 20), .lit (.int .u8 31), .lit (.int .u8 10), .lit (.int .u8 25), .lit (.int .u8 14), .lit (.int .u8 19), .lit (.int .u8 9), .lit (.int .u8 13), .lit (.int .u8 8), .lit (.int .u8 7), .lit (.int .u8 6)]
def laid_internal_strconv_uint64pow10 {H : Type} : DataW H := .agg [.lit (.int .u64 1), .lit (.int .u64 10), .lit (.int .u64 100), .lit (.int .u64 1000), .lit (.int .u64 10000), .lit (.int .u64 100000), .lit (.int .u64 1000000), .lit (.int .u64 10000000), .lit (.int .u64 100000000), .lit (.int .u64 1000000000), .lit (.int .u64 10000000000), .lit (.int .u64 100000000000), .lit (.int .u64 1000000000000), .lit (.int .u64 10000000000000), .lit (.int .u64 100000000000000), .lit (.int .u64 1000000000000000), .lit (.int .u64 10000000000000000), .lit (.int .u64 100000000000000000), .lit (.int .u64 1000000000000000000), .lit (.int .u64 10000000000000000000)]

/-- 'laws.FnExactBarParts': WHATEVER THE INPUT: true; the input reads as it did. -/
def fnExactBarPartsSpec : ChangeSpec := { name := "fnExactBarParts", fn := fun _ => fun
  | [d] => { results := [.lit (.bool true)], args := [d] }
  | _ => none }
def fnExactBarPartsRow : OpenClaim := { program := "ytpbaggfjagfcgaadoor", sum := "1e5d1db0c941667548b7bcbcc2b22cfbabdffb0f051d61a0ddb1020c33c5ede5", func := "loop.example/g03005/laws.FnExactBarParts", spec := "fnExactBarParts", named := ["internal/strconv.uint64pow10", "math/bits.deBruijn32tab", "math/bits.deBruijn64tab"], apart := false, laid := [("math/bits.deBruijn32tab", laid_math_bits_deBruijn32tab), ("math/bits.deBruijn64tab", laid_math_bits_deBruijn64tab), ("internal/strconv.uint64pow10", laid_internal_strconv_uint64pow10)] }
def FnExactBarPartsSaid : Prop := fnExactBarPartsRow.holds Tryd.pinned (OpenSpec.ofChange fnExactBarPartsSpec)

/-- ITS FALSE NEIGHBOUR: 'it returns false'. Refute it at one input. -/
def fnExactBarPartsWrong : ChangeSpec := { name := "fnExactBarParts", fn := fun _ => fun
  | [d] => { results := [.lit (.bool false)], args := [d] }
  | _ => none }
def FnExactBarPartsWrongFalsely : Prop := fnExactBarPartsRow.holds Tryd.pinned (OpenSpec.ofChange fnExactBarPartsWrong)

/-- 'laws.FnExactRoundLength': WHATEVER THE INPUT: true; the input reads as it did. -/
def fnExactRoundLengthSpec : ChangeSpec := { name := "fnExactRoundLength", fn := fun _ => fun
  | [d] => { results := [.lit (.bool true)], args := [d] }
  | _ => none }
def fnExactRoundLengthRow : OpenClaim := { program := "ytpbaggfjagfcgaadoor", sum := "1e5d1db0c941667548b7bcbcc2b22cfbabdffb0f051d61a0ddb1020c33c5ede5", func := "loop.example/g03005/laws.FnExactRoundLength", spec := "fnExactRoundLength", named := ["internal/strconv.uint64pow10", "math/bits.deBruijn32tab", "math/bits.deBruijn64tab"], apart := false, laid := [("math/bits.deBruijn32tab", laid_math_bits_deBruijn32tab), ("math/bits.deBruijn64tab", laid_math_bits_deBruijn64tab), ("internal/strconv.uint64pow10", laid_internal_strconv_uint64pow10)] }
def FnExactRoundLengthSaid : Prop := fnExactRoundLengthRow.holds Tryd.pinned (OpenSpec.ofChange fnExactRoundLengthSpec)

/-- ITS FALSE NEIGHBOUR: 'it returns false'. Refute it at one input. -/
def fnExactRoundLengthWrong : ChangeSpec := { name := "fnExactRoundLength", fn := fun _ => fun
  | [d] => { results := [.lit (.bool false)], args := [d] }
  | _ => none }
def FnExactRoundLengthWrongFalsely : Prop := fnExactRoundLengthRow.holds Tryd.pinned (OpenSpec.ofChange fnExactRoundLengthWrong)

/-- 'laws.FnExactBarText': WHATEVER THE INPUT: true; the input reads as it did. -/
def fnExactBarTextSpec : ChangeSpec := { name := "fnExactBarText", fn := fun _ => fun
  | [d] => { results := [.lit (.bool true)], args := [d] }
  | _ => none }
def fnExactBarTextRow : OpenClaim := { program := "ytpbaggfjagfcgaadoor", sum := "1e5d1db0c941667548b7bcbcc2b22cfbabdffb0f051d61a0ddb1020c33c5ede5", func := "loop.example/g03005/laws.FnExactBarText", spec := "fnExactBarText", named := ["internal/strconv.uint64pow10", "math/bits.deBruijn32tab", "math/bits.deBruijn64tab"], apart := false, laid := [("math/bits.deBruijn32tab", laid_math_bits_deBruijn32tab), ("math/bits.deBruijn64tab", laid_math_bits_deBruijn64tab), ("internal/strconv.uint64pow10", laid_internal_strconv_uint64pow10)] }
def FnExactBarTextSaid : Prop := fnExactBarTextRow.holds Tryd.pinned (OpenSpec.ofChange fnExactBarTextSpec)

/-- ITS FALSE NEIGHBOUR: 'it returns false'. Refute it at one input. -/
def fnExactBarTextWrong : ChangeSpec := { name := "fnExactBarText", fn := fun _ => fun
  | [d] => { results := [.lit (.bool false)], args := [d] }
  | _ => none }
def FnExactBarTextWrongFalsely : Prop := fnExactBarTextRow.holds Tryd.pinned (OpenSpec.ofChange fnExactBarTextWrong)

/-- 'laws.FnExactScaleStep': WHATEVER THE INPUT: true; the input reads as it did. -/
def fnExactScaleStepSpec : ChangeSpec := { name := "fnExactScaleStep", fn := fun _ => fun
  | [d] => { results := [.lit (.bool true)], args := [d] }
  | _ => none }
def fnExactScaleStepRow : OpenClaim := { program := "ytpbaggfjagfcgaadoor", sum := "1e5d1db0c941667548b7bcbcc2b22cfbabdffb0f051d61a0ddb1020c33c5ede5", func := "loop.example/g03005/laws.FnExactScaleStep", spec := "fnExactScaleStep", named := ["internal/strconv.uint64pow10", "math/bits.deBruijn32tab", "math/bits.deBruijn64tab"], apart := false, laid := [("math/bits.deBruijn32tab", laid_math_bits_deBruijn32tab), ("math/bits.deBruijn64tab", laid_math_bits_deBruijn64tab), ("internal/strconv.uint64pow10", laid_internal_strconv_uint64pow10)] }
def FnExactScaleStepSaid : Prop := fnExactScaleStepRow.holds Tryd.pinned (OpenSpec.ofChange fnExactScaleStepSpec)

/-- ITS FALSE NEIGHBOUR: 'it returns false'. Refute it at one input. -/
def fnExactScaleStepWrong : ChangeSpec := { name := "fnExactScaleStep", fn := fun _ => fun
  | [d] => { results := [.lit (.bool false)], args := [d] }
  | _ => none }
def FnExactScaleStepWrongFalsely : Prop := fnExactScaleStepRow.holds Tryd.pinned (OpenSpec.ofChange fnExactScaleStepWrong)

/-- 'laws.FnExactRefOfTile': WHATEVER THE INPUT: true; the input reads as it did. -/
def fnExactRefOfTileSpec : ChangeSpec := { name := "fnExactRefOfTile", fn := fun _ => fun
  | [d] => { results := [.lit (.bool true)], args := [d] }
  | _ => none }
def fnExactRefOfTileRow : OpenClaim := { program := "ytpbaggfjagfcgaadoor", sum := "1e5d1db0c941667548b7bcbcc2b22cfbabdffb0f051d61a0ddb1020c33c5ede5", func := "loop.example/g03005/laws.FnExactRefOfTile", spec := "fnExactRefOfTile", named := ["internal/strconv.uint64pow10", "math/bits.deBruijn32tab", "math/bits.deBruijn64tab"], apart := false, laid := [("math/bits.deBruijn32tab", laid_math_bits_deBruijn32tab), ("math/bits.deBruijn64tab", laid_math_bits_deBruijn64tab), ("internal/strconv.uint64pow10", laid_internal_strconv_uint64pow10)] }
def FnExactRefOfTileSaid : Prop := fnExactRefOfTileRow.holds Tryd.pinned (OpenSpec.ofChange fnExactRefOfTileSpec)

/-- ITS FALSE NEIGHBOUR: 'it returns false'. Refute it at one input. -/
def fnExactRefOfTileWrong : ChangeSpec := { name := "fnExactRefOfTile", fn := fun _ => fun
  | [d] => { results := [.lit (.bool false)], args := [d] }
  | _ => none }
def FnExactRefOfTileWrongFalsely : Prop := fnExactRefOfTileRow.holds Tryd.pinned (OpenSpec.ofChange fnExactRefOfTileWrong)

/-- 'laws.FnExactBarFor': WHATEVER THE INPUT: true; the input reads as it did. -/
def fnExactBarForSpec : ChangeSpec := { name := "fnExactBarFor", fn := fun _ => fun
  | [d1, d2] => { results := [.lit (.bool true)], args := [d1, d2] }
  | _ => none }
def fnExactBarForRow : OpenClaim := { program := "ytpbaggfjagfcgaadoor", sum := "1e5d1db0c941667548b7bcbcc2b22cfbabdffb0f051d61a0ddb1020c33c5ede5", func := "loop.example/g03005/laws.FnExactBarFor", spec := "fnExactBarFor", named := ["internal/strconv.uint64pow10", "math/bits.deBruijn32tab", "math/bits.deBruijn64tab"], apart := false, laid := [("math/bits.deBruijn32tab", laid_math_bits_deBruijn32tab), ("math/bits.deBruijn64tab", laid_math_bits_deBruijn64tab), ("internal/strconv.uint64pow10", laid_internal_strconv_uint64pow10)] }
def FnExactBarForSaid : Prop := fnExactBarForRow.holds Tryd.pinned (OpenSpec.ofChange fnExactBarForSpec)

/-- ITS FALSE NEIGHBOUR: 'it returns false'. Refute it at one input. -/
def fnExactBarForWrong : ChangeSpec := { name := "fnExactBarFor", fn := fun _ => fun
  | [d1, d2] => { results := [.lit (.bool false)], args := [d1, d2] }
  | _ => none }
def FnExactBarForWrongFalsely : Prop := fnExactBarForRow.holds Tryd.pinned (OpenSpec.ofChange fnExactBarForWrong)

/-- 'laws.FnExactRefOf': WHATEVER THE INPUT: true; the input reads as it did. -/
def fnExactRefOfSpec : ChangeSpec := { name := "fnExactRefOf", fn := fun _ => fun
  | [d] => { results := [.lit (.bool true)], args := [d] }
  | _ => none }
def fnExactRefOfRow : OpenClaim := { program := "ytpbaggfjagfcgaadoor", sum := "1e5d1db0c941667548b7bcbcc2b22cfbabdffb0f051d61a0ddb1020c33c5ede5", func := "loop.example/g03005/laws.FnExactRefOf", spec := "fnExactRefOf", named := ["internal/strconv.uint64pow10", "math/bits.deBruijn32tab", "math/bits.deBruijn64tab"], apart := false, laid := [("math/bits.deBruijn32tab", laid_math_bits_deBruijn32tab), ("math/bits.deBruijn64tab", laid_math_bits_deBruijn64tab), ("internal/strconv.uint64pow10", laid_internal_strconv_uint64pow10)] }
def FnExactRefOfSaid : Prop := fnExactRefOfRow.holds Tryd.pinned (OpenSpec.ofChange fnExactRefOfSpec)

/-- ITS FALSE NEIGHBOUR: 'it returns false'. Refute it at one input. -/
def fnExactRefOfWrong : ChangeSpec := { name := "fnExactRefOf", fn := fun _ => fun
  | [d] => { results := [.lit (.bool false)], args := [d] }
  | _ => none }
def FnExactRefOfWrongFalsely : Prop := fnExactRefOfRow.holds Tryd.pinned (OpenSpec.ofChange fnExactRefOfWrong)

/-- 'laws.FnBars': WHATEVER THE INPUT: true; the input reads as it did. -/
def fnBarsSpec : ChangeSpec := { name := "fnBars", fn := fun _ => fun
  | [d] => { results := [.lit (.bool true)], args := [d] }
  | _ => none }
def fnBarsRow : OpenClaim := { program := "ytpbaggfjagfcgaadoor", sum := "1e5d1db0c941667548b7bcbcc2b22cfbabdffb0f051d61a0ddb1020c33c5ede5", func := "loop.example/g03005/laws.FnBars", spec := "fnBars", named := ["internal/strconv.uint64pow10", "math/bits.deBruijn32tab", "math/bits.deBruijn64tab"], apart := false, laid := [("math/bits.deBruijn32tab", laid_math_bits_deBruijn32tab), ("math/bits.deBruijn64tab", laid_math_bits_deBruijn64tab), ("internal/strconv.uint64pow10", laid_internal_strconv_uint64pow10)] }
def FnBarsSaid : Prop := fnBarsRow.holds Tryd.pinned (OpenSpec.ofChange fnBarsSpec)

/-- ITS FALSE NEIGHBOUR: 'it returns false'. Refute it at one input. -/
def fnBarsWrong : ChangeSpec := { name := "fnBars", fn := fun _ => fun
  | [d] => { results := [.lit (.bool false)], args := [d] }
  | _ => none }
def FnBarsWrongFalsely : Prop := fnBarsRow.holds Tryd.pinned (OpenSpec.ofChange fnBarsWrong)

/- THE SECOND FORM. 'bulk': how many values and letters a reading holds, each counted each time it is reached (what is shared counts as often as it is met; a slice's spare places count too). A statement '..UptoSaid' is the law's where the arguments, and the package variables that the reading takes, are together of bulk at most 1048576: NARROWER than '..Said'. Prove '..Said' where nothing that the law and all that it calls make is longer than what came in: it says more and counts as full. Else prove '..UptoSaid'. A law counts once. -/
mutual
def uptoBulk {H : Type} : DataW H → Nat
  | .lit (.string bytes) => bytes.length + 1
  | .lit _ => 1
  | .nil => 1
  | .ptr d => uptoBulk d + 1
  | .slice elems spare => uptoBulkAll elems + uptoBulkAll spare + 1
  | .agg parts => uptoBulkAll parts + 1
  | .iface _ d => uptoBulk d + 1
  | .map entries => uptoBulkEntries entries + 1
  | .held _ => 1
def uptoBulkAll {H : Type} : List (DataW H) → Nat
  | [] => 0
  | d :: r => uptoBulk d + uptoBulkAll r
def uptoBulkEntries {H : Type} : List (Lit × DataW H) → Nat
  | [] => 0
  | x :: r => uptoBulkEntry x + uptoBulkEntries r
def uptoBulkEntry {H : Type} : Lit × DataW H → Nat
  | (.string bytes, d) => bytes.length + uptoBulk d + 1
  | (_, d) => uptoBulk d + 1
 end
def uptoSmall : (H : Type) → List (DataW H) → Bool := fun _ ds => decide (uptoBulkAll ds ≤ 1048576)
def OpenSpec.upto (s : _root_.Go.ChangeSpec) : _root_.Go.OpenSpec := { _root_.Go.OpenSpec.ofChange s with cond := some uptoSmall }

/-- 'laws.FnExactBarParts', WHERE WHAT IT READS IS OF BULK AT MOST 1048576: true; the input reads as it did. -/
def fnExactBarPartsUptoRow : OpenClaim := { program := "ytpbaggfjagfcgaadoor", sum := "1e5d1db0c941667548b7bcbcc2b22cfbabdffb0f051d61a0ddb1020c33c5ede5", func := "loop.example/g03005/laws.FnExactBarParts", spec := "fnExactBarParts", named := ["internal/strconv.uint64pow10", "math/bits.deBruijn32tab", "math/bits.deBruijn64tab"], apart := false, laid := [("math/bits.deBruijn32tab", laid_math_bits_deBruijn32tab), ("math/bits.deBruijn64tab", laid_math_bits_deBruijn64tab), ("internal/strconv.uint64pow10", laid_internal_strconv_uint64pow10)], narrowed := true }
def FnExactBarPartsUptoSaid : Prop := fnExactBarPartsUptoRow.holds Tryd.pinned (OpenSpec.upto fnExactBarPartsSpec)

/-- 'laws.FnExactRoundLength', WHERE WHAT IT READS IS OF BULK AT MOST 1048576: true; the input reads as it did. -/
def fnExactRoundLengthUptoRow : OpenClaim := { program := "ytpbaggfjagfcgaadoor", sum := "1e5d1db0c941667548b7bcbcc2b22cfbabdffb0f051d61a0ddb1020c33c5ede5", func := "loop.example/g03005/laws.FnExactRoundLength", spec := "fnExactRoundLength", named := ["internal/strconv.uint64pow10", "math/bits.deBruijn32tab", "math/bits.deBruijn64tab"], apart := false, laid := [("math/bits.deBruijn32tab", laid_math_bits_deBruijn32tab), ("math/bits.deBruijn64tab", laid_math_bits_deBruijn64tab), ("internal/strconv.uint64pow10", laid_internal_strconv_uint64pow10)], narrowed := true }
def FnExactRoundLengthUptoSaid : Prop := fnExactRoundLengthUptoRow.holds Tryd.pinned (OpenSpec.upto fnExactRoundLengthSpec)

/-- 'laws.FnExactBarText', WHERE WHAT IT READS IS OF BULK AT MOST 1048576: true; the input reads as it did. -/
def fnExactBarTextUptoRow : OpenClaim := { program := "ytpbaggfjagfcgaadoor", sum := "1e5d1db0c941667548b7bcbcc2b22cfbabdffb0f051d61a0ddb1020c33c5ede5", func := "loop.example/g03005/laws.FnExactBarText", spec := "fnExactBarText", named := ["internal/strconv.uint64pow10", "math/bits.deBruijn32tab", "math/bits.deBruijn64tab"], apart := false, laid := [("math/bits.deBruijn32tab", laid_math_bits_deBruijn32tab), ("math/bits.deBruijn64tab", laid_math_bits_deBruijn64tab), ("internal/strconv.uint64pow10", laid_internal_strconv_uint64pow10)], narrowed := true }
def FnExactBarTextUptoSaid : Prop := fnExactBarTextUptoRow.holds Tryd.pinned (OpenSpec.upto fnExactBarTextSpec)

/-- 'laws.FnExactScaleStep', WHERE WHAT IT READS IS OF BULK AT MOST 1048576: true; the input reads as it did. -/
def fnExactScaleStepUptoRow : OpenClaim := { program := "ytpbaggfjagfcgaadoor", sum := "1e5d1db0c941667548b7bcbcc2b22cfbabdffb0f051d61a0ddb1020c33c5ede5", func := "loop.example/g03005/laws.FnExactScaleStep", spec := "fnExactScaleStep", named := ["internal/strconv.uint64pow10", "math/bits.deBruijn32tab", "math/bits.deBruijn64tab"], apart := false, laid := [("math/bits.deBruijn32tab", laid_math_bits_deBruijn32tab), ("math/bits.deBruijn64tab", laid_math_bits_deBruijn64tab), ("internal/strconv.uint64pow10", laid_internal_strconv_uint64pow10)], narrowed := true }
def FnExactScaleStepUptoSaid : Prop := fnExactScaleStepUptoRow.holds Tryd.pinned (OpenSpec.upto fnExactScaleStepSpec)

/-- 'laws.FnExactRefOfTile', WHERE WHAT IT READS IS OF BULK AT MOST 1048576: true; the input reads as it did. -/
def fnExactRefOfTileUptoRow : OpenClaim := { program := "ytpbaggfjagfcgaadoor", sum := "1e5d1db0c941667548b7bcbcc2b22cfbabdffb0f051d61a0ddb1020c33c5ede5", func := "loop.example/g03005/laws.FnExactRefOfTile", spec := "fnExactRefOfTile", named := ["internal/strconv.uint64pow10", "math/bits.deBruijn32tab", "math/bits.deBruijn64tab"], apart := false, laid := [("math/bits.deBruijn32tab", laid_math_bits_deBruijn32tab), ("math/bits.deBruijn64tab", laid_math_bits_deBruijn64tab), ("internal/strconv.uint64pow10", laid_internal_strconv_uint64pow10)], narrowed := true }
def FnExactRefOfTileUptoSaid : Prop := fnExactRefOfTileUptoRow.holds Tryd.pinned (OpenSpec.upto fnExactRefOfTileSpec)

/-- 'laws.FnExactBarFor', WHERE WHAT IT READS IS OF BULK AT MOST 1048576: true; the input reads as it did. -/
def fnExactBarForUptoRow : OpenClaim := { program := "ytpbaggfjagfcgaadoor", sum := "1e5d1db0c941667548b7bcbcc2b22cfbabdffb0f051d61a0ddb1020c33c5ede5", func := "loop.example/g03005/laws.FnExactBarFor", spec := "fnExactBarFor", named := ["internal/strconv.uint64pow10", "math/bits.deBruijn32tab", "math/bits.deBruijn64tab"], apart := false, laid := [("math/bits.deBruijn32tab", laid_math_bits_deBruijn32tab), ("math/bits.deBruijn64tab", laid_math_bits_deBruijn64tab), ("internal/strconv.uint64pow10", laid_internal_strconv_uint64pow10)], narrowed := true }
def FnExactBarForUptoSaid : Prop := fnExactBarForUptoRow.holds Tryd.pinned (OpenSpec.upto fnExactBarForSpec)

/-- 'laws.FnExactRefOf', WHERE WHAT IT READS IS OF BULK AT MOST 1048576: true; the input reads as it did. -/
def fnExactRefOfUptoRow : OpenClaim := { program := "ytpbaggfjagfcgaadoor", sum := "1e5d1db0c941667548b7bcbcc2b22cfbabdffb0f051d61a0ddb1020c33c5ede5", func := "loop.example/g03005/laws.FnExactRefOf", spec := "fnExactRefOf", named := ["internal/strconv.uint64pow10", "math/bits.deBruijn32tab", "math/bits.deBruijn64tab"], apart := false, laid := [("math/bits.deBruijn32tab", laid_math_bits_deBruijn32tab), ("math/bits.deBruijn64tab", laid_math_bits_deBruijn64tab), ("internal/strconv.uint64pow10", laid_internal_strconv_uint64pow10)], narrowed := true }
def FnExactRefOfUptoSaid : Prop := fnExactRefOfUptoRow.holds Tryd.pinned (OpenSpec.upto fnExactRefOfSpec)

/-- 'laws.FnBars', WHERE WHAT IT READS IS OF BULK AT MOST 1048576: true; the input reads as it did. -/
def fnBarsUptoRow : OpenClaim := { program := "ytpbaggfjagfcgaadoor", sum := "1e5d1db0c941667548b7bcbcc2b22cfbabdffb0f051d61a0ddb1020c33c5ede5", func := "loop.example/g03005/laws.FnBars", spec := "fnBars", named := ["internal/strconv.uint64pow10", "math/bits.deBruijn32tab", "math/bits.deBruijn64tab"], apart := false, laid := [("math/bits.deBruijn32tab", laid_math_bits_deBruijn32tab), ("math/bits.deBruijn64tab", laid_math_bits_deBruijn64tab), ("internal/strconv.uint64pow10", laid_internal_strconv_uint64pow10)], narrowed := true }
def FnBarsUptoSaid : Prop := fnBarsUptoRow.holds Tryd.pinned (OpenSpec.upto fnBarsSpec)

end Rows
end Go.Proofs.YtpbaggfjagfcgaaDoor
