/-
  NARROWER THAN 'FOR EVERY INPUT', by the rows' own cells (each row's printed sentence says how): FnExactLogLen: laid · FnExactLost: laid · FnExactLogGet: laid · FnExactLogFind: laid · FnExactFileOf: laid · FnExactLogRange: laid · FnExactLogTail: laid · FnExactLeftBehind: laid · FnExactLogSeek: laid.
  DERIVED. THE GIVEN ROWS OF THIS SEAT. 9 by the template 'for every input the law returns true; each argument reads behind the call as it read before'; 0 by the template 'total and deterministic' (their statements: YtpjcnjefffakpaaGreatDoorTotals.lean).
  GIVEN WITH THE SEED: the statements are not yours to turn. If you find one false, say at which input.
  Laid BY PROGRAM, IN A SANDBOX (cutbox-rows.mjs): the forced cells as the released guide's own fill.sh prints them over the translation 171537db246d602a… (all of the seat's roots in one cut). By AI agents, Wed Nov 11 2026. No macro, syntax, notation, axiom, sorry.
-/
import Derived.Test.YtpjcnjefffakpaaGreatDoorChecked
import GoSem.Claim
import GoSem.ClaimJoined
import GoSem.ClaimMapViews
import Derived.JoinedTies
import Derived.KernelRfl
namespace Go.Proofs.YtpjcnjefffakpaaGreatDoor
/- THE CELL 'sum', in the pinned program and in every row, IS THE sha256 OF THE DUMP (.gsa) THAT YtpjcnjefffakpaaGreatDoorProg.lean LOADS. Nothing in Lean hashes anything: it is a label: what it is worth is what the hold of that sum in a sandbox is worth. -/
noncomputable def Tryz.pinned : Pinned := { name := "ytpjcnjefffakpaagreatdoor", sum := "171537db246d602ad67875aca5b901a6900997bb072f07f6f36739b313a609a9", checked := Tryz.checked }
namespace Rows
def none {H : Type} : Left H := { results := [], args := [] }

/- WHAT THE LISTED PACKAGE-LEVEL VARIABLES READ AS WHEN THE CALL BEGINS. Each datum BY PROGRAM (the guide's laid-datum.mjs) off the statement by which the dump's own 'gosem.cut.vars' lays the variable. In a bare row this is a premise. The card (YtpjcnjefffakpaaGreatDoorCards.lean) ties it to the program's text. -/
def laid_math_bits_deBruijn32tab {H : Type} : DataW H := .agg [.lit (.int .u8 0), .lit (.int .u8 1), .lit (.int .u8 28), .lit (.int .u8 2), .lit (.int .u8 29), .lit (.int .u8 14), .lit (.int .u8 24), .lit (.int .u8 3), .lit (.int .u8 30), .lit (.int .u8 22), .lit (.int .u8 20), .lit (.int .u8 15), .lit (.int .u8 25), .lit (.int .u8 17), .lit (.int .u8 4), .lit (.int .u8 8), .lit (.int .u8 31), .lit (.int .u8 27), .lit (.int .u8 13), .lit (.int .u8 23), .lit (.int .u8 21), .lit (.int .u8 19), .lit (.int .u8 16), .lit (.int .u8 7), .lit (.int .u8 26), .lit (.int .u8 12), .lit (.int .u8 18), .lit (.int .u8 6), .lit (.int .u8 11), .lit (.int .u8 5), .lit (.int .u8 10), .lit (.int .u8 9)]
def laid_math_bits_deBruijn64tab {H : Type} : DataW H := .agg [.lit (.int .u8 0), .lit (.int .u8 1), .lit (.int .u8 56), .lit (.int .u8 2), .lit (.int .u8 57), .lit (.int .u8 49), .lit (.int .u8 28), .lit (.int .u8 3), .lit (.int .u8 61), .lit (.int .u8 58), .lit (.int .u8 42), .lit (.int .u8 50), .lit (.int .u8 38), .lit (.int .u8 29), .lit (.int .u8 17), .lit (.int .u8 4), .lit (.int .u8 62), .lit (.int .u8 47), .lit (.int .u8 59), .lit (.int .u8 36), .lit (.int .u8 45), .lit (.int .u8 43), .lit (.int .u8 51), .lit (.int .u8 22), .lit (.int .u8 53), .lit (.int .u8 39), .lit (.int .u8 33), .lit (.int .u8 30), .lit (.int .u8 24), .lit (.int .u8 18), .lit (.int .u8 12), .lit (.int .u8 5), .lit (.int .u8 63), .lit (.int .u8 55), .lit (.int .u8 48), .lit (.int .u8 27), .lit (.int .u8 60), .lit (.int .u8 41), .lit (.int .u8 37), .lit (.int .u8 16), .lit (.int .u8 46), .lit (.int .u8 35), .lit (.int .u8 44), .lit (.int .u8 21), .lit (.int .u8 52), .lit (.int .u8 32), .lit (.int .u8 23), .lit (.int .u8 11), .lit (.int .u8 54), .lit (.int .u8 26), .lit (.int .u8 40), .lit (.int .u8 15), .lit (.int .u8 34), .lit (.int .u8 20), .lit (.int .u8 31), .lit (.int .u8 10), .lit (.int .u8 25), .lit (.int .u8 14), .lit (.int .u8 19), .lit (.int .u8 9), .lit (.int .u8 13), .lit (.int .u8 8), .lit (.int .u8 7), .lit (.int .u8 6)]
def laid_internal_strconv_uint64pow10 {H : Type} : DataW H := .agg [.lit (.int .u64 1), .lit (.int .u64 10), .lit (.int .u64 100), .lit (.int .u64 1000), .lit (.int .u64 10000), .lit (.int .u64 100000), .lit (.int .u64 1000000), .lit (.int .u64 10000000), .lit (.int .u64 100000000), .lit (.int .u64 1000000000), .lit (.int .u64 10000000000), .lit (.int .u64 100000000000), .lit (.int .u64 1000000000000), .lit (.int .u64 10000000000000), .lit (.int .u64 100000000000000), .lit (.int .u64 1000000000000000), .lit (.int .u64 10000000000000000), .lit (.int .u64 100000000000000000), .lit (.int .u64 1000000000000000000), .lit (.int .u64 10000000000000000000)]

/-- 'laws.FnExactLogLen': WHATEVER THE INPUT: true; the input reads as it did. -/
def fnExactLogLenSpec : ChangeSpec := { name := "fnExactLogLen", fn := fun _ => fun
  | [d] => { results := [.lit (.bool true)], args := [d] }
  | _ => none }
def fnExactLogLenRow : OpenClaim := { program := "ytpjcnjefffakpaagreatdoor", sum := "171537db246d602ad67875aca5b901a6900997bb072f07f6f36739b313a609a9", func := "loop.example/g00971/laws.FnExactLogLen", spec := "fnExactLogLen", inPlace := ["internal/abi.NoEscape", "internal/bytealg.MakeNoZero"], unfollowed := true, recurses := true, named := ["internal/strconv.uint64pow10", "math/bits.deBruijn32tab", "math/bits.deBruijn64tab"], apart := false, laid := [("math/bits.deBruijn32tab", laid_math_bits_deBruijn32tab), ("math/bits.deBruijn64tab", laid_math_bits_deBruijn64tab), ("internal/strconv.uint64pow10", laid_internal_strconv_uint64pow10)] }
def FnExactLogLenSaid : Prop := fnExactLogLenRow.holds Tryz.pinned (OpenSpec.ofChange fnExactLogLenSpec)

/-- ITS FALSE NEIGHBOUR: 'it returns false'. Refute it at one input. -/
def fnExactLogLenWrong : ChangeSpec := { name := "fnExactLogLen", fn := fun _ => fun
  | [d] => { results := [.lit (.bool false)], args := [d] }
  | _ => none }
def FnExactLogLenWrongFalsely : Prop := fnExactLogLenRow.holds Tryz.pinned (OpenSpec.ofChange fnExactLogLenWrong)

/-- 'laws.FnExactLost': WHATEVER THE INPUT: true; the input reads as it did. -/
def fnExactLostSpec : ChangeSpec := { name := "fnExactLost", fn := fun _ => fun
  | [d1, d2] => { results := [.lit (.bool true)], args := [d1, d2] }
  | _ => none }
def fnExactLostRow : OpenClaim := { program := "ytpjcnjefffakpaagreatdoor", sum := "171537db246d602ad67875aca5b901a6900997bb072f07f6f36739b313a609a9", func := "loop.example/g00971/laws.FnExactLost", spec := "fnExactLost", inPlace := ["internal/abi.NoEscape", "internal/bytealg.MakeNoZero"], unfollowed := true, recurses := true, named := ["internal/strconv.uint64pow10", "math/bits.deBruijn32tab", "math/bits.deBruijn64tab"], apart := false, laid := [("math/bits.deBruijn32tab", laid_math_bits_deBruijn32tab), ("math/bits.deBruijn64tab", laid_math_bits_deBruijn64tab), ("internal/strconv.uint64pow10", laid_internal_strconv_uint64pow10)] }
def FnExactLostSaid : Prop := fnExactLostRow.holds Tryz.pinned (OpenSpec.ofChange fnExactLostSpec)

/-- ITS FALSE NEIGHBOUR: 'it returns false'. Refute it at one input. -/
def fnExactLostWrong : ChangeSpec := { name := "fnExactLost", fn := fun _ => fun
  | [d1, d2] => { results := [.lit (.bool false)], args := [d1, d2] }
  | _ => none }
def FnExactLostWrongFalsely : Prop := fnExactLostRow.holds Tryz.pinned (OpenSpec.ofChange fnExactLostWrong)

/-- 'laws.FnExactLogGet': WHATEVER THE INPUT: true; the input reads as it did. -/
def fnExactLogGetSpec : ChangeSpec := { name := "fnExactLogGet", fn := fun _ => fun
  | [d1, d2] => { results := [.lit (.bool true)], args := [d1, d2] }
  | _ => none }
def fnExactLogGetRow : OpenClaim := { program := "ytpjcnjefffakpaagreatdoor", sum := "171537db246d602ad67875aca5b901a6900997bb072f07f6f36739b313a609a9", func := "loop.example/g00971/laws.FnExactLogGet", spec := "fnExactLogGet", inPlace := ["internal/abi.NoEscape", "internal/bytealg.MakeNoZero"], unfollowed := true, recurses := true, named := ["internal/strconv.uint64pow10", "math/bits.deBruijn32tab", "math/bits.deBruijn64tab"], apart := false, laid := [("math/bits.deBruijn32tab", laid_math_bits_deBruijn32tab), ("math/bits.deBruijn64tab", laid_math_bits_deBruijn64tab), ("internal/strconv.uint64pow10", laid_internal_strconv_uint64pow10)] }
def FnExactLogGetSaid : Prop := fnExactLogGetRow.holds Tryz.pinned (OpenSpec.ofChange fnExactLogGetSpec)

/-- ITS FALSE NEIGHBOUR: 'it returns false'. Refute it at one input. -/
def fnExactLogGetWrong : ChangeSpec := { name := "fnExactLogGet", fn := fun _ => fun
  | [d1, d2] => { results := [.lit (.bool false)], args := [d1, d2] }
  | _ => none }
def FnExactLogGetWrongFalsely : Prop := fnExactLogGetRow.holds Tryz.pinned (OpenSpec.ofChange fnExactLogGetWrong)

/-- 'laws.FnExactLogFind': WHATEVER THE INPUT: true; the input reads as it did. -/
def fnExactLogFindSpec : ChangeSpec := { name := "fnExactLogFind", fn := fun _ => fun
  | [d1, d2] => { results := [.lit (.bool true)], args := [d1, d2] }
  | _ => none }
def fnExactLogFindRow : OpenClaim := { program := "ytpjcnjefffakpaagreatdoor", sum := "171537db246d602ad67875aca5b901a6900997bb072f07f6f36739b313a609a9", func := "loop.example/g00971/laws.FnExactLogFind", spec := "fnExactLogFind", inPlace := ["internal/abi.NoEscape", "internal/bytealg.MakeNoZero"], unfollowed := true, recurses := true, named := ["internal/strconv.uint64pow10", "math/bits.deBruijn32tab", "math/bits.deBruijn64tab"], apart := false, laid := [("math/bits.deBruijn32tab", laid_math_bits_deBruijn32tab), ("math/bits.deBruijn64tab", laid_math_bits_deBruijn64tab), ("internal/strconv.uint64pow10", laid_internal_strconv_uint64pow10)] }
def FnExactLogFindSaid : Prop := fnExactLogFindRow.holds Tryz.pinned (OpenSpec.ofChange fnExactLogFindSpec)

/-- ITS FALSE NEIGHBOUR: 'it returns false'. Refute it at one input. -/
def fnExactLogFindWrong : ChangeSpec := { name := "fnExactLogFind", fn := fun _ => fun
  | [d1, d2] => { results := [.lit (.bool false)], args := [d1, d2] }
  | _ => none }
def FnExactLogFindWrongFalsely : Prop := fnExactLogFindRow.holds Tryz.pinned (OpenSpec.ofChange fnExactLogFindWrong)

/-- 'laws.FnExactFileOf': WHATEVER THE INPUT: true; the input reads as it did. -/
def fnExactFileOfSpec : ChangeSpec := { name := "fnExactFileOf", fn := fun _ => fun
  | [d1, d2] => { results := [.lit (.bool true)], args := [d1, d2] }
  | _ => none }
def fnExactFileOfRow : OpenClaim := { program := "ytpjcnjefffakpaagreatdoor", sum := "171537db246d602ad67875aca5b901a6900997bb072f07f6f36739b313a609a9", func := "loop.example/g00971/laws.FnExactFileOf", spec := "fnExactFileOf", inPlace := ["internal/abi.NoEscape", "internal/bytealg.MakeNoZero"], unfollowed := true, recurses := true, named := ["internal/strconv.uint64pow10", "math/bits.deBruijn32tab", "math/bits.deBruijn64tab"], apart := false, laid := [("math/bits.deBruijn32tab", laid_math_bits_deBruijn32tab), ("math/bits.deBruijn64tab", laid_math_bits_deBruijn64tab), ("internal/strconv.uint64pow10", laid_internal_strconv_uint64pow10)] }
def FnExactFileOfSaid : Prop := fnExactFileOfRow.holds Tryz.pinned (OpenSpec.ofChange fnExactFileOfSpec)

/-- ITS FALSE NEIGHBOUR: 'it returns false'. Refute it at one input. -/
def fnExactFileOfWrong : ChangeSpec := { name := "fnExactFileOf", fn := fun _ => fun
  | [d1, d2] => { results := [.lit (.bool false)], args := [d1, d2] }
  | _ => none }
def FnExactFileOfWrongFalsely : Prop := fnExactFileOfRow.holds Tryz.pinned (OpenSpec.ofChange fnExactFileOfWrong)

/-- 'laws.FnExactLogRange': WHATEVER THE INPUT: true; the input reads as it did. -/
def fnExactLogRangeSpec : ChangeSpec := { name := "fnExactLogRange", fn := fun _ => fun
  | [d1, d2, d3] => { results := [.lit (.bool true)], args := [d1, d2, d3] }
  | _ => none }
def fnExactLogRangeRow : OpenClaim := { program := "ytpjcnjefffakpaagreatdoor", sum := "171537db246d602ad67875aca5b901a6900997bb072f07f6f36739b313a609a9", func := "loop.example/g00971/laws.FnExactLogRange", spec := "fnExactLogRange", inPlace := ["internal/abi.NoEscape", "internal/bytealg.MakeNoZero"], unfollowed := true, recurses := true, named := ["internal/strconv.uint64pow10", "math/bits.deBruijn32tab", "math/bits.deBruijn64tab"], apart := false, laid := [("math/bits.deBruijn32tab", laid_math_bits_deBruijn32tab), ("math/bits.deBruijn64tab", laid_math_bits_deBruijn64tab), ("internal/strconv.uint64pow10", laid_internal_strconv_uint64pow10)] }
def FnExactLogRangeSaid : Prop := fnExactLogRangeRow.holds Tryz.pinned (OpenSpec.ofChange fnExactLogRangeSpec)

/-- ITS FALSE NEIGHBOUR: 'it returns false'. Refute it at one input. -/
def fnExactLogRangeWrong : ChangeSpec := { name := "fnExactLogRange", fn := fun _ => fun
  | [d1, d2, d3] => { results := [.lit (.bool false)], args := [d1, d2, d3] }
  | _ => none }
def FnExactLogRangeWrongFalsely : Prop := fnExactLogRangeRow.holds Tryz.pinned (OpenSpec.ofChange fnExactLogRangeWrong)

/-- 'laws.FnExactLogTail': WHATEVER THE INPUT: true; the input reads as it did. -/
def fnExactLogTailSpec : ChangeSpec := { name := "fnExactLogTail", fn := fun _ => fun
  | [d1, d2] => { results := [.lit (.bool true)], args := [d1, d2] }
  | _ => none }
def fnExactLogTailRow : OpenClaim := { program := "ytpjcnjefffakpaagreatdoor", sum := "171537db246d602ad67875aca5b901a6900997bb072f07f6f36739b313a609a9", func := "loop.example/g00971/laws.FnExactLogTail", spec := "fnExactLogTail", inPlace := ["internal/abi.NoEscape", "internal/bytealg.MakeNoZero"], unfollowed := true, recurses := true, named := ["internal/strconv.uint64pow10", "math/bits.deBruijn32tab", "math/bits.deBruijn64tab"], apart := false, laid := [("math/bits.deBruijn32tab", laid_math_bits_deBruijn32tab), ("math/bits.deBruijn64tab", laid_math_bits_deBruijn64tab), ("internal/strconv.uint64pow10", laid_internal_strconv_uint64pow10)] }
def FnExactLogTailSaid : Prop := fnExactLogTailRow.holds Tryz.pinned (OpenSpec.ofChange fnExactLogTailSpec)

/-- ITS FALSE NEIGHBOUR: 'it returns false'. Refute it at one input. -/
def fnExactLogTailWrong : ChangeSpec := { name := "fnExactLogTail", fn := fun _ => fun
  | [d1, d2] => { results := [.lit (.bool false)], args := [d1, d2] }
  | _ => none }
def FnExactLogTailWrongFalsely : Prop := fnExactLogTailRow.holds Tryz.pinned (OpenSpec.ofChange fnExactLogTailWrong)

/-- 'laws.FnExactLeftBehind': WHATEVER THE INPUT: true; the input reads as it did. -/
def fnExactLeftBehindSpec : ChangeSpec := { name := "fnExactLeftBehind", fn := fun _ => fun
  | [d1, d2, d3, d4] => { results := [.lit (.bool true)], args := [d1, d2, d3, d4] }
  | _ => none }
def fnExactLeftBehindRow : OpenClaim := { program := "ytpjcnjefffakpaagreatdoor", sum := "171537db246d602ad67875aca5b901a6900997bb072f07f6f36739b313a609a9", func := "loop.example/g00971/laws.FnExactLeftBehind", spec := "fnExactLeftBehind", inPlace := ["internal/abi.NoEscape", "internal/bytealg.MakeNoZero"], unfollowed := true, recurses := true, named := ["internal/strconv.uint64pow10", "math/bits.deBruijn32tab", "math/bits.deBruijn64tab"], apart := false, laid := [("math/bits.deBruijn32tab", laid_math_bits_deBruijn32tab), ("math/bits.deBruijn64tab", laid_math_bits_deBruijn64tab), ("internal/strconv.uint64pow10", laid_internal_strconv_uint64pow10)] }
def FnExactLeftBehindSaid : Prop := fnExactLeftBehindRow.holds Tryz.pinned (OpenSpec.ofChange fnExactLeftBehindSpec)

/-- ITS FALSE NEIGHBOUR: 'it returns false'. Refute it at one input. -/
def fnExactLeftBehindWrong : ChangeSpec := { name := "fnExactLeftBehind", fn := fun _ => fun
  | [d1, d2, d3, d4] => { results := [.lit (.bool false)], args := [d1, d2, d3, d4] }
  | _ => none }
def FnExactLeftBehindWrongFalsely : Prop := fnExactLeftBehindRow.holds Tryz.pinned (OpenSpec.ofChange fnExactLeftBehindWrong)

/-- 'laws.FnExactLogSeek': WHATEVER THE INPUT: true; the input reads as it did. -/
def fnExactLogSeekSpec : ChangeSpec := { name := "fnExactLogSeek", fn := fun _ => fun
  | [d1, d2] => { results := [.lit (.bool true)], args := [d1, d2] }
  | _ => none }
def fnExactLogSeekRow : OpenClaim := { program := "ytpjcnjefffakpaagreatdoor", sum := "171537db246d602ad67875aca5b901a6900997bb072f07f6f36739b313a609a9", func := "loop.example/g00971/laws.FnExactLogSeek", spec := "fnExactLogSeek", inPlace := ["internal/abi.NoEscape", "internal/bytealg.MakeNoZero"], unfollowed := true, recurses := true, named := ["internal/strconv.uint64pow10", "math/bits.deBruijn32tab", "math/bits.deBruijn64tab"], apart := false, laid := [("math/bits.deBruijn32tab", laid_math_bits_deBruijn32tab), ("math/bits.deBruijn64tab", laid_math_bits_deBruijn64tab), ("internal/strconv.uint64pow10", laid_internal_strconv_uint64pow10)] }
def FnExactLogSeekSaid : Prop := fnExactLogSeekRow.holds Tryz.pinned (OpenSpec.ofChange fnExactLogSeekSpec)

/-- ITS FALSE NEIGHBOUR: 'it returns false'. Refute it at one input. -/
def fnExactLogSeekWrong : ChangeSpec := { name := "fnExactLogSeek", fn := fun _ => fun
  | [d1, d2] => { results := [.lit (.bool false)], args := [d1, d2] }
  | _ => none }
def FnExactLogSeekWrongFalsely : Prop := fnExactLogSeekRow.holds Tryz.pinned (OpenSpec.ofChange fnExactLogSeekWrong)

/- THE SECOND FORM. 'bulk': how many values and letters a reading holds, each counted each time it is reached (what is shared counts as often as it is met; a slice's spare places count too). A statement '..UptoSaid' is the law's where the arguments, and the package variables that the reading takes, are together of bulk at most 1048576: NARROWER than '..Said'. Prove '..Said' where nothing that the law and all that it calls make is longer than what came in: it says more and counts as full. Else prove '..UptoSaid'. A law counts once. -/
mutual
def uptoBulk {H : Type} : DataW H → Nat
  | .lit (.string bytes) => bytes.length + 1
  | .lit _ => 1
  | .nil => 1
  | .ptr d => uptoBulk d + 1
  | .slice elems spare => uptoBulkAll elems + uptoBulkAll spare + 1
  | .agg parts => uptoBulkAll parts + 1
  | .iface _ d => uptoBulk d + 1
  | .map entries => uptoBulkEntries entries + 1
  | .held _ => 1
def uptoBulkAll {H : Type} : List (DataW H) → Nat
  | [] => 0
  | d :: r => uptoBulk d + uptoBulkAll r
def uptoBulkEntries {H : Type} : List (Lit × DataW H) → Nat
  | [] => 0
  | x :: r => uptoBulkEntry x + uptoBulkEntries r
def uptoBulkEntry {H : Type} : Lit × DataW H → Nat
  | (.string bytes, d) => bytes.length + uptoBulk d + 1
  | (_, d) => uptoBulk d + 1
 end
def uptoSmall : (H : Type) → List (DataW H) → Bool := fun _ ds => decide (uptoBulkAll ds ≤ 1048576)
def OpenSpec.upto (s : _root_.Go.ChangeSpec) : _root_.Go.OpenSpec := { _root_.Go.OpenSpec.ofChange s with cond := some uptoSmall }

/-- 'laws.FnExactLogLen', WHERE WHAT IT READS IS OF BULK AT MOST 1048576: true; the input reads as it did. -/
def fnExactLogLenUptoRow : OpenClaim := { program := "ytpjcnjefffakpaagreatdoor", sum := "171537db246d602ad67875aca5b901a6900997bb072f07f6f36739b313a609a9", func := "loop.example/g00971/laws.FnExactLogLen", spec := "fnExactLogLen", inPlace := ["internal/abi.NoEscape", "internal/bytealg.MakeNoZero"], unfollowed := true, recurses := true, named := ["internal/strconv.uint64pow10", "math/bits.deBruijn32tab", "math/bits.deBruijn64tab"], apart := false, laid := [("math/bits.deBruijn32tab", laid_math_bits_deBruijn32tab), ("math/bits.deBruijn64tab", laid_math_bits_deBruijn64tab), ("internal/strconv.uint64pow10", laid_internal_strconv_uint64pow10)], narrowed := true }
def FnExactLogLenUptoSaid : Prop := fnExactLogLenUptoRow.holds Tryz.pinned (OpenSpec.upto fnExactLogLenSpec)

/-- 'laws.FnExactLost', WHERE WHAT IT READS IS OF BULK AT MOST 1048576: true; the input reads as it did. -/
def fnExactLostUptoRow : OpenClaim := { program := "ytpjcnjefffakpaagreatdoor", sum := "171537db246d602ad67875aca5b901a6900997bb072f07f6f36739b313a609a9", func := "loop.example/g00971/laws.FnExactLost", spec := "fnExactLost", inPlace := ["internal/abi.NoEscape", "internal/bytealg.MakeNoZero"], unfollowed := true, recurses := true, named := ["internal/strconv.uint64pow10", "math/bits.deBruijn32tab", "math/bits.deBruijn64tab"], apart := false, laid := [("math/bits.deBruijn32tab", laid_math_bits_deBruijn32tab), ("math/bits.deBruijn64tab", laid_math_bits_deBruijn64tab), ("internal/strconv.uint64pow10", laid_internal_strconv_uint64pow10)], narrowed := true }
def FnExactLostUptoSaid : Prop := fnExactLostUptoRow.holds Tryz.pinned (OpenSpec.upto fnExactLostSpec)

/-- 'laws.FnExactLogGet', WHERE WHAT IT READS IS OF BULK AT MOST 1048576: true; the input reads as it did. -/
def fnExactLogGetUptoRow : OpenClaim := { program := "ytpjcnjefffakpaagreatdoor", sum := "171537db246d602ad67875aca5b901a6900997bb072f07f6f36739b313a609a9", func := "loop.example/g00971/laws.FnExactLogGet", spec := "fnExactLogGet", inPlace := ["internal/abi.NoEscape", "internal/bytealg.MakeNoZero"], unfollowed := true, recurses := true, named := ["internal/strconv.uint64pow10", "math/bits.deBruijn32tab", "math/bits.deBruijn64tab"], apart := false, laid := [("math/bits.deBruijn32tab", laid_math_bits_deBruijn32tab), ("math/bits.deBruijn64tab", laid_math_bits_deBruijn64tab), ("internal/strconv.uint64pow10", laid_internal_strconv_uint64pow10)], narrowed := true }
def FnExactLogGetUptoSaid : Prop := fnExactLogGetUptoRow.holds Tryz.pinned (OpenSpec.upto fnExactLogGetSpec)

/-- 'laws.FnExactLogFind', WHERE WHAT IT READS IS OF BULK AT MOST 1048576: true; the input reads as it did. -/
def fnExactLogFindUptoRow : OpenClaim := { program := "ytpjcnjefffakpaagreatdoor", sum := "171537db246d602ad67875aca5b901a6900997bb072f07f6f36739b313a609a9", func := "loop.example/g00971/laws.FnExactLogFind", spec := "fnExactLogFind", inPlace := ["internal/abi.NoEscape", "internal/bytealg.MakeNoZero"], unfollowed := true, recurses := true, named := ["internal/strconv.uint64pow10", "math/bits.deBruijn32tab", "math/bits.deBruijn64tab"], apart := false, laid := [("math/bits.deBruijn32tab", laid_math_bits_deBruijn32tab), ("math/bits.deBruijn64tab", laid_math_bits_deBruijn64tab), ("internal/strconv.uint64pow10", laid_internal_strconv_uint64pow10)], narrowed := true }
def FnExactLogFindUptoSaid : Prop := fnExactLogFindUptoRow.holds Tryz.pinned (OpenSpec.upto fnExactLogFindSpec)

/-- 'laws.FnExactFileOf', WHERE WHAT IT READS IS OF BULK AT MOST 1048576: true; the input reads as it did. -/
def fnExactFileOfUptoRow : OpenClaim := { program := "ytpjcnjefffakpaagreatdoor", sum := "171537db246d602ad67875aca5b901a6900997bb072f07f6f36739b313a609a9", func := "loop.example/g00971/laws.FnExactFileOf", spec := "fnExactFileOf", inPlace := ["internal/abi.NoEscape", "internal/bytealg.MakeNoZero"], unfollowed := true, recurses := true, named := ["internal/strconv.uint64pow10", "math/bits.deBruijn32tab", "math/bits.deBruijn64tab"], apart := false, laid := [("math/bits.deBruijn32tab", laid_math_bits_deBruijn32tab), ("math/bits.deBruijn64tab", laid_math_bits_deBruijn64tab), ("internal/strconv.uint64pow10", laid_internal_strconv_uint64pow10)], narrowed := true }
def FnExactFileOfUptoSaid : Prop := fnExactFileOfUptoRow.holds Tryz.pinned (OpenSpec.upto fnExactFileOfSpec)

/-- 'laws.FnExactLogRange', WHERE WHAT IT READS IS OF BULK AT MOST 1048576: true; the input reads as it did. -/
def fnExactLogRangeUptoRow : OpenClaim := { program := "ytpjcnjefffakpaagreatdoor", sum := "171537db246d602ad67875aca5b901a6900997bb072f07f6f36739b313a609a9", func := "loop.example/g00971/laws.FnExactLogRange", spec := "fnExactLogRange", inPlace := ["internal/abi.NoEscape", "internal/bytealg.MakeNoZero"], unfollowed := true, recurses := true, named := ["internal/strconv.uint64pow10", "math/bits.deBruijn32tab", "math/bits.deBruijn64tab"], apart := false, laid := [("math/bits.deBruijn32tab", laid_math_bits_deBruijn32tab), ("math/bits.deBruijn64tab", laid_math_bits_deBruijn64tab), ("internal/strconv.uint64pow10", laid_internal_strconv_uint64pow10)], narrowed := true }
def FnExactLogRangeUptoSaid : Prop := fnExactLogRangeUptoRow.holds Tryz.pinned (OpenSpec.upto fnExactLogRangeSpec)

/-- 'laws.FnExactLogTail', WHERE WHAT IT READS IS OF BULK AT MOST 1048576: true; the input reads as it did. -/
def fnExactLogTailUptoRow : OpenClaim := { program := "ytpjcnjefffakpaagreatdoor", sum := "171537db246d602ad67875aca5b901a6900997bb072f07f6f36739b313a609a9", func := "loop.example/g00971/laws.FnExactLogTail", spec := "fnExactLogTail", inPlace := ["internal/abi.NoEscape", "internal/bytealg.MakeNoZero"], unfollowed := true, recurses := true, named := ["internal/strconv.uint64pow10", "math/bits.deBruijn32tab", "math/bits.deBruijn64tab"], apart := false, laid := [("math/bits.deBruijn32tab", laid_math_bits_deBruijn32tab), ("math/bits.deBruijn64tab", laid_math_bits_deBruijn64tab), ("internal/strconv.uint64pow10", laid_internal_strconv_uint64pow10)], narrowed := true }
def FnExactLogTailUptoSaid : Prop := fnExactLogTailUptoRow.holds Tryz.pinned (OpenSpec.upto fnExactLogTailSpec)

/-- 'laws.FnExactLeftBehind', WHERE WHAT IT READS IS OF BULK AT MOST 1048576: true; the input reads as it did. -/
def fnExactLeftBehindUptoRow : OpenClaim := { program := "ytpjcnjefffakpaagreatdoor", sum := "171537db246d602ad67875aca5b901a6900997bb072f07f6f36739b313a609a9", func := "loop.example/g00971/laws.FnExactLeftBehind", spec := "fnExactLeftBehind", inPlace := ["internal/abi.NoEscape", "internal/bytealg.MakeNoZero"], unfollowed := true, recurses := true, named := ["internal/strconv.uint64pow10", "math/bits.deBruijn32tab", "math/bits.deBruijn64tab"], apart := false, laid := [("math/bits.deBruijn32tab", laid_math_bits_deBruijn32tab), ("math/bits.deBruijn64tab", laid_math_bits_deBruijn64tab), ("internal/strconv.uint64pow10", laid_internal_strconv_uint64pow10)], narrowed := true }
def FnExactLeftBehindUptoSaid : Prop := fnExactLeftBehindUptoRow.holds Tryz.pinned (OpenSpec.upto fnExactLeftBehindSpec)

/-- 'laws.FnExactLogSeek', WHERE WHAT IT READS IS OF BULK AT MOST 1048576: true; the input reads as it did. -/
def fnExactLogSeekUptoRow : OpenClaim := { program := "ytpjcnjefffakpaagreatdoor", sum := "171537db246d602ad67875aca5b901a6900997bb072f07f6f36739b313a609a9", func := "loop.example/g00971/laws.FnExactLogSeek", spec := "fnExactLogSeek", inPlace := ["internal/abi.NoEscape", "internal/bytealg.MakeNoZero"], unfollowed := true, recurses := true, named := ["internal/strconv.uint64pow10", "math/bits.deBruijn32tab", "math/bits.deBruijn64tab"], apart := false, laid := [("math/bits.deBruijn32tab", laid_math_bits_deBruijn32tab), ("math/bits.deBruijn64tab", laid_math_bits_deBruijn64tab), ("internal/strconv.uint64pow10", laid_internal_strconv_uint64pow10)], narrowed := true }
def FnExactLogSeekUptoSaid : Prop := fnExactLogSeekUptoRow.holds Tryz.pinned (OpenSpec.upto fnExactLogSeekSpec)

end Rows
end Go.Proofs.YtpjcnjefffakpaaGreatDoor
