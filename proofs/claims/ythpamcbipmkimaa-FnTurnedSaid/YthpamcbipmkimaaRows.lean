/-
  No cell of these rows narrows 'for every input' (looked for: loops, veiled, ifaces, maps, wideKeys, modest, calm, conditions, laid).
  DERIVED. THE GIVEN ROWS OF THIS SEAT. 16 by the template 'for every input the law returns true; each argument reads behind the call as it read before'; 0 by the template 'total and deterministic' (their statements: YthpamcbipmkimaaTotals.lean).
  GIVEN WITH THE SEED: the statements are not yours to turn. If you find one false, say at which input.
  Laid BY PROGRAM, IN A SANDBOX (cutbox-rows.mjs): the forced cells as the released guide's own fill.sh prints them over the translation 2828d88cd8c2a054… (all of the seat's roots in one cut). By AI agents, Wed Nov 11 2026. No macro, syntax, notation, axiom, sorry.
-/
import Derived.Test.YthpamcbipmkimaaChecked
import GoSem.Claim
import GoSem.ClaimJoined
import GoSem.ClaimMapViews
import Derived.JoinedTies
import Derived.KernelRfl
namespace Go.Proofs.Ythpamcbipmkimaa
/- THE CELL 'sum', in the pinned program and in every row, IS THE sha256 OF THE DUMP (.gsa) THAT YthpamcbipmkimaaProg.lean LOADS. Nothing in Lean hashes anything: it is a label: what it is worth is what the hold of that sum in a sandbox is worth. -/
noncomputable def Try.pinned : Pinned := { name := "ythpamcbipmkimaa", sum := "2828d88cd8c2a054cc7d8f6ae38bdcb422cc9c5154cc10c6551aec96b22a4e3c", checked := Try.checked }
namespace Rows
def none {H : Type} : Left H := { results := [], args := [] }

/-- 'laws.FnExactIsBurst': WHATEVER THE INPUT: true; the input reads as it did. -/
def fnExactIsBurstSpec : ChangeSpec := { name := "fnExactIsBurst", fn := fun _ => fun
  | [d1, d2] => { results := [.lit (.bool true)], args := [d1, d2] }
  | _ => none }
def fnExactIsBurstRow : OpenClaim := { program := "ythpamcbipmkimaa", sum := "2828d88cd8c2a054cc7d8f6ae38bdcb422cc9c5154cc10c6551aec96b22a4e3c", func := "loop.example/g00971/laws.FnExactIsBurst", spec := "fnExactIsBurst", apart := false }
def FnExactIsBurstSaid : Prop := fnExactIsBurstRow.holds Try.pinned (OpenSpec.ofChange fnExactIsBurstSpec)

/-- ITS FALSE NEIGHBOUR: 'it returns false'. Refute it at one input. -/
def fnExactIsBurstWrong : ChangeSpec := { name := "fnExactIsBurst", fn := fun _ => fun
  | [d1, d2] => { results := [.lit (.bool false)], args := [d1, d2] }
  | _ => none }
def FnExactIsBurstWrongFalsely : Prop := fnExactIsBurstRow.holds Try.pinned (OpenSpec.ofChange fnExactIsBurstWrong)

/-- 'laws.FnExactActOk': WHATEVER THE INPUT: true; the input reads as it did. -/
def fnExactActOkSpec : ChangeSpec := { name := "fnExactActOk", fn := fun _ => fun
  | [d] => { results := [.lit (.bool true)], args := [d] }
  | _ => none }
def fnExactActOkRow : OpenClaim := { program := "ythpamcbipmkimaa", sum := "2828d88cd8c2a054cc7d8f6ae38bdcb422cc9c5154cc10c6551aec96b22a4e3c", func := "loop.example/g00971/laws.FnExactActOk", spec := "fnExactActOk", apart := false }
def FnExactActOkSaid : Prop := fnExactActOkRow.holds Try.pinned (OpenSpec.ofChange fnExactActOkSpec)

/-- ITS FALSE NEIGHBOUR: 'it returns false'. Refute it at one input. -/
def fnExactActOkWrong : ChangeSpec := { name := "fnExactActOk", fn := fun _ => fun
  | [d] => { results := [.lit (.bool false)], args := [d] }
  | _ => none }
def FnExactActOkWrongFalsely : Prop := fnExactActOkRow.holds Try.pinned (OpenSpec.ofChange fnExactActOkWrong)

/-- 'laws.FnBits': WHATEVER THE INPUT: true; the input reads as it did. -/
def fnBitsSpec : ChangeSpec := { name := "fnBits", fn := fun _ => fun
  | [d] => { results := [.lit (.bool true)], args := [d] }
  | _ => none }
def fnBitsRow : OpenClaim := { program := "ythpamcbipmkimaa", sum := "2828d88cd8c2a054cc7d8f6ae38bdcb422cc9c5154cc10c6551aec96b22a4e3c", func := "loop.example/g00971/laws.FnBits", spec := "fnBits", apart := false }
def FnBitsSaid : Prop := fnBitsRow.holds Try.pinned (OpenSpec.ofChange fnBitsSpec)

/-- ITS FALSE NEIGHBOUR: 'it returns false'. Refute it at one input. -/
def fnBitsWrong : ChangeSpec := { name := "fnBits", fn := fun _ => fun
  | [d] => { results := [.lit (.bool false)], args := [d] }
  | _ => none }
def FnBitsWrongFalsely : Prop := fnBitsRow.holds Try.pinned (OpenSpec.ofChange fnBitsWrong)

/-- 'laws.FnCuts': WHATEVER THE INPUT: true; the input reads as it did. -/
def fnCutsSpec : ChangeSpec := { name := "fnCuts", fn := fun _ => fun
  | [d] => { results := [.lit (.bool true)], args := [d] }
  | _ => none }
def fnCutsRow : OpenClaim := { program := "ythpamcbipmkimaa", sum := "2828d88cd8c2a054cc7d8f6ae38bdcb422cc9c5154cc10c6551aec96b22a4e3c", func := "loop.example/g00971/laws.FnCuts", spec := "fnCuts", unfollowed := true, recurses := true, apart := false }
def FnCutsSaid : Prop := fnCutsRow.holds Try.pinned (OpenSpec.ofChange fnCutsSpec)

/-- ITS FALSE NEIGHBOUR: 'it returns false'. Refute it at one input. -/
def fnCutsWrong : ChangeSpec := { name := "fnCuts", fn := fun _ => fun
  | [d] => { results := [.lit (.bool false)], args := [d] }
  | _ => none }
def FnCutsWrongFalsely : Prop := fnCutsRow.holds Try.pinned (OpenSpec.ofChange fnCutsWrong)

/-- 'laws.FnExactCut': WHATEVER THE INPUT: true; the input reads as it did. -/
def fnExactCutSpec : ChangeSpec := { name := "fnExactCut", fn := fun _ => fun
  | [d1, d2] => { results := [.lit (.bool true)], args := [d1, d2] }
  | _ => none }
def fnExactCutRow : OpenClaim := { program := "ythpamcbipmkimaa", sum := "2828d88cd8c2a054cc7d8f6ae38bdcb422cc9c5154cc10c6551aec96b22a4e3c", func := "loop.example/g00971/laws.FnExactCut", spec := "fnExactCut", unfollowed := true, recurses := true, apart := false }
def FnExactCutSaid : Prop := fnExactCutRow.holds Try.pinned (OpenSpec.ofChange fnExactCutSpec)

/-- ITS FALSE NEIGHBOUR: 'it returns false'. Refute it at one input. -/
def fnExactCutWrong : ChangeSpec := { name := "fnExactCut", fn := fun _ => fun
  | [d1, d2] => { results := [.lit (.bool false)], args := [d1, d2] }
  | _ => none }
def FnExactCutWrongFalsely : Prop := fnExactCutRow.holds Try.pinned (OpenSpec.ofChange fnExactCutWrong)

/-- 'laws.FnExactHeadHit': WHATEVER THE INPUT: true; the input reads as it did. -/
def fnExactHeadHitSpec : ChangeSpec := { name := "fnExactHeadHit", fn := fun _ => fun
  | [d1, d2, d3] => { results := [.lit (.bool true)], args := [d1, d2, d3] }
  | _ => none }
def fnExactHeadHitRow : OpenClaim := { program := "ythpamcbipmkimaa", sum := "2828d88cd8c2a054cc7d8f6ae38bdcb422cc9c5154cc10c6551aec96b22a4e3c", func := "loop.example/g00971/laws.FnExactHeadHit", spec := "fnExactHeadHit", apart := false }
def FnExactHeadHitSaid : Prop := fnExactHeadHitRow.holds Try.pinned (OpenSpec.ofChange fnExactHeadHitSpec)

/-- ITS FALSE NEIGHBOUR: 'it returns false'. Refute it at one input. -/
def fnExactHeadHitWrong : ChangeSpec := { name := "fnExactHeadHit", fn := fun _ => fun
  | [d1, d2, d3] => { results := [.lit (.bool false)], args := [d1, d2, d3] }
  | _ => none }
def FnExactHeadHitWrongFalsely : Prop := fnExactHeadHitRow.holds Try.pinned (OpenSpec.ofChange fnExactHeadHitWrong)

/-- 'laws.FnTurned': WHATEVER THE INPUT: true; the input reads as it did. -/
def fnTurnedSpec : ChangeSpec := { name := "fnTurned", fn := fun _ => fun
  | [d] => { results := [.lit (.bool true)], args := [d] }
  | _ => none }
def fnTurnedRow : OpenClaim := { program := "ythpamcbipmkimaa", sum := "2828d88cd8c2a054cc7d8f6ae38bdcb422cc9c5154cc10c6551aec96b22a4e3c", func := "loop.example/g00971/laws.FnTurned", spec := "fnTurned", apart := false }
def FnTurnedSaid : Prop := fnTurnedRow.holds Try.pinned (OpenSpec.ofChange fnTurnedSpec)

/-- ITS FALSE NEIGHBOUR: 'it returns false'. Refute it at one input. -/
def fnTurnedWrong : ChangeSpec := { name := "fnTurned", fn := fun _ => fun
  | [d] => { results := [.lit (.bool false)], args := [d] }
  | _ => none }
def FnTurnedWrongFalsely : Prop := fnTurnedRow.holds Try.pinned (OpenSpec.ofChange fnTurnedWrong)

/-- 'laws.FnFrameBursts': WHATEVER THE INPUT: true; the input reads as it did. -/
def fnFrameBurstsSpec : ChangeSpec := { name := "fnFrameBursts", fn := fun _ => fun
  | [d] => { results := [.lit (.bool true)], args := [d] }
  | _ => none }
def fnFrameBurstsRow : OpenClaim := { program := "ythpamcbipmkimaa", sum := "2828d88cd8c2a054cc7d8f6ae38bdcb422cc9c5154cc10c6551aec96b22a4e3c", func := "loop.example/g00971/laws.FnFrameBursts", spec := "fnFrameBursts", apart := false }
def FnFrameBurstsSaid : Prop := fnFrameBurstsRow.holds Try.pinned (OpenSpec.ofChange fnFrameBurstsSpec)

/-- ITS FALSE NEIGHBOUR: 'it returns false'. Refute it at one input. -/
def fnFrameBurstsWrong : ChangeSpec := { name := "fnFrameBursts", fn := fun _ => fun
  | [d] => { results := [.lit (.bool false)], args := [d] }
  | _ => none }
def FnFrameBurstsWrongFalsely : Prop := fnFrameBurstsRow.holds Try.pinned (OpenSpec.ofChange fnFrameBurstsWrong)

/-- 'laws.FnHeads': WHATEVER THE INPUT: true; the input reads as it did. -/
def fnHeadsSpec : ChangeSpec := { name := "fnHeads", fn := fun _ => fun
  | [d] => { results := [.lit (.bool true)], args := [d] }
  | _ => none }
def fnHeadsRow : OpenClaim := { program := "ythpamcbipmkimaa", sum := "2828d88cd8c2a054cc7d8f6ae38bdcb422cc9c5154cc10c6551aec96b22a4e3c", func := "loop.example/g00971/laws.FnHeads", spec := "fnHeads", apart := false }
def FnHeadsSaid : Prop := fnHeadsRow.holds Try.pinned (OpenSpec.ofChange fnHeadsSpec)

/-- ITS FALSE NEIGHBOUR: 'it returns false'. Refute it at one input. -/
def fnHeadsWrong : ChangeSpec := { name := "fnHeads", fn := fun _ => fun
  | [d] => { results := [.lit (.bool false)], args := [d] }
  | _ => none }
def FnHeadsWrongFalsely : Prop := fnHeadsRow.holds Try.pinned (OpenSpec.ofChange fnHeadsWrong)

/-- 'laws.FnExactWorldNew': WHATEVER THE INPUT: true; the input reads as it did. -/
def fnExactWorldNewSpec : ChangeSpec := { name := "fnExactWorldNew", fn := fun _ => fun
  | [d] => { results := [.lit (.bool true)], args := [d] }
  | _ => none }
def fnExactWorldNewRow : OpenClaim := { program := "ythpamcbipmkimaa", sum := "2828d88cd8c2a054cc7d8f6ae38bdcb422cc9c5154cc10c6551aec96b22a4e3c", func := "loop.example/g00971/laws.FnExactWorldNew", spec := "fnExactWorldNew", apart := false }
def FnExactWorldNewSaid : Prop := fnExactWorldNewRow.holds Try.pinned (OpenSpec.ofChange fnExactWorldNewSpec)

/-- ITS FALSE NEIGHBOUR: 'it returns false'. Refute it at one input. -/
def fnExactWorldNewWrong : ChangeSpec := { name := "fnExactWorldNew", fn := fun _ => fun
  | [d] => { results := [.lit (.bool false)], args := [d] }
  | _ => none }
def FnExactWorldNewWrongFalsely : Prop := fnExactWorldNewRow.holds Try.pinned (OpenSpec.ofChange fnExactWorldNewWrong)

/-- 'laws.FnExactFrameRange': WHATEVER THE INPUT: true; the input reads as it did. -/
def fnExactFrameRangeSpec : ChangeSpec := { name := "fnExactFrameRange", fn := fun _ => fun
  | [d1, d2] => { results := [.lit (.bool true)], args := [d1, d2] }
  | _ => none }
def fnExactFrameRangeRow : OpenClaim := { program := "ythpamcbipmkimaa", sum := "2828d88cd8c2a054cc7d8f6ae38bdcb422cc9c5154cc10c6551aec96b22a4e3c", func := "loop.example/g00971/laws.FnExactFrameRange", spec := "fnExactFrameRange", apart := false }
def FnExactFrameRangeSaid : Prop := fnExactFrameRangeRow.holds Try.pinned (OpenSpec.ofChange fnExactFrameRangeSpec)

/-- ITS FALSE NEIGHBOUR: 'it returns false'. Refute it at one input. -/
def fnExactFrameRangeWrong : ChangeSpec := { name := "fnExactFrameRange", fn := fun _ => fun
  | [d1, d2] => { results := [.lit (.bool false)], args := [d1, d2] }
  | _ => none }
def FnExactFrameRangeWrongFalsely : Prop := fnExactFrameRangeRow.holds Try.pinned (OpenSpec.ofChange fnExactFrameRangeWrong)

/-- 'laws.FnExactSizesHit': WHATEVER THE INPUT: true; the input reads as it did. -/
def fnExactSizesHitSpec : ChangeSpec := { name := "fnExactSizesHit", fn := fun _ => fun
  | [d1, d2, d3] => { results := [.lit (.bool true)], args := [d1, d2, d3] }
  | _ => none }
def fnExactSizesHitRow : OpenClaim := { program := "ythpamcbipmkimaa", sum := "2828d88cd8c2a054cc7d8f6ae38bdcb422cc9c5154cc10c6551aec96b22a4e3c", func := "loop.example/g00971/laws.FnExactSizesHit", spec := "fnExactSizesHit", apart := false }
def FnExactSizesHitSaid : Prop := fnExactSizesHitRow.holds Try.pinned (OpenSpec.ofChange fnExactSizesHitSpec)

/-- ITS FALSE NEIGHBOUR: 'it returns false'. Refute it at one input. -/
def fnExactSizesHitWrong : ChangeSpec := { name := "fnExactSizesHit", fn := fun _ => fun
  | [d1, d2, d3] => { results := [.lit (.bool false)], args := [d1, d2, d3] }
  | _ => none }
def FnExactSizesHitWrongFalsely : Prop := fnExactSizesHitRow.holds Try.pinned (OpenSpec.ofChange fnExactSizesHitWrong)

/-- 'laws.FnExactFirstHit': WHATEVER THE INPUT: true; the input reads as it did. -/
def fnExactFirstHitSpec : ChangeSpec := { name := "fnExactFirstHit", fn := fun _ => fun
  | [d1, d2, d3] => { results := [.lit (.bool true)], args := [d1, d2, d3] }
  | _ => none }
def fnExactFirstHitRow : OpenClaim := { program := "ythpamcbipmkimaa", sum := "2828d88cd8c2a054cc7d8f6ae38bdcb422cc9c5154cc10c6551aec96b22a4e3c", func := "loop.example/g00971/laws.FnExactFirstHit", spec := "fnExactFirstHit", apart := false }
def FnExactFirstHitSaid : Prop := fnExactFirstHitRow.holds Try.pinned (OpenSpec.ofChange fnExactFirstHitSpec)

/-- ITS FALSE NEIGHBOUR: 'it returns false'. Refute it at one input. -/
def fnExactFirstHitWrong : ChangeSpec := { name := "fnExactFirstHit", fn := fun _ => fun
  | [d1, d2, d3] => { results := [.lit (.bool false)], args := [d1, d2, d3] }
  | _ => none }
def FnExactFirstHitWrongFalsely : Prop := fnExactFirstHitRow.holds Try.pinned (OpenSpec.ofChange fnExactFirstHitWrong)

/-- 'laws.FnHeadsHit': WHATEVER THE INPUT: true; the input reads as it did. -/
def fnHeadsHitSpec : ChangeSpec := { name := "fnHeadsHit", fn := fun _ => fun
  | [d] => { results := [.lit (.bool true)], args := [d] }
  | _ => none }
def fnHeadsHitRow : OpenClaim := { program := "ythpamcbipmkimaa", sum := "2828d88cd8c2a054cc7d8f6ae38bdcb422cc9c5154cc10c6551aec96b22a4e3c", func := "loop.example/g00971/laws.FnHeadsHit", spec := "fnHeadsHit", apart := false }
def FnHeadsHitSaid : Prop := fnHeadsHitRow.holds Try.pinned (OpenSpec.ofChange fnHeadsHitSpec)

/-- ITS FALSE NEIGHBOUR: 'it returns false'. Refute it at one input. -/
def fnHeadsHitWrong : ChangeSpec := { name := "fnHeadsHit", fn := fun _ => fun
  | [d] => { results := [.lit (.bool false)], args := [d] }
  | _ => none }
def FnHeadsHitWrongFalsely : Prop := fnHeadsHitRow.holds Try.pinned (OpenSpec.ofChange fnHeadsHitWrong)

/-- 'laws.FnHits': WHATEVER THE INPUT: true; the input reads as it did. -/
def fnHitsSpec : ChangeSpec := { name := "fnHits", fn := fun _ => fun
  | [d] => { results := [.lit (.bool true)], args := [d] }
  | _ => none }
def fnHitsRow : OpenClaim := { program := "ythpamcbipmkimaa", sum := "2828d88cd8c2a054cc7d8f6ae38bdcb422cc9c5154cc10c6551aec96b22a4e3c", func := "loop.example/g00971/laws.FnHits", spec := "fnHits", apart := false }
def FnHitsSaid : Prop := fnHitsRow.holds Try.pinned (OpenSpec.ofChange fnHitsSpec)

/-- ITS FALSE NEIGHBOUR: 'it returns false'. Refute it at one input. -/
def fnHitsWrong : ChangeSpec := { name := "fnHits", fn := fun _ => fun
  | [d] => { results := [.lit (.bool false)], args := [d] }
  | _ => none }
def FnHitsWrongFalsely : Prop := fnHitsRow.holds Try.pinned (OpenSpec.ofChange fnHitsWrong)

/-- 'laws.FnBurstsOld': WHATEVER THE INPUT: true; the input reads as it did. -/
def fnBurstsOldSpec : ChangeSpec := { name := "fnBurstsOld", fn := fun _ => fun
  | [d] => { results := [.lit (.bool true)], args := [d] }
  | _ => none }
def fnBurstsOldRow : OpenClaim := { program := "ythpamcbipmkimaa", sum := "2828d88cd8c2a054cc7d8f6ae38bdcb422cc9c5154cc10c6551aec96b22a4e3c", func := "loop.example/g00971/laws.FnBurstsOld", spec := "fnBurstsOld", apart := false }
def FnBurstsOldSaid : Prop := fnBurstsOldRow.holds Try.pinned (OpenSpec.ofChange fnBurstsOldSpec)

/-- ITS FALSE NEIGHBOUR: 'it returns false'. Refute it at one input. -/
def fnBurstsOldWrong : ChangeSpec := { name := "fnBurstsOld", fn := fun _ => fun
  | [d] => { results := [.lit (.bool false)], args := [d] }
  | _ => none }
def FnBurstsOldWrongFalsely : Prop := fnBurstsOldRow.holds Try.pinned (OpenSpec.ofChange fnBurstsOldWrong)

/- THE SECOND FORM. 'bulk': how many values and letters a reading holds, each counted each time it is reached (what is shared counts as often as it is met; a slice's spare places count too). A statement '..UptoSaid' is the law's where the arguments, and the package variables that the reading takes, are together of bulk at most 1048576: NARROWER than '..Said'. Prove '..Said' where nothing that the law and all that it calls make is longer than what came in: it says more and counts as full. Else prove '..UptoSaid'. A law counts once. -/
mutual
def uptoBulk {H : Type} : DataW H → Nat
  | .lit (.string bytes) => bytes.length + 1
  | .lit _ => 1
  | .nil => 1
  | .ptr d => uptoBulk d + 1
  | .slice elems spare => uptoBulkAll elems + uptoBulkAll spare + 1
  | .agg parts => uptoBulkAll parts + 1
  | .iface _ d => uptoBulk d + 1
  | .map entries => uptoBulkEntries entries + 1
  | .held _ => 1
def uptoBulkAll {H : Type} : List (DataW H) → Nat
  | [] => 0
  | d :: r => uptoBulk d + uptoBulkAll r
def uptoBulkEntries {H : Type} : List (Lit × DataW H) → Nat
  | [] => 0
  | x :: r => uptoBulkEntry x + uptoBulkEntries r
def uptoBulkEntry {H : Type} : Lit × DataW H → Nat
  | (.string bytes, d) => bytes.length + uptoBulk d + 1
  | (_, d) => uptoBulk d + 1
 end
def uptoSmall : (H : Type) → List (DataW H) → Bool := fun _ ds => decide (uptoBulkAll ds ≤ 1048576)
def OpenSpec.upto (s : _root_.Go.ChangeSpec) : _root_.Go.OpenSpec := { _root_.Go.OpenSpec.ofChange s with cond := some uptoSmall }

/-- 'laws.FnExactIsBurst', WHERE WHAT IT READS IS OF BULK AT MOST 1048576: true; the input reads as it did. -/
def fnExactIsBurstUptoRow : OpenClaim := { program := "ythpamcbipmkimaa", sum := "2828d88cd8c2a054cc7d8f6ae38bdcb422cc9c5154cc10c6551aec96b22a4e3c", func := "loop.example/g00971/laws.FnExactIsBurst", spec := "fnExactIsBurst", apart := false, narrowed := true }
def FnExactIsBurstUptoSaid : Prop := fnExactIsBurstUptoRow.holds Try.pinned (OpenSpec.upto fnExactIsBurstSpec)

/-- 'laws.FnExactActOk', WHERE WHAT IT READS IS OF BULK AT MOST 1048576: true; the input reads as it did. -/
def fnExactActOkUptoRow : OpenClaim := { program := "ythpamcbipmkimaa", sum := "2828d88cd8c2a054cc7d8f6ae38bdcb422cc9c5154cc10c6551aec96b22a4e3c", func := "loop.example/g00971/laws.FnExactActOk", spec := "fnExactActOk", apart := false, narrowed := true }
def FnExactActOkUptoSaid : Prop := fnExactActOkUptoRow.holds Try.pinned (OpenSpec.upto fnExactActOkSpec)

/-- 'laws.FnBits', WHERE WHAT IT READS IS OF BULK AT MOST 1048576: true; the input reads as it did. -/
def fnBitsUptoRow : OpenClaim := { program := "ythpamcbipmkimaa", sum := "2828d88cd8c2a054cc7d8f6ae38bdcb422cc9c5154cc10c6551aec96b22a4e3c", func := "loop.example/g00971/laws.FnBits", spec := "fnBits", apart := false, narrowed := true }
def FnBitsUptoSaid : Prop := fnBitsUptoRow.holds Try.pinned (OpenSpec.upto fnBitsSpec)

/-- 'laws.FnCuts', WHERE WHAT IT READS IS OF BULK AT MOST 1048576: true; the input reads as it did. -/
def fnCutsUptoRow : OpenClaim := { program := "ythpamcbipmkimaa", sum := "2828d88cd8c2a054cc7d8f6ae38bdcb422cc9c5154cc10c6551aec96b22a4e3c", func := "loop.example/g00971/laws.FnCuts", spec := "fnCuts", unfollowed := true, recurses := true, apart := false, narrowed := true }
def FnCutsUptoSaid : Prop := fnCutsUptoRow.holds Try.pinned (OpenSpec.upto fnCutsSpec)

/-- 'laws.FnExactCut', WHERE WHAT IT READS IS OF BULK AT MOST 1048576: true; the input reads as it did. -/
def fnExactCutUptoRow : OpenClaim := { program := "ythpamcbipmkimaa", sum := "2828d88cd8c2a054cc7d8f6ae38bdcb422cc9c5154cc10c6551aec96b22a4e3c", func := "loop.example/g00971/laws.FnExactCut", spec := "fnExactCut", unfollowed := true, recurses := true, apart := false, narrowed := true }
def FnExactCutUptoSaid : Prop := fnExactCutUptoRow.holds Try.pinned (OpenSpec.upto fnExactCutSpec)

/-- 'laws.FnExactHeadHit', WHERE WHAT IT READS IS OF BULK AT MOST 1048576: true; the input reads as it did. -/
def fnExactHeadHitUptoRow : OpenClaim := { program := "ythpamcbipmkimaa", sum := "2828d88cd8c2a054cc7d8f6ae38bdcb422cc9c5154cc10c6551aec96b22a4e3c", func := "loop.example/g00971/laws.FnExactHeadHit", spec := "fnExactHeadHit", apart := false, narrowed := true }
def FnExactHeadHitUptoSaid : Prop := fnExactHeadHitUptoRow.holds Try.pinned (OpenSpec.upto fnExactHeadHitSpec)

/-- 'laws.FnTurned', WHERE WHAT IT READS IS OF BULK AT MOST 1048576: true; the input reads as it did. -/
def fnTurnedUptoRow : OpenClaim := { program := "ythpamcbipmkimaa", sum := "2828d88cd8c2a054cc7d8f6ae38bdcb422cc9c5154cc10c6551aec96b22a4e3c", func := "loop.example/g00971/laws.FnTurned", spec := "fnTurned", apart := false, narrowed := true }
def FnTurnedUptoSaid : Prop := fnTurnedUptoRow.holds Try.pinned (OpenSpec.upto fnTurnedSpec)

/-- 'laws.FnFrameBursts', WHERE WHAT IT READS IS OF BULK AT MOST 1048576: true; the input reads as it did. -/
def fnFrameBurstsUptoRow : OpenClaim := { program := "ythpamcbipmkimaa", sum := "2828d88cd8c2a054cc7d8f6ae38bdcb422cc9c5154cc10c6551aec96b22a4e3c", func := "loop.example/g00971/laws.FnFrameBursts", spec := "fnFrameBursts", apart := false, narrowed := true }
def FnFrameBurstsUptoSaid : Prop := fnFrameBurstsUptoRow.holds Try.pinned (OpenSpec.upto fnFrameBurstsSpec)

/-- 'laws.FnHeads', WHERE WHAT IT READS IS OF BULK AT MOST 1048576: true; the input reads as it did. -/
def fnHeadsUptoRow : OpenClaim := { program := "ythpamcbipmkimaa", sum := "2828d88cd8c2a054cc7d8f6ae38bdcb422cc9c5154cc10c6551aec96b22a4e3c", func := "loop.example/g00971/laws.FnHeads", spec := "fnHeads", apart := false, narrowed := true }
def FnHeadsUptoSaid : Prop := fnHeadsUptoRow.holds Try.pinned (OpenSpec.upto fnHeadsSpec)

/-- 'laws.FnExactWorldNew', WHERE WHAT IT READS IS OF BULK AT MOST 1048576: true; the input reads as it did. -/
def fnExactWorldNewUptoRow : OpenClaim := { program := "ythpamcbipmkimaa", sum := "2828d88cd8c2a054cc7d8f6ae38bdcb422cc9c5154cc10c6551aec96b22a4e3c", func := "loop.example/g00971/laws.FnExactWorldNew", spec := "fnExactWorldNew", apart := false, narrowed := true }
def FnExactWorldNewUptoSaid : Prop := fnExactWorldNewUptoRow.holds Try.pinned (OpenSpec.upto fnExactWorldNewSpec)

/-- 'laws.FnExactFrameRange', WHERE WHAT IT READS IS OF BULK AT MOST 1048576: true; the input reads as it did. -/
def fnExactFrameRangeUptoRow : OpenClaim := { program := "ythpamcbipmkimaa", sum := "2828d88cd8c2a054cc7d8f6ae38bdcb422cc9c5154cc10c6551aec96b22a4e3c", func := "loop.example/g00971/laws.FnExactFrameRange", spec := "fnExactFrameRange", apart := false, narrowed := true }
def FnExactFrameRangeUptoSaid : Prop := fnExactFrameRangeUptoRow.holds Try.pinned (OpenSpec.upto fnExactFrameRangeSpec)

/-- 'laws.FnExactSizesHit', WHERE WHAT IT READS IS OF BULK AT MOST 1048576: true; the input reads as it did. -/
def fnExactSizesHitUptoRow : OpenClaim := { program := "ythpamcbipmkimaa", sum := "2828d88cd8c2a054cc7d8f6ae38bdcb422cc9c5154cc10c6551aec96b22a4e3c", func := "loop.example/g00971/laws.FnExactSizesHit", spec := "fnExactSizesHit", apart := false, narrowed := true }
def FnExactSizesHitUptoSaid : Prop := fnExactSizesHitUptoRow.holds Try.pinned (OpenSpec.upto fnExactSizesHitSpec)

/-- 'laws.FnExactFirstHit', WHERE WHAT IT READS IS OF BULK AT MOST 1048576: true; the input reads as it did. -/
def fnExactFirstHitUptoRow : OpenClaim := { program := "ythpamcbipmkimaa", sum := "2828d88cd8c2a054cc7d8f6ae38bdcb422cc9c5154cc10c6551aec96b22a4e3c", func := "loop.example/g00971/laws.FnExactFirstHit", spec := "fnExactFirstHit", apart := false, narrowed := true }
def FnExactFirstHitUptoSaid : Prop := fnExactFirstHitUptoRow.holds Try.pinned (OpenSpec.upto fnExactFirstHitSpec)

/-- 'laws.FnHeadsHit', WHERE WHAT IT READS IS OF BULK AT MOST 1048576: true; the input reads as it did. -/
def fnHeadsHitUptoRow : OpenClaim := { program := "ythpamcbipmkimaa", sum := "2828d88cd8c2a054cc7d8f6ae38bdcb422cc9c5154cc10c6551aec96b22a4e3c", func := "loop.example/g00971/laws.FnHeadsHit", spec := "fnHeadsHit", apart := false, narrowed := true }
def FnHeadsHitUptoSaid : Prop := fnHeadsHitUptoRow.holds Try.pinned (OpenSpec.upto fnHeadsHitSpec)

/-- 'laws.FnHits', WHERE WHAT IT READS IS OF BULK AT MOST 1048576: true; the input reads as it did. -/
def fnHitsUptoRow : OpenClaim := { program := "ythpamcbipmkimaa", sum := "2828d88cd8c2a054cc7d8f6ae38bdcb422cc9c5154cc10c6551aec96b22a4e3c", func := "loop.example/g00971/laws.FnHits", spec := "fnHits", apart := false, narrowed := true }
def FnHitsUptoSaid : Prop := fnHitsUptoRow.holds Try.pinned (OpenSpec.upto fnHitsSpec)

/-- 'laws.FnBurstsOld', WHERE WHAT IT READS IS OF BULK AT MOST 1048576: true; the input reads as it did. -/
def fnBurstsOldUptoRow : OpenClaim := { program := "ythpamcbipmkimaa", sum := "2828d88cd8c2a054cc7d8f6ae38bdcb422cc9c5154cc10c6551aec96b22a4e3c", func := "loop.example/g00971/laws.FnBurstsOld", spec := "fnBurstsOld", apart := false, narrowed := true }
def FnBurstsOldUptoSaid : Prop := fnBurstsOldUptoRow.holds Try.pinned (OpenSpec.upto fnBurstsOldSpec)

end Rows
end Go.Proofs.Ythpamcbipmkimaa
