/-
  No cell of these rows narrows 'for every input' (looked for: loops, veiled, ifaces, maps, wideKeys, modest, calm, conditions, laid).
  DERIVED. THE GIVEN ROWS OF THIS SEAT. 7 by the template 'for every input the law returns true; each argument reads behind the call as it read before'; 0 by the template 'total and deterministic' (their statements: YthpcgbnochcbcaaTotals.lean).
  GIVEN WITH THE SEED: the statements are not yours to turn. If you find one false, say at which input.
  Laid BY PROGRAM, IN A SANDBOX (cutbox-rows.mjs): the forced cells as the released guide's own fill.sh prints them over the translation b4af0576571b45e5… (all of the seat's roots in one cut). By AI agents, Wed Nov 11 2026. No macro, syntax, notation, axiom, sorry.
-/
import Derived.Test.YthpcgbnochcbcaaChecked
import GoSem.Claim
import GoSem.ClaimJoined
import GoSem.ClaimMapViews
import Derived.JoinedTies
import Derived.KernelRfl
namespace Go.Proofs.Ythpcgbnochcbcaa
/- THE CELL 'sum', in the pinned program and in every row, IS THE sha256 OF THE DUMP (.gsa) THAT YthpcgbnochcbcaaProg.lean LOADS. Nothing in Lean hashes anything: it is a label: what it is worth is what the hold of that sum in a sandbox is worth. -/
noncomputable def Try.pinned : Pinned := { name := "ythpcgbnochcbcaa", sum := "b4af0576571b45e53f1be0d485ac456533b79cfa6f62d17f3e2177fe623f851b", checked := Try.checked }
namespace Rows
def none {H : Type} : Left H := { results := [], args := [] }

/-- 'laws.FnCuts': WHATEVER THE INPUT: true; the input reads as it did. -/
def fnCutsSpec : ChangeSpec := { name := "fnCuts", fn := fun _ => fun
  | [d] => { results := [.lit (.bool true)], args := [d] }
  | _ => none }
def fnCutsRow : OpenClaim := { program := "ythpcgbnochcbcaa", sum := "b4af0576571b45e53f1be0d485ac456533b79cfa6f62d17f3e2177fe623f851b", func := "loop.example/g00971/laws.FnCuts", spec := "fnCuts", unfollowed := true, recurses := true, apart := false }
def FnCutsSaid : Prop := fnCutsRow.holds Try.pinned (OpenSpec.ofChange fnCutsSpec)

/-- ITS FALSE NEIGHBOUR: 'it returns false'. Refute it at one input. -/
def fnCutsWrong : ChangeSpec := { name := "fnCuts", fn := fun _ => fun
  | [d] => { results := [.lit (.bool false)], args := [d] }
  | _ => none }
def FnCutsWrongFalsely : Prop := fnCutsRow.holds Try.pinned (OpenSpec.ofChange fnCutsWrong)

/-- 'laws.FnExactCut': WHATEVER THE INPUT: true; the input reads as it did. -/
def fnExactCutSpec : ChangeSpec := { name := "fnExactCut", fn := fun _ => fun
  | [d1, d2] => { results := [.lit (.bool true)], args := [d1, d2] }
  | _ => none }
def fnExactCutRow : OpenClaim := { program := "ythpcgbnochcbcaa", sum := "b4af0576571b45e53f1be0d485ac456533b79cfa6f62d17f3e2177fe623f851b", func := "loop.example/g00971/laws.FnExactCut", spec := "fnExactCut", unfollowed := true, recurses := true, apart := false }
def FnExactCutSaid : Prop := fnExactCutRow.holds Try.pinned (OpenSpec.ofChange fnExactCutSpec)

/-- ITS FALSE NEIGHBOUR: 'it returns false'. Refute it at one input. -/
def fnExactCutWrong : ChangeSpec := { name := "fnExactCut", fn := fun _ => fun
  | [d1, d2] => { results := [.lit (.bool false)], args := [d1, d2] }
  | _ => none }
def FnExactCutWrongFalsely : Prop := fnExactCutRow.holds Try.pinned (OpenSpec.ofChange fnExactCutWrong)

/-- 'laws.FnFrameBursts': WHATEVER THE INPUT: true; the input reads as it did. -/
def fnFrameBurstsSpec : ChangeSpec := { name := "fnFrameBursts", fn := fun _ => fun
  | [d] => { results := [.lit (.bool true)], args := [d] }
  | _ => none }
def fnFrameBurstsRow : OpenClaim := { program := "ythpcgbnochcbcaa", sum := "b4af0576571b45e53f1be0d485ac456533b79cfa6f62d17f3e2177fe623f851b", func := "loop.example/g00971/laws.FnFrameBursts", spec := "fnFrameBursts", apart := false }
def FnFrameBurstsSaid : Prop := fnFrameBurstsRow.holds Try.pinned (OpenSpec.ofChange fnFrameBurstsSpec)

/-- ITS FALSE NEIGHBOUR: 'it returns false'. Refute it at one input. -/
def fnFrameBurstsWrong : ChangeSpec := { name := "fnFrameBursts", fn := fun _ => fun
  | [d] => { results := [.lit (.bool false)], args := [d] }
  | _ => none }
def FnFrameBurstsWrongFalsely : Prop := fnFrameBurstsRow.holds Try.pinned (OpenSpec.ofChange fnFrameBurstsWrong)

/-- 'laws.FnHeads': WHATEVER THE INPUT: true; the input reads as it did. -/
def fnHeadsSpec : ChangeSpec := { name := "fnHeads", fn := fun _ => fun
  | [d] => { results := [.lit (.bool true)], args := [d] }
  | _ => none }
def fnHeadsRow : OpenClaim := { program := "ythpcgbnochcbcaa", sum := "b4af0576571b45e53f1be0d485ac456533b79cfa6f62d17f3e2177fe623f851b", func := "loop.example/g00971/laws.FnHeads", spec := "fnHeads", apart := false }
def FnHeadsSaid : Prop := fnHeadsRow.holds Try.pinned (OpenSpec.ofChange fnHeadsSpec)

/-- ITS FALSE NEIGHBOUR: 'it returns false'. Refute it at one input. -/
def fnHeadsWrong : ChangeSpec := { name := "fnHeads", fn := fun _ => fun
  | [d] => { results := [.lit (.bool false)], args := [d] }
  | _ => none }
def FnHeadsWrongFalsely : Prop := fnHeadsRow.holds Try.pinned (OpenSpec.ofChange fnHeadsWrong)

/-- 'laws.FnHeadsHit': WHATEVER THE INPUT: true; the input reads as it did. -/
def fnHeadsHitSpec : ChangeSpec := { name := "fnHeadsHit", fn := fun _ => fun
  | [d] => { results := [.lit (.bool true)], args := [d] }
  | _ => none }
def fnHeadsHitRow : OpenClaim := { program := "ythpcgbnochcbcaa", sum := "b4af0576571b45e53f1be0d485ac456533b79cfa6f62d17f3e2177fe623f851b", func := "loop.example/g00971/laws.FnHeadsHit", spec := "fnHeadsHit", apart := false }
def FnHeadsHitSaid : Prop := fnHeadsHitRow.holds Try.pinned (OpenSpec.ofChange fnHeadsHitSpec)

/-- ITS FALSE NEIGHBOUR: 'it returns false'. Refute it at one input. -/
def fnHeadsHitWrong : ChangeSpec := { name := "fnHeadsHit", fn := fun _ => fun
  | [d] => { results := [.lit (.bool false)], args := [d] }
  | _ => none }
def FnHeadsHitWrongFalsely : Prop := fnHeadsHitRow.holds Try.pinned (OpenSpec.ofChange fnHeadsHitWrong)

/-- 'laws.FnHits': WHATEVER THE INPUT: true; the input reads as it did. -/
def fnHitsSpec : ChangeSpec := { name := "fnHits", fn := fun _ => fun
  | [d] => { results := [.lit (.bool true)], args := [d] }
  | _ => none }
def fnHitsRow : OpenClaim := { program := "ythpcgbnochcbcaa", sum := "b4af0576571b45e53f1be0d485ac456533b79cfa6f62d17f3e2177fe623f851b", func := "loop.example/g00971/laws.FnHits", spec := "fnHits", apart := false }
def FnHitsSaid : Prop := fnHitsRow.holds Try.pinned (OpenSpec.ofChange fnHitsSpec)

/-- ITS FALSE NEIGHBOUR: 'it returns false'. Refute it at one input. -/
def fnHitsWrong : ChangeSpec := { name := "fnHits", fn := fun _ => fun
  | [d] => { results := [.lit (.bool false)], args := [d] }
  | _ => none }
def FnHitsWrongFalsely : Prop := fnHitsRow.holds Try.pinned (OpenSpec.ofChange fnHitsWrong)

/-- 'laws.FnBurstsOld': WHATEVER THE INPUT: true; the input reads as it did. -/
def fnBurstsOldSpec : ChangeSpec := { name := "fnBurstsOld", fn := fun _ => fun
  | [d] => { results := [.lit (.bool true)], args := [d] }
  | _ => none }
def fnBurstsOldRow : OpenClaim := { program := "ythpcgbnochcbcaa", sum := "b4af0576571b45e53f1be0d485ac456533b79cfa6f62d17f3e2177fe623f851b", func := "loop.example/g00971/laws.FnBurstsOld", spec := "fnBurstsOld", apart := false }
def FnBurstsOldSaid : Prop := fnBurstsOldRow.holds Try.pinned (OpenSpec.ofChange fnBurstsOldSpec)

/-- ITS FALSE NEIGHBOUR: 'it returns false'. Refute it at one input. -/
def fnBurstsOldWrong : ChangeSpec := { name := "fnBurstsOld", fn := fun _ => fun
  | [d] => { results := [.lit (.bool false)], args := [d] }
  | _ => none }
def FnBurstsOldWrongFalsely : Prop := fnBurstsOldRow.holds Try.pinned (OpenSpec.ofChange fnBurstsOldWrong)

/- THE SECOND FORM. 'bulk': how many values and letters a reading holds, each counted each time it is reached (what is shared counts as often as it is met; a slice's spare places count too). A statement '..UptoSaid' is the law's where the arguments, and the package variables that the reading takes, are together of bulk at most 1048576: NARROWER than '..Said'. Prove '..Said' where nothing that the law and all that it calls make is longer than what came in: it says more and counts as full. Else prove '..UptoSaid'. A law counts once. -/
mutual
def uptoBulk {H : Type} : DataW H → Nat
  | .lit (.string bytes) => bytes.length + 1
  | .lit _ => 1
  | .nil => 1
  | .ptr d => uptoBulk d + 1
  | .slice elems spare => uptoBulkAll elems + uptoBulkAll spare + 1
  | .agg parts => uptoBulkAll parts + 1
  | .iface _ d => uptoBulk d + 1
  | .map entries => uptoBulkEntries entries + 1
  | .held _ => 1
def uptoBulkAll {H : Type} : List (DataW H) → Nat
  | [] => 0
  | d :: r => uptoBulk d + uptoBulkAll r
def uptoBulkEntries {H : Type} : List (Lit × DataW H) → Nat
  | [] => 0
  | x :: r => uptoBulkEntry x + uptoBulkEntries r
def uptoBulkEntry {H : Type} : Lit × DataW H → Nat
  | (.string bytes, d) => bytes.length + uptoBulk d + 1
  | (_, d) => uptoBulk d + 1
 end
def uptoSmall : (H : Type) → List (DataW H) → Bool := fun _ ds => decide (uptoBulkAll ds ≤ 1048576)
def OpenSpec.upto (s : _root_.Go.ChangeSpec) : _root_.Go.OpenSpec := { _root_.Go.OpenSpec.ofChange s with cond := some uptoSmall }

/-- 'laws.FnCuts', WHERE WHAT IT READS IS OF BULK AT MOST 1048576: true; the input reads as it did. -/
def fnCutsUptoRow : OpenClaim := { program := "ythpcgbnochcbcaa", sum := "b4af0576571b45e53f1be0d485ac456533b79cfa6f62d17f3e2177fe623f851b", func := "loop.example/g00971/laws.FnCuts", spec := "fnCuts", unfollowed := true, recurses := true, apart := false, narrowed := true }
def FnCutsUptoSaid : Prop := fnCutsUptoRow.holds Try.pinned (OpenSpec.upto fnCutsSpec)

/-- 'laws.FnExactCut', WHERE WHAT IT READS IS OF BULK AT MOST 1048576: true; the input reads as it did. -/
def fnExactCutUptoRow : OpenClaim := { program := "ythpcgbnochcbcaa", sum := "b4af0576571b45e53f1be0d485ac456533b79cfa6f62d17f3e2177fe623f851b", func := "loop.example/g00971/laws.FnExactCut", spec := "fnExactCut", unfollowed := true, recurses := true, apart := false, narrowed := true }
def FnExactCutUptoSaid : Prop := fnExactCutUptoRow.holds Try.pinned (OpenSpec.upto fnExactCutSpec)

/-- 'laws.FnFrameBursts', WHERE WHAT IT READS IS OF BULK AT MOST 1048576: true; the input reads as it did. -/
def fnFrameBurstsUptoRow : OpenClaim := { program := "ythpcgbnochcbcaa", sum := "b4af0576571b45e53f1be0d485ac456533b79cfa6f62d17f3e2177fe623f851b", func := "loop.example/g00971/laws.FnFrameBursts", spec := "fnFrameBursts", apart := false, narrowed := true }
def FnFrameBurstsUptoSaid : Prop := fnFrameBurstsUptoRow.holds Try.pinned (OpenSpec.upto fnFrameBurstsSpec)

/-- 'laws.FnHeads', WHERE WHAT IT READS IS OF BULK AT MOST 1048576: true; the input reads as it did. -/
def fnHeadsUptoRow : OpenClaim := { program := "ythpcgbnochcbcaa", sum := "b4af0576571b45e53f1be0d485ac456533b79cfa6f62d17f3e2177fe623f851b", func := "loop.example/g00971/laws.FnHeads", spec := "fnHeads", apart := false, narrowed := true }
def FnHeadsUptoSaid : Prop := fnHeadsUptoRow.holds Try.pinned (OpenSpec.upto fnHeadsSpec)

/-- 'laws.FnHeadsHit', WHERE WHAT IT READS IS OF BULK AT MOST 1048576: true; the input reads as it did. -/
def fnHeadsHitUptoRow : OpenClaim := { program := "ythpcgbnochcbcaa", sum := "b4af0576571b45e53f1be0d485ac456533b79cfa6f62d17f3e2177fe623f851b", func := "loop.example/g00971/laws.FnHeadsHit", spec := "fnHeadsHit", apart := false, narrowed := true }
def FnHeadsHitUptoSaid : Prop := fnHeadsHitUptoRow.holds Try.pinned (OpenSpec.upto fnHeadsHitSpec)

/-- 'laws.FnHits', WHERE WHAT IT READS IS OF BULK AT MOST 1048576: true; the input reads as it did. -/
def fnHitsUptoRow : OpenClaim := { program := "ythpcgbnochcbcaa", sum := "b4af0576571b45e53f1be0d485ac456533b79cfa6f62d17f3e2177fe623f851b", func := "loop.example/g00971/laws.FnHits", spec := "fnHits", apart := false, narrowed := true }
def FnHitsUptoSaid : Prop := fnHitsUptoRow.holds Try.pinned (OpenSpec.upto fnHitsSpec)

/-- 'laws.FnBurstsOld', WHERE WHAT IT READS IS OF BULK AT MOST 1048576: true; the input reads as it did. -/
def fnBurstsOldUptoRow : OpenClaim := { program := "ythpcgbnochcbcaa", sum := "b4af0576571b45e53f1be0d485ac456533b79cfa6f62d17f3e2177fe623f851b", func := "loop.example/g00971/laws.FnBurstsOld", spec := "fnBurstsOld", apart := false, narrowed := true }
def FnBurstsOldUptoSaid : Prop := fnBurstsOldUptoRow.holds Try.pinned (OpenSpec.upto fnBurstsOldSpec)

end Rows
end Go.Proofs.Ythpcgbnochcbcaa
