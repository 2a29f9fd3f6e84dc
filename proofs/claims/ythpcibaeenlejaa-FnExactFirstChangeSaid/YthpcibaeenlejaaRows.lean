/-
  No cell of these rows narrows 'for every input' (looked for: loops, veiled, ifaces, maps, wideKeys, modest, calm, conditions, laid).
  DERIVED. THE GIVEN ROWS OF THIS SEAT. 6 by the template 'for every input the law returns true; each argument reads behind the call as it read before'; 0 by the template 'total and deterministic' (their statements: YthpcibaeenlejaaTotals.lean).
  GIVEN WITH THE SEED: the statements are not yours to turn. If you find one false, say at which input.
  Laid BY PROGRAM, IN A SANDBOX (cutbox-rows.mjs): the forced cells as the released guide's own fill.sh prints them over the translation 96da45959aba214a… (all of the seat's roots in one cut). By AI agents, Wed Nov 11 2026. No macro, syntax, notation, axiom, sorry.
-/
import Derived.Test.YthpcibaeenlejaaChecked
import GoSem.Claim
import GoSem.ClaimJoined
import GoSem.ClaimMapViews
import Derived.JoinedTies
import Derived.KernelRfl
namespace Go.Proofs.Ythpcibaeenlejaa
/- THE CELL 'sum', in the pinned program and in every row, IS THE sha256 OF THE DUMP (.gsa) THAT YthpcibaeenlejaaProg.lean LOADS. Nothing in Lean hashes anything: it is a label: what it is worth is what the hold of that sum in a sandbox is worth. -/
noncomputable def Try.pinned : Pinned := { name := "ythpcibaeenlejaa", sum := "96da45959aba214ade14e9d5c1ed32b4e89ae0a3640ccfae9d438703dccfb18c", checked := Try.checked }
namespace Rows
def none {H : Type} : Left H := { results := [], args := [] }

/-- 'laws.FnExactFilesNeeded': WHATEVER THE INPUT: true; the input reads as it did. -/
def fnExactFilesNeededSpec : ChangeSpec := { name := "fnExactFilesNeeded", fn := fun _ => fun
  | [d1, d2] => { results := [.lit (.bool true)], args := [d1, d2] }
  | _ => none }
def fnExactFilesNeededRow : OpenClaim := { program := "ythpcibaeenlejaa", sum := "96da45959aba214ade14e9d5c1ed32b4e89ae0a3640ccfae9d438703dccfb18c", func := "loop.example/g00971/laws.FnExactFilesNeeded", spec := "fnExactFilesNeeded", apart := false }
def FnExactFilesNeededSaid : Prop := fnExactFilesNeededRow.holds Try.pinned (OpenSpec.ofChange fnExactFilesNeededSpec)

/-- ITS FALSE NEIGHBOUR: 'it returns false'. Refute it at one input. -/
def fnExactFilesNeededWrong : ChangeSpec := { name := "fnExactFilesNeeded", fn := fun _ => fun
  | [d1, d2] => { results := [.lit (.bool false)], args := [d1, d2] }
  | _ => none }
def FnExactFilesNeededWrongFalsely : Prop := fnExactFilesNeededRow.holds Try.pinned (OpenSpec.ofChange fnExactFilesNeededWrong)

/-- 'laws.FnExactCutText': WHATEVER THE INPUT: true; the input reads as it did. -/
def fnExactCutTextSpec : ChangeSpec := { name := "fnExactCutText", fn := fun _ => fun
  | [d1, d2] => { results := [.lit (.bool true)], args := [d1, d2] }
  | _ => none }
def fnExactCutTextRow : OpenClaim := { program := "ythpcibaeenlejaa", sum := "96da45959aba214ade14e9d5c1ed32b4e89ae0a3640ccfae9d438703dccfb18c", func := "loop.example/g00971/laws.FnExactCutText", spec := "fnExactCutText", apart := false }
def FnExactCutTextSaid : Prop := fnExactCutTextRow.holds Try.pinned (OpenSpec.ofChange fnExactCutTextSpec)

/-- ITS FALSE NEIGHBOUR: 'it returns false'. Refute it at one input. -/
def fnExactCutTextWrong : ChangeSpec := { name := "fnExactCutText", fn := fun _ => fun
  | [d1, d2] => { results := [.lit (.bool false)], args := [d1, d2] }
  | _ => none }
def FnExactCutTextWrongFalsely : Prop := fnExactCutTextRow.holds Try.pinned (OpenSpec.ofChange fnExactCutTextWrong)

/-- 'laws.FnExactTurnBits': WHATEVER THE INPUT: true; the input reads as it did. -/
def fnExactTurnBitsSpec : ChangeSpec := { name := "fnExactTurnBits", fn := fun _ => fun
  | [d1, d2, d3] => { results := [.lit (.bool true)], args := [d1, d2, d3] }
  | _ => none }
def fnExactTurnBitsRow : OpenClaim := { program := "ythpcibaeenlejaa", sum := "96da45959aba214ade14e9d5c1ed32b4e89ae0a3640ccfae9d438703dccfb18c", func := "loop.example/g00971/laws.FnExactTurnBits", spec := "fnExactTurnBits", apart := false }
def FnExactTurnBitsSaid : Prop := fnExactTurnBitsRow.holds Try.pinned (OpenSpec.ofChange fnExactTurnBitsSpec)

/-- ITS FALSE NEIGHBOUR: 'it returns false'. Refute it at one input. -/
def fnExactTurnBitsWrong : ChangeSpec := { name := "fnExactTurnBits", fn := fun _ => fun
  | [d1, d2, d3] => { results := [.lit (.bool false)], args := [d1, d2, d3] }
  | _ => none }
def FnExactTurnBitsWrongFalsely : Prop := fnExactTurnBitsRow.holds Try.pinned (OpenSpec.ofChange fnExactTurnBitsWrong)

/-- 'laws.FnExactBitsChanged': WHATEVER THE INPUT: true; the input reads as it did. -/
def fnExactBitsChangedSpec : ChangeSpec := { name := "fnExactBitsChanged", fn := fun _ => fun
  | [d1, d2] => { results := [.lit (.bool true)], args := [d1, d2] }
  | _ => none }
def fnExactBitsChangedRow : OpenClaim := { program := "ythpcibaeenlejaa", sum := "96da45959aba214ade14e9d5c1ed32b4e89ae0a3640ccfae9d438703dccfb18c", func := "loop.example/g00971/laws.FnExactBitsChanged", spec := "fnExactBitsChanged", apart := false }
def FnExactBitsChangedSaid : Prop := fnExactBitsChangedRow.holds Try.pinned (OpenSpec.ofChange fnExactBitsChangedSpec)

/-- ITS FALSE NEIGHBOUR: 'it returns false'. Refute it at one input. -/
def fnExactBitsChangedWrong : ChangeSpec := { name := "fnExactBitsChanged", fn := fun _ => fun
  | [d1, d2] => { results := [.lit (.bool false)], args := [d1, d2] }
  | _ => none }
def FnExactBitsChangedWrongFalsely : Prop := fnExactBitsChangedRow.holds Try.pinned (OpenSpec.ofChange fnExactBitsChangedWrong)

/-- 'laws.FnExactChangeEnd': WHATEVER THE INPUT: true; the input reads as it did. -/
def fnExactChangeEndSpec : ChangeSpec := { name := "fnExactChangeEnd", fn := fun _ => fun
  | [d1, d2] => { results := [.lit (.bool true)], args := [d1, d2] }
  | _ => none }
def fnExactChangeEndRow : OpenClaim := { program := "ythpcibaeenlejaa", sum := "96da45959aba214ade14e9d5c1ed32b4e89ae0a3640ccfae9d438703dccfb18c", func := "loop.example/g00971/laws.FnExactChangeEnd", spec := "fnExactChangeEnd", apart := false }
def FnExactChangeEndSaid : Prop := fnExactChangeEndRow.holds Try.pinned (OpenSpec.ofChange fnExactChangeEndSpec)

/-- ITS FALSE NEIGHBOUR: 'it returns false'. Refute it at one input. -/
def fnExactChangeEndWrong : ChangeSpec := { name := "fnExactChangeEnd", fn := fun _ => fun
  | [d1, d2] => { results := [.lit (.bool false)], args := [d1, d2] }
  | _ => none }
def FnExactChangeEndWrongFalsely : Prop := fnExactChangeEndRow.holds Try.pinned (OpenSpec.ofChange fnExactChangeEndWrong)

/-- 'laws.FnExactFirstChange': WHATEVER THE INPUT: true; the input reads as it did. -/
def fnExactFirstChangeSpec : ChangeSpec := { name := "fnExactFirstChange", fn := fun _ => fun
  | [d1, d2] => { results := [.lit (.bool true)], args := [d1, d2] }
  | _ => none }
def fnExactFirstChangeRow : OpenClaim := { program := "ythpcibaeenlejaa", sum := "96da45959aba214ade14e9d5c1ed32b4e89ae0a3640ccfae9d438703dccfb18c", func := "loop.example/g00971/laws.FnExactFirstChange", spec := "fnExactFirstChange", apart := false }
def FnExactFirstChangeSaid : Prop := fnExactFirstChangeRow.holds Try.pinned (OpenSpec.ofChange fnExactFirstChangeSpec)

/-- ITS FALSE NEIGHBOUR: 'it returns false'. Refute it at one input. -/
def fnExactFirstChangeWrong : ChangeSpec := { name := "fnExactFirstChange", fn := fun _ => fun
  | [d1, d2] => { results := [.lit (.bool false)], args := [d1, d2] }
  | _ => none }
def FnExactFirstChangeWrongFalsely : Prop := fnExactFirstChangeRow.holds Try.pinned (OpenSpec.ofChange fnExactFirstChangeWrong)

/- THE SECOND FORM. 'bulk': how many values and letters a reading holds, each counted each time it is reached (what is shared counts as often as it is met; a slice's spare places count too). A statement '..UptoSaid' is the law's where the arguments, and the package variables that the reading takes, are together of bulk at most 1048576: NARROWER than '..Said'. Prove '..Said' where nothing that the law and all that it calls make is longer than what came in: it says more and counts as full. Else prove '..UptoSaid'. A law counts once. -/
mutual
def uptoBulk {H : Type} : DataW H → Nat
  | .lit (.string bytes) => bytes.length + 1
  | .lit _ => 1
  | .nil => 1
  | .ptr d => uptoBulk d + 1
  | .slice elems spare => uptoBulkAll elems + uptoBulkAll spare + 1
  | .agg parts => uptoBulkAll parts + 1
  | .iface _ d => uptoBulk d + 1
  | .map entries => uptoBulkEntries entries + 1
  | .held _ => 1
def uptoBulkAll {H : Type} : List (DataW H) → Nat
  | [] => 0
  | d :: r => uptoBulk d + uptoBulkAll r
def uptoBulkEntries {H : Type} : List (Lit × DataW H) → Nat
  | [] => 0
  | x :: r => uptoBulkEntry x + uptoBulkEntries r
def uptoBulkEntry {H : Type} : Lit × DataW H → Nat
  | (.string bytes, d) => bytes.length + uptoBulk d + 1
  | (_, d) => uptoBulk d + 1
 end
def uptoSmall : (H : Type) → List (DataW H) → Bool := fun _ ds => decide (uptoBulkAll ds ≤ 1048576)
def OpenSpec.upto (s : _root_.Go.ChangeSpec) : _root_.Go.OpenSpec := { _root_.Go.OpenSpec.ofChange s with cond := some uptoSmall }

/-- 'laws.FnExactFilesNeeded', WHERE WHAT IT READS IS OF BULK AT MOST 1048576: true; the input reads as it did. -/
def fnExactFilesNeededUptoRow : OpenClaim := { program := "ythpcibaeenlejaa", sum := "96da45959aba214ade14e9d5c1ed32b4e89ae0a3640ccfae9d438703dccfb18c", func := "loop.example/g00971/laws.FnExactFilesNeeded", spec := "fnExactFilesNeeded", apart := false, narrowed := true }
def FnExactFilesNeededUptoSaid : Prop := fnExactFilesNeededUptoRow.holds Try.pinned (OpenSpec.upto fnExactFilesNeededSpec)

/-- 'laws.FnExactCutText', WHERE WHAT IT READS IS OF BULK AT MOST 1048576: true; the input reads as it did. -/
def fnExactCutTextUptoRow : OpenClaim := { program := "ythpcibaeenlejaa", sum := "96da45959aba214ade14e9d5c1ed32b4e89ae0a3640ccfae9d438703dccfb18c", func := "loop.example/g00971/laws.FnExactCutText", spec := "fnExactCutText", apart := false, narrowed := true }
def FnExactCutTextUptoSaid : Prop := fnExactCutTextUptoRow.holds Try.pinned (OpenSpec.upto fnExactCutTextSpec)

/-- 'laws.FnExactTurnBits', WHERE WHAT IT READS IS OF BULK AT MOST 1048576: true; the input reads as it did. -/
def fnExactTurnBitsUptoRow : OpenClaim := { program := "ythpcibaeenlejaa", sum := "96da45959aba214ade14e9d5c1ed32b4e89ae0a3640ccfae9d438703dccfb18c", func := "loop.example/g00971/laws.FnExactTurnBits", spec := "fnExactTurnBits", apart := false, narrowed := true }
def FnExactTurnBitsUptoSaid : Prop := fnExactTurnBitsUptoRow.holds Try.pinned (OpenSpec.upto fnExactTurnBitsSpec)

/-- 'laws.FnExactBitsChanged', WHERE WHAT IT READS IS OF BULK AT MOST 1048576: true; the input reads as it did. -/
def fnExactBitsChangedUptoRow : OpenClaim := { program := "ythpcibaeenlejaa", sum := "96da45959aba214ade14e9d5c1ed32b4e89ae0a3640ccfae9d438703dccfb18c", func := "loop.example/g00971/laws.FnExactBitsChanged", spec := "fnExactBitsChanged", apart := false, narrowed := true }
def FnExactBitsChangedUptoSaid : Prop := fnExactBitsChangedUptoRow.holds Try.pinned (OpenSpec.upto fnExactBitsChangedSpec)

/-- 'laws.FnExactChangeEnd', WHERE WHAT IT READS IS OF BULK AT MOST 1048576: true; the input reads as it did. -/
def fnExactChangeEndUptoRow : OpenClaim := { program := "ythpcibaeenlejaa", sum := "96da45959aba214ade14e9d5c1ed32b4e89ae0a3640ccfae9d438703dccfb18c", func := "loop.example/g00971/laws.FnExactChangeEnd", spec := "fnExactChangeEnd", apart := false, narrowed := true }
def FnExactChangeEndUptoSaid : Prop := fnExactChangeEndUptoRow.holds Try.pinned (OpenSpec.upto fnExactChangeEndSpec)

/-- 'laws.FnExactFirstChange', WHERE WHAT IT READS IS OF BULK AT MOST 1048576: true; the input reads as it did. -/
def fnExactFirstChangeUptoRow : OpenClaim := { program := "ythpcibaeenlejaa", sum := "96da45959aba214ade14e9d5c1ed32b4e89ae0a3640ccfae9d438703dccfb18c", func := "loop.example/g00971/laws.FnExactFirstChange", spec := "fnExactFirstChange", apart := false, narrowed := true }
def FnExactFirstChangeUptoSaid : Prop := fnExactFirstChangeUptoRow.holds Try.pinned (OpenSpec.upto fnExactFirstChangeSpec)

end Rows
end Go.Proofs.Ythpcibaeenlejaa
