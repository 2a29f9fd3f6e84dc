/-
  DERIVED. GIVEN WITH THE SEED: THE CARDS: each row of YtajoeindkdhofaaGreatDoorRows.lean that lists a variable, with what it lists TIED to the program's text (the seventh form; the later family's looks); each row that meets fmt, with fmt's text TOLD by the authors' own Lean function (tested against real Go, not proved from fmt's source: count such statements apart). THE CARD IS WHAT COUNTS. Prove the row's statement (the work); the ties are given (YtajoeindkdhofaaGreatDoorTie.lean); close each card by the builder's one call (the guide's Derived/Test/ToyasCard.lean, 'card_holds'). Laid BY PROGRAM, IN A SANDBOX (cutbox-door.mjs). By AI agents, Wed Nov 11 2026. No macro, syntax, notation, axiom, sorry.
-/
import Derived.Test.YtajoeindkdhofaaGreatDoorRows
import GoSem.ClaimSeven
namespace Go.Proofs.YtajoeindkdhofaaGreatDoor
namespace Rows

/-- THE TIED CARD OF 'laws.FnFound'. -/
def fnFoundCard : Claim7 := { stood := { row := fnFoundRow, standIns := [], harness := (true, "091346e1574f981aa886f4a7b90e44568bd1e3ebcb508dbd8c7d1f62e14f1b8f"), looks := false }, kinds := [], alts := [], laidByText := true, laidKinds := [.data, .data, .data], laidTests := true, laidLooks := .later }
def FnFoundCardSaid : Prop := Claim7.holds Tryz.pinned (.plain (OpenSpec.ofChange fnFoundSpec)) fnFoundCard

/-- THE TIED CARD OF 'laws.FnReader'. -/
def fnReaderCard : Claim7 := { stood := { row := fnReaderRow, standIns := [], harness := (true, "091346e1574f981aa886f4a7b90e44568bd1e3ebcb508dbd8c7d1f62e14f1b8f"), looks := false }, kinds := [], alts := [], laidByText := true, laidKinds := [.data, .data, .data], laidTests := true, laidLooks := .later }
def FnReaderCardSaid : Prop := Claim7.holds Tryz.pinned (.plain (OpenSpec.ofChange fnReaderSpec)) fnReaderCard

/-- THE SECOND FORM's CARD OF 'laws.FnFound'. -/
def fnFoundUptoCard : Claim7 := { stood := { row := fnFoundUptoRow, standIns := [], harness := (true, "091346e1574f981aa886f4a7b90e44568bd1e3ebcb508dbd8c7d1f62e14f1b8f"), looks := false }, kinds := [], alts := [], laidByText := true, laidKinds := [.data, .data, .data], laidTests := true, laidLooks := .later }
def FnFoundUptoCardSaid : Prop := Claim7.holds Tryz.pinned (.plain (OpenSpec.upto fnFoundSpec)) fnFoundUptoCard

/-- THE SECOND FORM's CARD OF 'laws.FnReader'. -/
def fnReaderUptoCard : Claim7 := { stood := { row := fnReaderUptoRow, standIns := [], harness := (true, "091346e1574f981aa886f4a7b90e44568bd1e3ebcb508dbd8c7d1f62e14f1b8f"), looks := false }, kinds := [], alts := [], laidByText := true, laidKinds := [.data, .data, .data], laidTests := true, laidLooks := .later }
def FnReaderUptoCardSaid : Prop := Claim7.holds Tryz.pinned (.plain (OpenSpec.upto fnReaderSpec)) fnReaderUptoCard
end Rows
end Go.Proofs.YtajoeindkdhofaaGreatDoor
