/-
  DERIVED. GIVEN WITH THE SEED: THE CARDS: each row of YthpamcbipmkimaaDoorRows.lean that lists a variable, with what it lists TIED to the program's text (the seventh form; the later family's looks); each row that meets fmt, with fmt's text TOLD by the authors' own Lean function (tested against real Go, not proved from fmt's source: count such statements apart). THE CARD IS WHAT COUNTS. Prove the row's statement (the work); the ties are given (YthpamcbipmkimaaDoorTie.lean); close each card by the builder's one call (the guide's Derived/Test/ToyasCard.lean, 'card_holds'). Laid BY PROGRAM, IN A SANDBOX (cutbox-door.mjs). By AI agents, Wed Nov 11 2026. No macro, syntax, notation, axiom, sorry.
-/
import Derived.Test.YthpamcbipmkimaaDoorRows
import GoSem.ClaimSeven
namespace Go.Proofs.YthpamcbipmkimaaDoor
namespace Rows

/-- THE TIED CARD OF 'laws.FnExactFreshOps'. -/
def fnExactFreshOpsCard : Claim7 := { stood := { row := fnExactFreshOpsRow, standIns := [], harness := (true, "b5e5e48d6b7b7d6b328f998f06d5c4d3cd3a90654d0695fecca2b0e984e17d13"), looks := false }, kinds := [], alts := [], laidByText := true, laidKinds := [.data, .data, .data], laidTests := true, laidLooks := .later }
def FnExactFreshOpsCardSaid : Prop := Claim7.holds Tryd.pinned (.plain (OpenSpec.ofChange fnExactFreshOpsSpec)) fnExactFreshOpsCard

/-- THE SECOND FORM's CARD OF 'laws.FnExactFreshOps'. -/
def fnExactFreshOpsUptoCard : Claim7 := { stood := { row := fnExactFreshOpsUptoRow, standIns := [], harness := (true, "b5e5e48d6b7b7d6b328f998f06d5c4d3cd3a90654d0695fecca2b0e984e17d13"), looks := false }, kinds := [], alts := [], laidByText := true, laidKinds := [.data, .data, .data], laidTests := true, laidLooks := .later }
def FnExactFreshOpsUptoCardSaid : Prop := Claim7.holds Tryd.pinned (.plain (OpenSpec.upto fnExactFreshOpsSpec)) fnExactFreshOpsUptoCard
end Rows
end Go.Proofs.YthpamcbipmkimaaDoor
