/-
  DERIVED. GIVEN WITH THE SEED: THE CARDS: each row of YtigodjkegcibhaaGreatDoorRows.lean that lists a variable, with what it lists TIED to the program's text (the seventh form; the later family's looks); each row that meets fmt, with fmt's text TOLD by the authors' own Lean function (tested against real Go, not proved from fmt's source: count such statements apart). THE CARD IS WHAT COUNTS. Prove the row's statement (the work); the ties are given (YtigodjkegcibhaaGreatDoorTie.lean); close each card by the builder's one call (the guide's Derived/Test/ToyasCard.lean, 'card_holds'). Laid BY PROGRAM, IN A SANDBOX (cutbox-door.mjs). By AI agents, Wed Nov 11 2026. No macro, syntax, notation, axiom, sorry.
-/
import Derived.Test.YtigodjkegcibhaaGreatDoorRows
import GoSem.ClaimSeven
namespace Go.Proofs.YtigodjkegcibhaaGreatDoor
namespace Rows

/-- THE TIED CARD OF 'laws.FnExactWithText'. -/
def fnExactWithTextCard : Claim7 := { stood := { row := fnExactWithTextRow, standIns := [], harness := (true, "882a1206f48314e83976b0869110fddf607d7612814dc75a293cc05fba0c16c5"), looks := true }, kinds := [], alts := [], laidByText := true, laidKinds := [.data, .data, .data, .sentinel, .sentinel], laidTests := true, laidLooks := .later }
def FnExactWithTextCardSaid : Prop := Claim7.holds Tryz.pinned (.plain (OpenSpec.ofChange fnExactWithTextSpec)) fnExactWithTextCard

/-- THE TIED CARD OF 'laws.FnExactRunOp'. -/
def fnExactRunOpCard : Claim7 := { stood := { row := fnExactRunOpRow, standIns := [], harness := (true, "882a1206f48314e83976b0869110fddf607d7612814dc75a293cc05fba0c16c5"), looks := true }, kinds := [], alts := [], laidByText := true, laidKinds := [.data, .data, .data, .sentinel, .sentinel], laidTests := true, laidLooks := .later }
def FnExactRunOpCardSaid : Prop := Claim7.holds Tryz.pinned (.plain (OpenSpec.ofChange fnExactRunOpSpec)) fnExactRunOpCard

/-- THE TIED CARD OF 'laws.FnExactRunOps'. -/
def fnExactRunOpsCard : Claim7 := { stood := { row := fnExactRunOpsRow, standIns := [], harness := (true, "882a1206f48314e83976b0869110fddf607d7612814dc75a293cc05fba0c16c5"), looks := true }, kinds := [], alts := [], laidByText := true, laidKinds := [.data, .data, .data, .sentinel, .sentinel], laidTests := true, laidLooks := .later }
def FnExactRunOpsCardSaid : Prop := Claim7.holds Tryz.pinned (.plain (OpenSpec.ofChange fnExactRunOpsSpec)) fnExactRunOpsCard

/-- THE TIED CARD OF 'laws.FnExactDamagedRow'. -/
def fnExactDamagedRowCard : Claim7 := { stood := { row := fnExactDamagedRowRow, standIns := [], harness := (true, "882a1206f48314e83976b0869110fddf607d7612814dc75a293cc05fba0c16c5"), looks := true }, kinds := [], alts := [], laidByText := true, laidKinds := [.data, .data, .data, .sentinel, .sentinel], laidTests := true, laidLooks := .later }
def FnExactDamagedRowCardSaid : Prop := Claim7.holds Tryz.pinned (.plain (OpenSpec.ofChange fnExactDamagedRowSpec)) fnExactDamagedRowCard

/-- THE SECOND FORM's CARD OF 'laws.FnExactWithText'. -/
def fnExactWithTextUptoCard : Claim7 := { stood := { row := fnExactWithTextUptoRow, standIns := [], harness := (true, "882a1206f48314e83976b0869110fddf607d7612814dc75a293cc05fba0c16c5"), looks := true }, kinds := [], alts := [], laidByText := true, laidKinds := [.data, .data, .data, .sentinel, .sentinel], laidTests := true, laidLooks := .later }
def FnExactWithTextUptoCardSaid : Prop := Claim7.holds Tryz.pinned (.plain (OpenSpec.upto fnExactWithTextSpec)) fnExactWithTextUptoCard

/-- THE SECOND FORM's CARD OF 'laws.FnExactRunOp'. -/
def fnExactRunOpUptoCard : Claim7 := { stood := { row := fnExactRunOpUptoRow, standIns := [], harness := (true, "882a1206f48314e83976b0869110fddf607d7612814dc75a293cc05fba0c16c5"), looks := true }, kinds := [], alts := [], laidByText := true, laidKinds := [.data, .data, .data, .sentinel, .sentinel], laidTests := true, laidLooks := .later }
def FnExactRunOpUptoCardSaid : Prop := Claim7.holds Tryz.pinned (.plain (OpenSpec.upto fnExactRunOpSpec)) fnExactRunOpUptoCard

/-- THE SECOND FORM's CARD OF 'laws.FnExactRunOps'. -/
def fnExactRunOpsUptoCard : Claim7 := { stood := { row := fnExactRunOpsUptoRow, standIns := [], harness := (true, "882a1206f48314e83976b0869110fddf607d7612814dc75a293cc05fba0c16c5"), looks := true }, kinds := [], alts := [], laidByText := true, laidKinds := [.data, .data, .data, .sentinel, .sentinel], laidTests := true, laidLooks := .later }
def FnExactRunOpsUptoCardSaid : Prop := Claim7.holds Tryz.pinned (.plain (OpenSpec.upto fnExactRunOpsSpec)) fnExactRunOpsUptoCard

/-- THE SECOND FORM's CARD OF 'laws.FnExactDamagedRow'. -/
def fnExactDamagedRowUptoCard : Claim7 := { stood := { row := fnExactDamagedRowUptoRow, standIns := [], harness := (true, "882a1206f48314e83976b0869110fddf607d7612814dc75a293cc05fba0c16c5"), looks := true }, kinds := [], alts := [], laidByText := true, laidKinds := [.data, .data, .data, .sentinel, .sentinel], laidTests := true, laidLooks := .later }
def FnExactDamagedRowUptoCardSaid : Prop := Claim7.holds Tryz.pinned (.plain (OpenSpec.upto fnExactDamagedRowSpec)) fnExactDamagedRowUptoCard
end Rows
end Go.Proofs.YtigodjkegcibhaaGreatDoor
