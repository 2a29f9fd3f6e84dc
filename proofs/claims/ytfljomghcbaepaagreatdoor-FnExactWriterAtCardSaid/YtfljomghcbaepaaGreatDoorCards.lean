/-
  DERIVED. GIVEN WITH THE SEED: THE CARDS: each row of YtfljomghcbaepaaGreatDoorRows.lean that lists a variable, with what it lists TIED to the program's text (the seventh form; the later family's looks); each row that meets fmt, with fmt's text TOLD by the authors' own Lean function (tested against real Go, not proved from fmt's source: count such statements apart). THE CARD IS WHAT COUNTS. Prove the row's statement (the work); the ties are given (YtfljomghcbaepaaGreatDoorTie.lean); close each card by the builder's one call (the guide's Derived/Test/ToyasCard.lean, 'card_holds'). Laid BY PROGRAM, IN A SANDBOX (cutbox-door.mjs). By AI agents, Wed Nov 11 2026. No macro, syntax, notation, axiom, sorry.
-/
import Derived.Test.YtfljomghcbaepaaGreatDoorRows
import GoSem.ClaimSeven
namespace Go.Proofs.YtfljomghcbaepaaGreatDoor
namespace Rows

/-- THE TIED CARD OF 'laws.FnExactOpsLeft'. -/
def fnExactOpsLeftCard : Claim7 := { stood := { row := fnExactOpsLeftRow, standIns := [], harness := (true, "33ca9973b8b7e65e64e4b5bdba2196695d72e0fd24e61f11deab73790820bae4"), looks := true }, kinds := [], alts := [], laidByText := true, laidKinds := [.data, .data, .data, .sentinel, .sentinel], laidTests := true, laidLooks := .later }
def FnExactOpsLeftCardSaid : Prop := Claim7.holds Tryz.pinned (.plain (OpenSpec.ofChange fnExactOpsLeftSpec)) fnExactOpsLeftCard

/-- THE TIED CARD OF 'laws.FnExactMendRoom'. -/
def fnExactMendRoomCard : Claim7 := { stood := { row := fnExactMendRoomRow, standIns := [], harness := (true, "33ca9973b8b7e65e64e4b5bdba2196695d72e0fd24e61f11deab73790820bae4"), looks := true }, kinds := [], alts := [], laidByText := true, laidKinds := [.data, .data, .data, .sentinel, .sentinel], laidTests := true, laidLooks := .later }
def FnExactMendRoomCardSaid : Prop := Claim7.holds Tryz.pinned (.plain (OpenSpec.ofChange fnExactMendRoomSpec)) fnExactMendRoomCard

/-- THE TIED CARD OF 'laws.FnExactWriterAt'. -/
def fnExactWriterAtCard : Claim7 := { stood := { row := fnExactWriterAtRow, standIns := [], harness := (true, "33ca9973b8b7e65e64e4b5bdba2196695d72e0fd24e61f11deab73790820bae4"), looks := true }, kinds := [], alts := [], laidByText := true, laidKinds := [.data, .data, .data, .sentinel, .sentinel], laidTests := true, laidLooks := .later }
def FnExactWriterAtCardSaid : Prop := Claim7.holds Tryz.pinned (.plain (OpenSpec.ofChange fnExactWriterAtSpec)) fnExactWriterAtCard

/-- THE TIED CARD OF 'laws.FnExactPlanOf'. -/
def fnExactPlanOfCard : Claim7 := { stood := { row := fnExactPlanOfRow, standIns := [], harness := (true, "33ca9973b8b7e65e64e4b5bdba2196695d72e0fd24e61f11deab73790820bae4"), looks := true }, kinds := [], alts := [], laidByText := true, laidKinds := [.data, .data, .data, .sentinel, .sentinel], laidTests := true, laidLooks := .later }
def FnExactPlanOfCardSaid : Prop := Claim7.holds Tryz.pinned (.plain (OpenSpec.ofChange fnExactPlanOfSpec)) fnExactPlanOfCard

/-- THE SECOND FORM's CARD OF 'laws.FnExactOpsLeft'. -/
def fnExactOpsLeftUptoCard : Claim7 := { stood := { row := fnExactOpsLeftUptoRow, standIns := [], harness := (true, "33ca9973b8b7e65e64e4b5bdba2196695d72e0fd24e61f11deab73790820bae4"), looks := true }, kinds := [], alts := [], laidByText := true, laidKinds := [.data, .data, .data, .sentinel, .sentinel], laidTests := true, laidLooks := .later }
def FnExactOpsLeftUptoCardSaid : Prop := Claim7.holds Tryz.pinned (.plain (OpenSpec.upto fnExactOpsLeftSpec)) fnExactOpsLeftUptoCard

/-- THE SECOND FORM's CARD OF 'laws.FnExactMendRoom'. -/
def fnExactMendRoomUptoCard : Claim7 := { stood := { row := fnExactMendRoomUptoRow, standIns := [], harness := (true, "33ca9973b8b7e65e64e4b5bdba2196695d72e0fd24e61f11deab73790820bae4"), looks := true }, kinds := [], alts := [], laidByText := true, laidKinds := [.data, .data, .data, .sentinel, .sentinel], laidTests := true, laidLooks := .later }
def FnExactMendRoomUptoCardSaid : Prop := Claim7.holds Tryz.pinned (.plain (OpenSpec.upto fnExactMendRoomSpec)) fnExactMendRoomUptoCard

/-- THE SECOND FORM's CARD OF 'laws.FnExactWriterAt'. -/
def fnExactWriterAtUptoCard : Claim7 := { stood := { row := fnExactWriterAtUptoRow, standIns := [], harness := (true, "33ca9973b8b7e65e64e4b5bdba2196695d72e0fd24e61f11deab73790820bae4"), looks := true }, kinds := [], alts := [], laidByText := true, laidKinds := [.data, .data, .data, .sentinel, .sentinel], laidTests := true, laidLooks := .later }
def FnExactWriterAtUptoCardSaid : Prop := Claim7.holds Tryz.pinned (.plain (OpenSpec.upto fnExactWriterAtSpec)) fnExactWriterAtUptoCard

/-- THE SECOND FORM's CARD OF 'laws.FnExactPlanOf'. -/
def fnExactPlanOfUptoCard : Claim7 := { stood := { row := fnExactPlanOfUptoRow, standIns := [], harness := (true, "33ca9973b8b7e65e64e4b5bdba2196695d72e0fd24e61f11deab73790820bae4"), looks := true }, kinds := [], alts := [], laidByText := true, laidKinds := [.data, .data, .data, .sentinel, .sentinel], laidTests := true, laidLooks := .later }
def FnExactPlanOfUptoCardSaid : Prop := Claim7.holds Tryz.pinned (.plain (OpenSpec.upto fnExactPlanOfSpec)) fnExactPlanOfUptoCard
end Rows
end Go.Proofs.YtfljomghcbaepaaGreatDoor
