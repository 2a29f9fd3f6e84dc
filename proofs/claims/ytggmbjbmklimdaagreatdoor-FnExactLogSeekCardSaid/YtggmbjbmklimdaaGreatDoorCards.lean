/-
  DERIVED. GIVEN WITH THE SEED: THE CARDS: each row of YtggmbjbmklimdaaGreatDoorRows.lean that lists a variable, with what it lists TIED to the program's text (the seventh form; the later family's looks); each row that meets fmt, with fmt's text TOLD by the authors' own Lean function (tested against real Go, not proved from fmt's source: count such statements apart). THE CARD IS WHAT COUNTS. Prove the row's statement (the work); the ties are given (YtggmbjbmklimdaaGreatDoorTie.lean); close each card by the builder's one call (the guide's Derived/Test/ToyasCard.lean, 'card_holds'). Laid BY PROGRAM, IN A SANDBOX (cutbox-door.mjs). By AI agents, Wed Nov 11 2026. No macro, syntax, notation, axiom, sorry.
-/
import Derived.Test.YtggmbjbmklimdaaGreatDoorRows
import GoSem.ClaimSeven
namespace Go.Proofs.YtggmbjbmklimdaaGreatDoor
namespace Rows

/-- THE TIED CARD OF 'laws.FnExactLogSeek'. -/
def fnExactLogSeekCard : Claim7 := { stood := { row := fnExactLogSeekRow, standIns := [], harness := (true, "decdaae3149bd899a5c0b5ce4a20a38efa6c8803dbaa75184c9d8c934aa94dcf"), looks := true }, kinds := [], alts := [], laidByText := true, laidKinds := [.data, .data, .data], laidTests := true, laidLooks := .later }
def FnExactLogSeekCardSaid : Prop := Claim7.holds Tryz.pinned (.plain (OpenSpec.ofChange fnExactLogSeekSpec)) fnExactLogSeekCard

/-- THE TIED CARD OF 'laws.FnExactWithText'. -/
def fnExactWithTextCard : Claim7 := { stood := { row := fnExactWithTextRow, standIns := [], harness := (true, "decdaae3149bd899a5c0b5ce4a20a38efa6c8803dbaa75184c9d8c934aa94dcf"), looks := true }, kinds := [], alts := [], laidByText := true, laidKinds := [.data, .data, .data, .sentinel, .sentinel], laidTests := true, laidLooks := .later }
def FnExactWithTextCardSaid : Prop := Claim7.holds Tryz.pinned (.plain (OpenSpec.ofChange fnExactWithTextSpec)) fnExactWithTextCard

/-- THE TIED CARD OF 'laws.FnExactRunOp'. -/
def fnExactRunOpCard : Claim7 := { stood := { row := fnExactRunOpRow, standIns := [], harness := (true, "decdaae3149bd899a5c0b5ce4a20a38efa6c8803dbaa75184c9d8c934aa94dcf"), looks := true }, kinds := [], alts := [], laidByText := true, laidKinds := [.data, .data, .data, .sentinel, .sentinel], laidTests := true, laidLooks := .later }
def FnExactRunOpCardSaid : Prop := Claim7.holds Tryz.pinned (.plain (OpenSpec.ofChange fnExactRunOpSpec)) fnExactRunOpCard

/-- THE TIED CARD OF 'laws.FnExactOpsLeft'. -/
def fnExactOpsLeftCard : Claim7 := { stood := { row := fnExactOpsLeftRow, standIns := [], harness := (true, "decdaae3149bd899a5c0b5ce4a20a38efa6c8803dbaa75184c9d8c934aa94dcf"), looks := true }, kinds := [], alts := [], laidByText := true, laidKinds := [.data, .data, .data, .sentinel, .sentinel], laidTests := true, laidLooks := .later }
def FnExactOpsLeftCardSaid : Prop := Claim7.holds Tryz.pinned (.plain (OpenSpec.ofChange fnExactOpsLeftSpec)) fnExactOpsLeftCard

/-- THE TIED CARD OF 'laws.FnExactMendRoom'. -/
def fnExactMendRoomCard : Claim7 := { stood := { row := fnExactMendRoomRow, standIns := [], harness := (true, "decdaae3149bd899a5c0b5ce4a20a38efa6c8803dbaa75184c9d8c934aa94dcf"), looks := true }, kinds := [], alts := [], laidByText := true, laidKinds := [.data, .data, .data, .sentinel, .sentinel], laidTests := true, laidLooks := .later }
def FnExactMendRoomCardSaid : Prop := Claim7.holds Tryz.pinned (.plain (OpenSpec.ofChange fnExactMendRoomSpec)) fnExactMendRoomCard

/-- THE TIED CARD OF 'laws.FnExactRunOps'. -/
def fnExactRunOpsCard : Claim7 := { stood := { row := fnExactRunOpsRow, standIns := [], harness := (true, "decdaae3149bd899a5c0b5ce4a20a38efa6c8803dbaa75184c9d8c934aa94dcf"), looks := true }, kinds := [], alts := [], laidByText := true, laidKinds := [.data, .data, .data, .sentinel, .sentinel], laidTests := true, laidLooks := .later }
def FnExactRunOpsCardSaid : Prop := Claim7.holds Tryz.pinned (.plain (OpenSpec.ofChange fnExactRunOpsSpec)) fnExactRunOpsCard

/-- THE TIED CARD OF 'laws.FnExactWriterAt'. -/
def fnExactWriterAtCard : Claim7 := { stood := { row := fnExactWriterAtRow, standIns := [], harness := (true, "decdaae3149bd899a5c0b5ce4a20a38efa6c8803dbaa75184c9d8c934aa94dcf"), looks := true }, kinds := [], alts := [], laidByText := true, laidKinds := [.data, .data, .data, .sentinel, .sentinel], laidTests := true, laidLooks := .later }
def FnExactWriterAtCardSaid : Prop := Claim7.holds Tryz.pinned (.plain (OpenSpec.ofChange fnExactWriterAtSpec)) fnExactWriterAtCard

/-- THE TIED CARD OF 'laws.FnExactPlanOf'. -/
def fnExactPlanOfCard : Claim7 := { stood := { row := fnExactPlanOfRow, standIns := [], harness := (true, "decdaae3149bd899a5c0b5ce4a20a38efa6c8803dbaa75184c9d8c934aa94dcf"), looks := true }, kinds := [], alts := [], laidByText := true, laidKinds := [.data, .data, .data, .sentinel, .sentinel], laidTests := true, laidLooks := .later }
def FnExactPlanOfCardSaid : Prop := Claim7.holds Tryz.pinned (.plain (OpenSpec.ofChange fnExactPlanOfSpec)) fnExactPlanOfCard

/-- THE SECOND FORM's CARD OF 'laws.FnExactLogSeek'. -/
def fnExactLogSeekUptoCard : Claim7 := { stood := { row := fnExactLogSeekUptoRow, standIns := [], harness := (true, "decdaae3149bd899a5c0b5ce4a20a38efa6c8803dbaa75184c9d8c934aa94dcf"), looks := true }, kinds := [], alts := [], laidByText := true, laidKinds := [.data, .data, .data], laidTests := true, laidLooks := .later }
def FnExactLogSeekUptoCardSaid : Prop := Claim7.holds Tryz.pinned (.plain (OpenSpec.upto fnExactLogSeekSpec)) fnExactLogSeekUptoCard

/-- THE SECOND FORM's CARD OF 'laws.FnExactWithText'. -/
def fnExactWithTextUptoCard : Claim7 := { stood := { row := fnExactWithTextUptoRow, standIns := [], harness := (true, "decdaae3149bd899a5c0b5ce4a20a38efa6c8803dbaa75184c9d8c934aa94dcf"), looks := true }, kinds := [], alts := [], laidByText := true, laidKinds := [.data, .data, .data, .sentinel, .sentinel], laidTests := true, laidLooks := .later }
def FnExactWithTextUptoCardSaid : Prop := Claim7.holds Tryz.pinned (.plain (OpenSpec.upto fnExactWithTextSpec)) fnExactWithTextUptoCard

/-- THE SECOND FORM's CARD OF 'laws.FnExactRunOp'. -/
def fnExactRunOpUptoCard : Claim7 := { stood := { row := fnExactRunOpUptoRow, standIns := [], harness := (true, "decdaae3149bd899a5c0b5ce4a20a38efa6c8803dbaa75184c9d8c934aa94dcf"), looks := true }, kinds := [], alts := [], laidByText := true, laidKinds := [.data, .data, .data, .sentinel, .sentinel], laidTests := true, laidLooks := .later }
def FnExactRunOpUptoCardSaid : Prop := Claim7.holds Tryz.pinned (.plain (OpenSpec.upto fnExactRunOpSpec)) fnExactRunOpUptoCard

/-- THE SECOND FORM's CARD OF 'laws.FnExactOpsLeft'. -/
def fnExactOpsLeftUptoCard : Claim7 := { stood := { row := fnExactOpsLeftUptoRow, standIns := [], harness := (true, "decdaae3149bd899a5c0b5ce4a20a38efa6c8803dbaa75184c9d8c934aa94dcf"), looks := true }, kinds := [], alts := [], laidByText := true, laidKinds := [.data, .data, .data, .sentinel, .sentinel], laidTests := true, laidLooks := .later }
def FnExactOpsLeftUptoCardSaid : Prop := Claim7.holds Tryz.pinned (.plain (OpenSpec.upto fnExactOpsLeftSpec)) fnExactOpsLeftUptoCard

/-- THE SECOND FORM's CARD OF 'laws.FnExactMendRoom'. -/
def fnExactMendRoomUptoCard : Claim7 := { stood := { row := fnExactMendRoomUptoRow, standIns := [], harness := (true, "decdaae3149bd899a5c0b5ce4a20a38efa6c8803dbaa75184c9d8c934aa94dcf"), looks := true }, kinds := [], alts := [], laidByText := true, laidKinds := [.data, .data, .data, .sentinel, .sentinel], laidTests := true, laidLooks := .later }
def FnExactMendRoomUptoCardSaid : Prop := Claim7.holds Tryz.pinned (.plain (OpenSpec.upto fnExactMendRoomSpec)) fnExactMendRoomUptoCard

/-- THE SECOND FORM's CARD OF 'laws.FnExactRunOps'. -/
def fnExactRunOpsUptoCard : Claim7 := { stood := { row := fnExactRunOpsUptoRow, standIns := [], harness := (true, "decdaae3149bd899a5c0b5ce4a20a38efa6c8803dbaa75184c9d8c934aa94dcf"), looks := true }, kinds := [], alts := [], laidByText := true, laidKinds := [.data, .data, .data, .sentinel, .sentinel], laidTests := true, laidLooks := .later }
def FnExactRunOpsUptoCardSaid : Prop := Claim7.holds Tryz.pinned (.plain (OpenSpec.upto fnExactRunOpsSpec)) fnExactRunOpsUptoCard

/-- THE SECOND FORM's CARD OF 'laws.FnExactWriterAt'. -/
def fnExactWriterAtUptoCard : Claim7 := { stood := { row := fnExactWriterAtUptoRow, standIns := [], harness := (true, "decdaae3149bd899a5c0b5ce4a20a38efa6c8803dbaa75184c9d8c934aa94dcf"), looks := true }, kinds := [], alts := [], laidByText := true, laidKinds := [.data, .data, .data, .sentinel, .sentinel], laidTests := true, laidLooks := .later }
def FnExactWriterAtUptoCardSaid : Prop := Claim7.holds Tryz.pinned (.plain (OpenSpec.upto fnExactWriterAtSpec)) fnExactWriterAtUptoCard

/-- THE SECOND FORM's CARD OF 'laws.FnExactPlanOf'. -/
def fnExactPlanOfUptoCard : Claim7 := { stood := { row := fnExactPlanOfUptoRow, standIns := [], harness := (true, "decdaae3149bd899a5c0b5ce4a20a38efa6c8803dbaa75184c9d8c934aa94dcf"), looks := true }, kinds := [], alts := [], laidByText := true, laidKinds := [.data, .data, .data, .sentinel, .sentinel], laidTests := true, laidLooks := .later }
def FnExactPlanOfUptoCardSaid : Prop := Claim7.holds Tryz.pinned (.plain (OpenSpec.upto fnExactPlanOfSpec)) fnExactPlanOfUptoCard
end Rows
end Go.Proofs.YtggmbjbmklimdaaGreatDoor
