/-
  DERIVED. GIVEN WITH THE SEED: THE CARDS: each row of YtpjcnjefffakpaaGreatDoorRows.lean that lists a variable, with what it lists TIED to the program's text (the seventh form; the later family's looks); each row that meets fmt, with fmt's text TOLD by the authors' own Lean function (tested against real Go, not proved from fmt's source: count such statements apart). THE CARD IS WHAT COUNTS. Prove the row's statement (the work); the ties are given (YtpjcnjefffakpaaGreatDoorTie.lean); close each card by the builder's one call (the guide's Derived/Test/ToyasCard.lean, 'card_holds'). Laid BY PROGRAM, IN A SANDBOX (cutbox-door.mjs). By AI agents, Wed Nov 11 2026. No macro, syntax, notation, axiom, sorry.
-/
import Derived.Test.YtpjcnjefffakpaaGreatDoorRows
import GoSem.ClaimSeven
namespace Go.Proofs.YtpjcnjefffakpaaGreatDoor
namespace Rows

/-- THE TIED CARD OF 'laws.FnExactLogLen'. -/
def fnExactLogLenCard : Claim7 := { stood := { row := fnExactLogLenRow, standIns := [], harness := (true, "8059a77afc5b658afa3e8ad4f10e0bf6709bc5acefcb54e899f93a92d69a1eb0"), looks := false }, kinds := [], alts := [], laidByText := true, laidKinds := [.data, .data, .data], laidTests := true, laidLooks := .later }
def FnExactLogLenCardSaid : Prop := Claim7.holds Tryz.pinned (.plain (OpenSpec.ofChange fnExactLogLenSpec)) fnExactLogLenCard

/-- THE TIED CARD OF 'laws.FnExactLost'. -/
def fnExactLostCard : Claim7 := { stood := { row := fnExactLostRow, standIns := [], harness := (true, "8059a77afc5b658afa3e8ad4f10e0bf6709bc5acefcb54e899f93a92d69a1eb0"), looks := false }, kinds := [], alts := [], laidByText := true, laidKinds := [.data, .data, .data], laidTests := true, laidLooks := .later }
def FnExactLostCardSaid : Prop := Claim7.holds Tryz.pinned (.plain (OpenSpec.ofChange fnExactLostSpec)) fnExactLostCard

/-- THE TIED CARD OF 'laws.FnExactLogGet'. -/
def fnExactLogGetCard : Claim7 := { stood := { row := fnExactLogGetRow, standIns := [], harness := (true, "8059a77afc5b658afa3e8ad4f10e0bf6709bc5acefcb54e899f93a92d69a1eb0"), looks := false }, kinds := [], alts := [], laidByText := true, laidKinds := [.data, .data, .data], laidTests := true, laidLooks := .later }
def FnExactLogGetCardSaid : Prop := Claim7.holds Tryz.pinned (.plain (OpenSpec.ofChange fnExactLogGetSpec)) fnExactLogGetCard

/-- THE TIED CARD OF 'laws.FnExactLogFind'. -/
def fnExactLogFindCard : Claim7 := { stood := { row := fnExactLogFindRow, standIns := [], harness := (true, "8059a77afc5b658afa3e8ad4f10e0bf6709bc5acefcb54e899f93a92d69a1eb0"), looks := false }, kinds := [], alts := [], laidByText := true, laidKinds := [.data, .data, .data], laidTests := true, laidLooks := .later }
def FnExactLogFindCardSaid : Prop := Claim7.holds Tryz.pinned (.plain (OpenSpec.ofChange fnExactLogFindSpec)) fnExactLogFindCard

/-- THE TIED CARD OF 'laws.FnExactFileOf'. -/
def fnExactFileOfCard : Claim7 := { stood := { row := fnExactFileOfRow, standIns := [], harness := (true, "8059a77afc5b658afa3e8ad4f10e0bf6709bc5acefcb54e899f93a92d69a1eb0"), looks := false }, kinds := [], alts := [], laidByText := true, laidKinds := [.data, .data, .data], laidTests := true, laidLooks := .later }
def FnExactFileOfCardSaid : Prop := Claim7.holds Tryz.pinned (.plain (OpenSpec.ofChange fnExactFileOfSpec)) fnExactFileOfCard

/-- THE TIED CARD OF 'laws.FnExactLogRange'. -/
def fnExactLogRangeCard : Claim7 := { stood := { row := fnExactLogRangeRow, standIns := [], harness := (true, "8059a77afc5b658afa3e8ad4f10e0bf6709bc5acefcb54e899f93a92d69a1eb0"), looks := false }, kinds := [], alts := [], laidByText := true, laidKinds := [.data, .data, .data], laidTests := true, laidLooks := .later }
def FnExactLogRangeCardSaid : Prop := Claim7.holds Tryz.pinned (.plain (OpenSpec.ofChange fnExactLogRangeSpec)) fnExactLogRangeCard

/-- THE TIED CARD OF 'laws.FnExactLogTail'. -/
def fnExactLogTailCard : Claim7 := { stood := { row := fnExactLogTailRow, standIns := [], harness := (true, "8059a77afc5b658afa3e8ad4f10e0bf6709bc5acefcb54e899f93a92d69a1eb0"), looks := false }, kinds := [], alts := [], laidByText := true, laidKinds := [.data, .data, .data], laidTests := true, laidLooks := .later }
def FnExactLogTailCardSaid : Prop := Claim7.holds Tryz.pinned (.plain (OpenSpec.ofChange fnExactLogTailSpec)) fnExactLogTailCard

/-- THE TIED CARD OF 'laws.FnExactLeftBehind'. -/
def fnExactLeftBehindCard : Claim7 := { stood := { row := fnExactLeftBehindRow, standIns := [], harness := (true, "8059a77afc5b658afa3e8ad4f10e0bf6709bc5acefcb54e899f93a92d69a1eb0"), looks := false }, kinds := [], alts := [], laidByText := true, laidKinds := [.data, .data, .data], laidTests := true, laidLooks := .later }
def FnExactLeftBehindCardSaid : Prop := Claim7.holds Tryz.pinned (.plain (OpenSpec.ofChange fnExactLeftBehindSpec)) fnExactLeftBehindCard

/-- THE TIED CARD OF 'laws.FnExactLogSeek'. -/
def fnExactLogSeekCard : Claim7 := { stood := { row := fnExactLogSeekRow, standIns := [], harness := (true, "8059a77afc5b658afa3e8ad4f10e0bf6709bc5acefcb54e899f93a92d69a1eb0"), looks := false }, kinds := [], alts := [], laidByText := true, laidKinds := [.data, .data, .data], laidTests := true, laidLooks := .later }
def FnExactLogSeekCardSaid : Prop := Claim7.holds Tryz.pinned (.plain (OpenSpec.ofChange fnExactLogSeekSpec)) fnExactLogSeekCard

/-- THE SECOND FORM's CARD OF 'laws.FnExactLogLen'. -/
def fnExactLogLenUptoCard : Claim7 := { stood := { row := fnExactLogLenUptoRow, standIns := [], harness := (true, "8059a77afc5b658afa3e8ad4f10e0bf6709bc5acefcb54e899f93a92d69a1eb0"), looks := false }, kinds := [], alts := [], laidByText := true, laidKinds := [.data, .data, .data], laidTests := true, laidLooks := .later }
def FnExactLogLenUptoCardSaid : Prop := Claim7.holds Tryz.pinned (.plain (OpenSpec.upto fnExactLogLenSpec)) fnExactLogLenUptoCard

/-- THE SECOND FORM's CARD OF 'laws.FnExactLost'. -/
def fnExactLostUptoCard : Claim7 := { stood := { row := fnExactLostUptoRow, standIns := [], harness := (true, "8059a77afc5b658afa3e8ad4f10e0bf6709bc5acefcb54e899f93a92d69a1eb0"), looks := false }, kinds := [], alts := [], laidByText := true, laidKinds := [.data, .data, .data], laidTests := true, laidLooks := .later }
def FnExactLostUptoCardSaid : Prop := Claim7.holds Tryz.pinned (.plain (OpenSpec.upto fnExactLostSpec)) fnExactLostUptoCard

/-- THE SECOND FORM's CARD OF 'laws.FnExactLogGet'. -/
def fnExactLogGetUptoCard : Claim7 := { stood := { row := fnExactLogGetUptoRow, standIns := [], harness := (true, "8059a77afc5b658afa3e8ad4f10e0bf6709bc5acefcb54e899f93a92d69a1eb0"), looks := false }, kinds := [], alts := [], laidByText := true, laidKinds := [.data, .data, .data], laidTests := true, laidLooks := .later }
def FnExactLogGetUptoCardSaid : Prop := Claim7.holds Tryz.pinned (.plain (OpenSpec.upto fnExactLogGetSpec)) fnExactLogGetUptoCard

/-- THE SECOND FORM's CARD OF 'laws.FnExactLogFind'. -/
def fnExactLogFindUptoCard : Claim7 := { stood := { row := fnExactLogFindUptoRow, standIns := [], harness := (true, "8059a77afc5b658afa3e8ad4f10e0bf6709bc5acefcb54e899f93a92d69a1eb0"), looks := false }, kinds := [], alts := [], laidByText := true, laidKinds := [.data, .data, .data], laidTests := true, laidLooks := .later }
def FnExactLogFindUptoCardSaid : Prop := Claim7.holds Tryz.pinned (.plain (OpenSpec.upto fnExactLogFindSpec)) fnExactLogFindUptoCard

/-- THE SECOND FORM's CARD OF 'laws.FnExactFileOf'. -/
def fnExactFileOfUptoCard : Claim7 := { stood := { row := fnExactFileOfUptoRow, standIns := [], harness := (true, "8059a77afc5b658afa3e8ad4f10e0bf6709bc5acefcb54e899f93a92d69a1eb0"), looks := false }, kinds := [], alts := [], laidByText := true, laidKinds := [.data, .data, .data], laidTests := true, laidLooks := .later }
def FnExactFileOfUptoCardSaid : Prop := Claim7.holds Tryz.pinned (.plain (OpenSpec.upto fnExactFileOfSpec)) fnExactFileOfUptoCard

/-- THE SECOND FORM's CARD OF 'laws.FnExactLogRange'. -/
def fnExactLogRangeUptoCard : Claim7 := { stood := { row := fnExactLogRangeUptoRow, standIns := [], harness := (true, "8059a77afc5b658afa3e8ad4f10e0bf6709bc5acefcb54e899f93a92d69a1eb0"), looks := false }, kinds := [], alts := [], laidByText := true, laidKinds := [.data, .data, .data], laidTests := true, laidLooks := .later }
def FnExactLogRangeUptoCardSaid : Prop := Claim7.holds Tryz.pinned (.plain (OpenSpec.upto fnExactLogRangeSpec)) fnExactLogRangeUptoCard

/-- THE SECOND FORM's CARD OF 'laws.FnExactLogTail'. -/
def fnExactLogTailUptoCard : Claim7 := { stood := { row := fnExactLogTailUptoRow, standIns := [], harness := (true, "8059a77afc5b658afa3e8ad4f10e0bf6709bc5acefcb54e899f93a92d69a1eb0"), looks := false }, kinds := [], alts := [], laidByText := true, laidKinds := [.data, .data, .data], laidTests := true, laidLooks := .later }
def FnExactLogTailUptoCardSaid : Prop := Claim7.holds Tryz.pinned (.plain (OpenSpec.upto fnExactLogTailSpec)) fnExactLogTailUptoCard

/-- THE SECOND FORM's CARD OF 'laws.FnExactLeftBehind'. -/
def fnExactLeftBehindUptoCard : Claim7 := { stood := { row := fnExactLeftBehindUptoRow, standIns := [], harness := (true, "8059a77afc5b658afa3e8ad4f10e0bf6709bc5acefcb54e899f93a92d69a1eb0"), looks := false }, kinds := [], alts := [], laidByText := true, laidKinds := [.data, .data, .data], laidTests := true, laidLooks := .later }
def FnExactLeftBehindUptoCardSaid : Prop := Claim7.holds Tryz.pinned (.plain (OpenSpec.upto fnExactLeftBehindSpec)) fnExactLeftBehindUptoCard

/-- THE SECOND FORM's CARD OF 'laws.FnExactLogSeek'. -/
def fnExactLogSeekUptoCard : Claim7 := { stood := { row := fnExactLogSeekUptoRow, standIns := [], harness := (true, "8059a77afc5b658afa3e8ad4f10e0bf6709bc5acefcb54e899f93a92d69a1eb0"), looks := false }, kinds := [], alts := [], laidByText := true, laidKinds := [.data, .data, .data], laidTests := true, laidLooks := .later }
def FnExactLogSeekUptoCardSaid : Prop := Claim7.holds Tryz.pinned (.plain (OpenSpec.upto fnExactLogSeekSpec)) fnExactLogSeekUptoCard
end Rows
end Go.Proofs.YtpjcnjefffakpaaGreatDoor
