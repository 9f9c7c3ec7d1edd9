/-
  DERIVED. GIVEN WITH THE SEED: THE CARDS: each row of YtcfjcimhjmpkiaaGreatDoorRows.lean that lists a variable, with what it lists TIED to the program's text (the seventh form; the later family's looks); each row that meets fmt, with fmt's text TOLD by the authors' own Lean function (tested against real Go, not proved from fmt's source: count such statements apart). THE CARD IS WHAT COUNTS. Prove the row's statement (the work); the ties are given (YtcfjcimhjmpkiaaGreatDoorTie.lean); close each card by the builder's one call (the guide's Derived/Test/ToyasCard.lean, 'card_holds'). Laid BY PROGRAM, IN A SANDBOX (cutbox-door.mjs). By AI agents, Wed Nov 11 2026. No macro, syntax, notation, axiom, sorry.
-/
import Derived.Test.YtcfjcimhjmpkiaaGreatDoorRows
import GoSem.ClaimSeven
namespace Go.Proofs.YtcfjcimhjmpkiaaGreatDoor
namespace Rows

/-- THE TIED CARD OF 'simulatorlaw55.ReportDecimals'. -/
def reportDecimalsCard : Claim7 := { stood := { row := reportDecimalsRow, standIns := [], harness := (true, "a5698632fbeef0bf8d186d8ddb073e8865e1cf49b797cc6e4c288effe9fb44e0"), looks := false }, kinds := [], alts := [], laidByText := true, laidKinds := [.data, .data, .data, .data, .data, .pinned], laidTests := true, laidLooks := .later }
def ReportDecimalsCardSaid : Prop := Claim7.holds Tryz.pinned (.plain (OpenSpec.ofChange reportDecimalsSpec)) reportDecimalsCard

/-- THE TIED CARD OF 'simulatorlaw55.ReportRounds'. -/
def reportRoundsCard : Claim7 := { stood := { row := reportRoundsRow, standIns := [], harness := (true, "a5698632fbeef0bf8d186d8ddb073e8865e1cf49b797cc6e4c288effe9fb44e0"), looks := false }, kinds := [], alts := [], laidByText := true, laidKinds := [.data, .data, .data, .data, .data, .pinned], laidTests := true, laidLooks := .later }
def ReportRoundsCardSaid : Prop := Claim7.holds Tryz.pinned (.plain (OpenSpec.ofChange reportRoundsSpec)) reportRoundsCard

/-- THE TIED CARD OF 'simulatorlaw55.ReportTables'. -/
def reportTablesCard : Claim7 := { stood := { row := reportTablesRow, standIns := [], harness := (true, "a5698632fbeef0bf8d186d8ddb073e8865e1cf49b797cc6e4c288effe9fb44e0"), looks := false }, kinds := [], alts := [], laidByText := true, laidKinds := [.data, .data, .data, .data, .data, .pinned], laidTests := true, laidLooks := .later }
def ReportTablesCardSaid : Prop := Claim7.holds Tryz.pinned (.plain (OpenSpec.ofChange reportTablesSpec)) reportTablesCard

/-- THE TIED CARD OF 'simulatorlaw55.ReportLines'. -/
def reportLinesCard : Claim7 := { stood := { row := reportLinesRow, standIns := [], harness := (true, "a5698632fbeef0bf8d186d8ddb073e8865e1cf49b797cc6e4c288effe9fb44e0"), looks := false }, kinds := [], alts := [], laidByText := true, laidKinds := [.data, .data, .data, .data, .data, .pinned], laidTests := true, laidLooks := .later }
def ReportLinesCardSaid : Prop := Claim7.holds Tryz.pinned (.plain (OpenSpec.ofChange reportLinesSpec)) reportLinesCard

/-- THE TIED CARD OF 'simulatorlaw55.ReportSites'. -/
def reportSitesCard : Claim7 := { stood := { row := reportSitesRow, standIns := [], harness := (true, "a5698632fbeef0bf8d186d8ddb073e8865e1cf49b797cc6e4c288effe9fb44e0"), looks := false }, kinds := [], alts := [], laidByText := true, laidKinds := [.data, .data, .data, .data, .data, .pinned], laidTests := true, laidLooks := .later }
def ReportSitesCardSaid : Prop := Claim7.holds Tryz.pinned (.plain (OpenSpec.ofChange reportSitesSpec)) reportSitesCard

/-- THE TIED CARD OF 'simulatorlaw55.ReportRows'. -/
def reportRowsCard : Claim7 := { stood := { row := reportRowsRow, standIns := [], harness := (true, "a5698632fbeef0bf8d186d8ddb073e8865e1cf49b797cc6e4c288effe9fb44e0"), looks := false }, kinds := [], alts := [], laidByText := true, laidKinds := [.data, .data, .data, .data, .data, .pinned], laidTests := true, laidLooks := .later }
def ReportRowsCardSaid : Prop := Claim7.holds Tryz.pinned (.plain (OpenSpec.ofChange reportRowsSpec)) reportRowsCard

/-- THE TIED CARD OF 'simulatorlaw55.ReportWorlds'. -/
def reportWorldsCard : Claim7 := { stood := { row := reportWorldsRow, standIns := [], harness := (true, "a5698632fbeef0bf8d186d8ddb073e8865e1cf49b797cc6e4c288effe9fb44e0"), looks := false }, kinds := [], alts := [], laidByText := true, laidKinds := [.data, .data, .data, .data, .data, .pinned], laidTests := true, laidLooks := .later }
def ReportWorldsCardSaid : Prop := Claim7.holds Tryz.pinned (.plain (OpenSpec.ofChange reportWorldsSpec)) reportWorldsCard

/-- THE SECOND FORM's CARD OF 'simulatorlaw55.ReportDecimals'. -/
def reportDecimalsUptoCard : Claim7 := { stood := { row := reportDecimalsUptoRow, standIns := [], harness := (true, "a5698632fbeef0bf8d186d8ddb073e8865e1cf49b797cc6e4c288effe9fb44e0"), looks := false }, kinds := [], alts := [], laidByText := true, laidKinds := [.data, .data, .data, .data, .data, .pinned], laidTests := true, laidLooks := .later }
def ReportDecimalsUptoCardSaid : Prop := Claim7.holds Tryz.pinned (.plain (OpenSpec.upto reportDecimalsSpec)) reportDecimalsUptoCard

/-- THE SECOND FORM's CARD OF 'simulatorlaw55.ReportRounds'. -/
def reportRoundsUptoCard : Claim7 := { stood := { row := reportRoundsUptoRow, standIns := [], harness := (true, "a5698632fbeef0bf8d186d8ddb073e8865e1cf49b797cc6e4c288effe9fb44e0"), looks := false }, kinds := [], alts := [], laidByText := true, laidKinds := [.data, .data, .data, .data, .data, .pinned], laidTests := true, laidLooks := .later }
def ReportRoundsUptoCardSaid : Prop := Claim7.holds Tryz.pinned (.plain (OpenSpec.upto reportRoundsSpec)) reportRoundsUptoCard

/-- THE SECOND FORM's CARD OF 'simulatorlaw55.ReportTables'. -/
def reportTablesUptoCard : Claim7 := { stood := { row := reportTablesUptoRow, standIns := [], harness := (true, "a5698632fbeef0bf8d186d8ddb073e8865e1cf49b797cc6e4c288effe9fb44e0"), looks := false }, kinds := [], alts := [], laidByText := true, laidKinds := [.data, .data, .data, .data, .data, .pinned], laidTests := true, laidLooks := .later }
def ReportTablesUptoCardSaid : Prop := Claim7.holds Tryz.pinned (.plain (OpenSpec.upto reportTablesSpec)) reportTablesUptoCard

/-- THE SECOND FORM's CARD OF 'simulatorlaw55.ReportLines'. -/
def reportLinesUptoCard : Claim7 := { stood := { row := reportLinesUptoRow, standIns := [], harness := (true, "a5698632fbeef0bf8d186d8ddb073e8865e1cf49b797cc6e4c288effe9fb44e0"), looks := false }, kinds := [], alts := [], laidByText := true, laidKinds := [.data, .data, .data, .data, .data, .pinned], laidTests := true, laidLooks := .later }
def ReportLinesUptoCardSaid : Prop := Claim7.holds Tryz.pinned (.plain (OpenSpec.upto reportLinesSpec)) reportLinesUptoCard

/-- THE SECOND FORM's CARD OF 'simulatorlaw55.ReportSites'. -/
def reportSitesUptoCard : Claim7 := { stood := { row := reportSitesUptoRow, standIns := [], harness := (true, "a5698632fbeef0bf8d186d8ddb073e8865e1cf49b797cc6e4c288effe9fb44e0"), looks := false }, kinds := [], alts := [], laidByText := true, laidKinds := [.data, .data, .data, .data, .data, .pinned], laidTests := true, laidLooks := .later }
def ReportSitesUptoCardSaid : Prop := Claim7.holds Tryz.pinned (.plain (OpenSpec.upto reportSitesSpec)) reportSitesUptoCard

/-- THE SECOND FORM's CARD OF 'simulatorlaw55.ReportRows'. -/
def reportRowsUptoCard : Claim7 := { stood := { row := reportRowsUptoRow, standIns := [], harness := (true, "a5698632fbeef0bf8d186d8ddb073e8865e1cf49b797cc6e4c288effe9fb44e0"), looks := false }, kinds := [], alts := [], laidByText := true, laidKinds := [.data, .data, .data, .data, .data, .pinned], laidTests := true, laidLooks := .later }
def ReportRowsUptoCardSaid : Prop := Claim7.holds Tryz.pinned (.plain (OpenSpec.upto reportRowsSpec)) reportRowsUptoCard

/-- THE SECOND FORM's CARD OF 'simulatorlaw55.ReportWorlds'. -/
def reportWorldsUptoCard : Claim7 := { stood := { row := reportWorldsUptoRow, standIns := [], harness := (true, "a5698632fbeef0bf8d186d8ddb073e8865e1cf49b797cc6e4c288effe9fb44e0"), looks := false }, kinds := [], alts := [], laidByText := true, laidKinds := [.data, .data, .data, .data, .data, .pinned], laidTests := true, laidLooks := .later }
def ReportWorldsUptoCardSaid : Prop := Claim7.holds Tryz.pinned (.plain (OpenSpec.upto reportWorldsSpec)) reportWorldsUptoCard
end Rows
end Go.Proofs.YtcfjcimhjmpkiaaGreatDoor
