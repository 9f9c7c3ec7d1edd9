/-
  DERIVED. GIVEN WITH THE SEED: THE CARDS: each row of YtbcfddaocfpckaaGreatDoorRows.lean that lists a variable, with what it lists TIED to the program's text (the seventh form; the later family's looks); each row that meets fmt, with fmt's text TOLD by the authors' own Lean function (tested against real Go, not proved from fmt's source: count such statements apart). THE CARD IS WHAT COUNTS. Prove the row's statement (the work); the ties are given (YtbcfddaocfpckaaGreatDoorTie.lean); close each card by the builder's one call (the guide's Derived/Test/ToyasCard.lean, 'card_holds'). Laid BY PROGRAM, IN A SANDBOX (cutbox-door.mjs). By AI agents, Wed Nov 11 2026. No macro, syntax, notation, axiom, sorry.
-/
import Derived.Test.YtbcfddaocfpckaaGreatDoorRows
import GoSem.ClaimSeven
namespace Go.Proofs.YtbcfddaocfpckaaGreatDoor
namespace Rows

/-- THE TIED CARD OF 'simulatorlaw13.PrintExprs'. -/
def printExprsCard : Claim7 := { stood := { row := printExprsRow, standIns := [], harness := (true, "4cc2c39b2a334bb09571a29961e8ed276af2d0e2c8fea76be8b1d4a572ef08e7"), looks := true }, kinds := [], alts := [], laidByText := true, laidKinds := [.data, .data, .data], laidTests := true, laidLooks := .later }
def PrintExprsCardSaid : Prop := Claim7.holds Tryz.pinned (.plain (OpenSpec.ofChange printExprsSpec)) printExprsCard

/-- THE TIED CARD OF 'simulatorlaw13.PrintStmts'. -/
def printStmtsCard : Claim7 := { stood := { row := printStmtsRow, standIns := [], harness := (true, "4cc2c39b2a334bb09571a29961e8ed276af2d0e2c8fea76be8b1d4a572ef08e7"), looks := true }, kinds := [], alts := [], laidByText := true, laidKinds := [.data, .data, .data], laidTests := true, laidLooks := .later }
def PrintStmtsCardSaid : Prop := Claim7.holds Tryz.pinned (.plain (OpenSpec.ofChange printStmtsSpec)) printStmtsCard

/-- THE TIED CARD OF 'simulatorlaw13.PrintModels'. -/
def printModelsCard : Claim7 := { stood := { row := printModelsRow, standIns := [], harness := (true, "4cc2c39b2a334bb09571a29961e8ed276af2d0e2c8fea76be8b1d4a572ef08e7"), looks := true }, kinds := [], alts := [], laidByText := true, laidKinds := [.data, .data, .data], laidTests := true, laidLooks := .later }
def PrintModelsCardSaid : Prop := Claim7.holds Tryz.pinned (.plain (OpenSpec.ofChange printModelsSpec)) printModelsCard

/-- THE TIED CARD OF 'simulatorlaw13.PrintReads'. -/
def printReadsCard : Claim7 := { stood := { row := printReadsRow, standIns := [], harness := (true, "4cc2c39b2a334bb09571a29961e8ed276af2d0e2c8fea76be8b1d4a572ef08e7"), looks := true }, kinds := [], alts := [], laidByText := true, laidKinds := [.data, .data, .data, .sentinel, .sentinel], laidTests := true, laidLooks := .later }
def PrintReadsCardSaid : Prop := Claim7.holds Tryz.pinned (.plain (OpenSpec.ofChange printReadsSpec)) printReadsCard

/-- THE TIED CARD OF 'simulatorlaw13.PrintLean'. -/
def printLeanCard : Claim7 := { stood := { row := printLeanRow, standIns := [], harness := (true, "4cc2c39b2a334bb09571a29961e8ed276af2d0e2c8fea76be8b1d4a572ef08e7"), looks := true }, kinds := [], alts := [], laidByText := true, laidKinds := [.data, .data, .data, .sentinel, .sentinel], laidTests := true, laidLooks := .later }
def PrintLeanCardSaid : Prop := Claim7.holds Tryz.pinned (.plain (OpenSpec.ofChange printLeanSpec)) printLeanCard

/-- THE TIED CARD OF 'simulatorlaw13.PrintStmtsRead'. -/
def printStmtsReadCard : Claim7 := { stood := { row := printStmtsReadRow, standIns := [], harness := (true, "4cc2c39b2a334bb09571a29961e8ed276af2d0e2c8fea76be8b1d4a572ef08e7"), looks := true }, kinds := [], alts := [], laidByText := true, laidKinds := [.data, .data, .data, .sentinel, .sentinel], laidTests := true, laidLooks := .later }
def PrintStmtsReadCardSaid : Prop := Claim7.holds Tryz.pinned (.plain (OpenSpec.ofChange printStmtsReadSpec)) printStmtsReadCard

/-- THE TIED CARD OF 'simulatorlaw13.PrintModelsRead'. -/
def printModelsReadCard : Claim7 := { stood := { row := printModelsReadRow, standIns := [], harness := (true, "4cc2c39b2a334bb09571a29961e8ed276af2d0e2c8fea76be8b1d4a572ef08e7"), looks := true }, kinds := [], alts := [], laidByText := true, laidKinds := [.data, .data, .data, .sentinel, .sentinel], laidTests := true, laidLooks := .later }
def PrintModelsReadCardSaid : Prop := Claim7.holds Tryz.pinned (.plain (OpenSpec.ofChange printModelsReadSpec)) printModelsReadCard

/-- THE SECOND FORM's CARD OF 'simulatorlaw13.PrintExprs'. -/
def printExprsUptoCard : Claim7 := { stood := { row := printExprsUptoRow, standIns := [], harness := (true, "4cc2c39b2a334bb09571a29961e8ed276af2d0e2c8fea76be8b1d4a572ef08e7"), looks := true }, kinds := [], alts := [], laidByText := true, laidKinds := [.data, .data, .data], laidTests := true, laidLooks := .later }
def PrintExprsUptoCardSaid : Prop := Claim7.holds Tryz.pinned (.plain (OpenSpec.upto printExprsSpec)) printExprsUptoCard

/-- THE SECOND FORM's CARD OF 'simulatorlaw13.PrintStmts'. -/
def printStmtsUptoCard : Claim7 := { stood := { row := printStmtsUptoRow, standIns := [], harness := (true, "4cc2c39b2a334bb09571a29961e8ed276af2d0e2c8fea76be8b1d4a572ef08e7"), looks := true }, kinds := [], alts := [], laidByText := true, laidKinds := [.data, .data, .data], laidTests := true, laidLooks := .later }
def PrintStmtsUptoCardSaid : Prop := Claim7.holds Tryz.pinned (.plain (OpenSpec.upto printStmtsSpec)) printStmtsUptoCard

/-- THE SECOND FORM's CARD OF 'simulatorlaw13.PrintModels'. -/
def printModelsUptoCard : Claim7 := { stood := { row := printModelsUptoRow, standIns := [], harness := (true, "4cc2c39b2a334bb09571a29961e8ed276af2d0e2c8fea76be8b1d4a572ef08e7"), looks := true }, kinds := [], alts := [], laidByText := true, laidKinds := [.data, .data, .data], laidTests := true, laidLooks := .later }
def PrintModelsUptoCardSaid : Prop := Claim7.holds Tryz.pinned (.plain (OpenSpec.upto printModelsSpec)) printModelsUptoCard

/-- THE SECOND FORM's CARD OF 'simulatorlaw13.PrintReads'. -/
def printReadsUptoCard : Claim7 := { stood := { row := printReadsUptoRow, standIns := [], harness := (true, "4cc2c39b2a334bb09571a29961e8ed276af2d0e2c8fea76be8b1d4a572ef08e7"), looks := true }, kinds := [], alts := [], laidByText := true, laidKinds := [.data, .data, .data, .sentinel, .sentinel], laidTests := true, laidLooks := .later }
def PrintReadsUptoCardSaid : Prop := Claim7.holds Tryz.pinned (.plain (OpenSpec.upto printReadsSpec)) printReadsUptoCard

/-- THE SECOND FORM's CARD OF 'simulatorlaw13.PrintLean'. -/
def printLeanUptoCard : Claim7 := { stood := { row := printLeanUptoRow, standIns := [], harness := (true, "4cc2c39b2a334bb09571a29961e8ed276af2d0e2c8fea76be8b1d4a572ef08e7"), looks := true }, kinds := [], alts := [], laidByText := true, laidKinds := [.data, .data, .data, .sentinel, .sentinel], laidTests := true, laidLooks := .later }
def PrintLeanUptoCardSaid : Prop := Claim7.holds Tryz.pinned (.plain (OpenSpec.upto printLeanSpec)) printLeanUptoCard

/-- THE SECOND FORM's CARD OF 'simulatorlaw13.PrintStmtsRead'. -/
def printStmtsReadUptoCard : Claim7 := { stood := { row := printStmtsReadUptoRow, standIns := [], harness := (true, "4cc2c39b2a334bb09571a29961e8ed276af2d0e2c8fea76be8b1d4a572ef08e7"), looks := true }, kinds := [], alts := [], laidByText := true, laidKinds := [.data, .data, .data, .sentinel, .sentinel], laidTests := true, laidLooks := .later }
def PrintStmtsReadUptoCardSaid : Prop := Claim7.holds Tryz.pinned (.plain (OpenSpec.upto printStmtsReadSpec)) printStmtsReadUptoCard

/-- THE SECOND FORM's CARD OF 'simulatorlaw13.PrintModelsRead'. -/
def printModelsReadUptoCard : Claim7 := { stood := { row := printModelsReadUptoRow, standIns := [], harness := (true, "4cc2c39b2a334bb09571a29961e8ed276af2d0e2c8fea76be8b1d4a572ef08e7"), looks := true }, kinds := [], alts := [], laidByText := true, laidKinds := [.data, .data, .data, .sentinel, .sentinel], laidTests := true, laidLooks := .later }
def PrintModelsReadUptoCardSaid : Prop := Claim7.holds Tryz.pinned (.plain (OpenSpec.upto printModelsReadSpec)) printModelsReadUptoCard
end Rows
end Go.Proofs.YtbcfddaocfpckaaGreatDoor
