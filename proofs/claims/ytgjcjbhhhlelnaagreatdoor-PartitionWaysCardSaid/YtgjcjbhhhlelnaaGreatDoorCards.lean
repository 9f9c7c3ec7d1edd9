/-
  DERIVED. GIVEN WITH THE SEED: THE CARDS: each row of YtgjcjbhhhlelnaaGreatDoorRows.lean that lists a variable, with what it lists TIED to the program's text (the seventh form; the later family's looks); each row that meets fmt, with fmt's text TOLD by the authors' own Lean function (tested against real Go, not proved from fmt's source: count such statements apart). THE CARD IS WHAT COUNTS. Prove the row's statement (the work); the ties are given (YtgjcjbhhhlelnaaGreatDoorTie.lean); close each card by the builder's one call (the guide's Derived/Test/ToyasCard.lean, 'card_holds'). Laid BY PROGRAM, IN A SANDBOX (cutbox-door.mjs). By AI agents, Wed Nov 11 2026. No macro, syntax, notation, axiom, sorry.
-/
import Derived.Test.YtgjcjbhhhlelnaaGreatDoorRows
import GoSem.ClaimSeven
namespace Go.Proofs.YtgjcjbhhhlelnaaGreatDoor
namespace Rows

/-- THE TIED CARD OF 'simulatorlaw34.PartitionChecks'. -/
def partitionChecksCard : Claim7 := { stood := { row := partitionChecksRow, standIns := [], harness := (true, "466f0677f1c60d7585bbcd8ca27aa7cc352827a3f3d85991544a40cfc700f43d"), looks := false }, kinds := [], alts := [], laidByText := true, laidKinds := [.data], laidTests := true, laidLooks := .later }
def PartitionChecksCardSaid : Prop := Claim7.holds Tryz.pinned (.plain (OpenSpec.ofChange partitionChecksSpec)) partitionChecksCard

/-- THE TIED CARD OF 'simulatorlaw34.PartitionCuts'. -/
def partitionCutsCard : Claim7 := { stood := { row := partitionCutsRow, standIns := [], harness := (true, "466f0677f1c60d7585bbcd8ca27aa7cc352827a3f3d85991544a40cfc700f43d"), looks := false }, kinds := [], alts := [], laidByText := true, laidKinds := [.data], laidTests := true, laidLooks := .later }
def PartitionCutsCardSaid : Prop := Claim7.holds Tryz.pinned (.plain (OpenSpec.ofChange partitionCutsSpec)) partitionCutsCard

/-- THE TIED CARD OF 'simulatorlaw34.PartitionEven'. -/
def partitionEvenCard : Claim7 := { stood := { row := partitionEvenRow, standIns := [], harness := (true, "466f0677f1c60d7585bbcd8ca27aa7cc352827a3f3d85991544a40cfc700f43d"), looks := false }, kinds := [], alts := [], laidByText := true, laidKinds := [.data], laidTests := true, laidLooks := .later }
def PartitionEvenCardSaid : Prop := Claim7.holds Tryz.pinned (.plain (OpenSpec.ofChange partitionEvenSpec)) partitionEvenCard

/-- THE TIED CARD OF 'simulatorlaw34.PartitionEvens'. -/
def partitionEvensCard : Claim7 := { stood := { row := partitionEvensRow, standIns := [], harness := (true, "466f0677f1c60d7585bbcd8ca27aa7cc352827a3f3d85991544a40cfc700f43d"), looks := false }, kinds := [], alts := [], laidByText := true, laidKinds := [.data], laidTests := true, laidLooks := .later }
def PartitionEvensCardSaid : Prop := Claim7.holds Tryz.pinned (.plain (OpenSpec.ofChange partitionEvensSpec)) partitionEvensCard

/-- THE TIED CARD OF 'simulatorlaw34.PartitionAhead'. -/
def partitionAheadCard : Claim7 := { stood := { row := partitionAheadRow, standIns := [], harness := (true, "466f0677f1c60d7585bbcd8ca27aa7cc352827a3f3d85991544a40cfc700f43d"), looks := false }, kinds := [], alts := [], laidByText := true, laidKinds := [.data], laidTests := true, laidLooks := .later }
def PartitionAheadCardSaid : Prop := Claim7.holds Tryz.pinned (.plain (OpenSpec.ofChange partitionAheadSpec)) partitionAheadCard

/-- THE TIED CARD OF 'simulatorlaw34.PartitionWays'. -/
def partitionWaysCard : Claim7 := { stood := { row := partitionWaysRow, standIns := [], harness := (true, "466f0677f1c60d7585bbcd8ca27aa7cc352827a3f3d85991544a40cfc700f43d"), looks := false }, kinds := [], alts := [], laidByText := true, laidKinds := [.data], laidTests := true, laidLooks := .later }
def PartitionWaysCardSaid : Prop := Claim7.holds Tryz.pinned (.plain (OpenSpec.ofChange partitionWaysSpec)) partitionWaysCard

/-- THE SECOND FORM's CARD OF 'simulatorlaw34.PartitionChecks'. -/
def partitionChecksUptoCard : Claim7 := { stood := { row := partitionChecksUptoRow, standIns := [], harness := (true, "466f0677f1c60d7585bbcd8ca27aa7cc352827a3f3d85991544a40cfc700f43d"), looks := false }, kinds := [], alts := [], laidByText := true, laidKinds := [.data], laidTests := true, laidLooks := .later }
def PartitionChecksUptoCardSaid : Prop := Claim7.holds Tryz.pinned (.plain (OpenSpec.upto partitionChecksSpec)) partitionChecksUptoCard

/-- THE SECOND FORM's CARD OF 'simulatorlaw34.PartitionCuts'. -/
def partitionCutsUptoCard : Claim7 := { stood := { row := partitionCutsUptoRow, standIns := [], harness := (true, "466f0677f1c60d7585bbcd8ca27aa7cc352827a3f3d85991544a40cfc700f43d"), looks := false }, kinds := [], alts := [], laidByText := true, laidKinds := [.data], laidTests := true, laidLooks := .later }
def PartitionCutsUptoCardSaid : Prop := Claim7.holds Tryz.pinned (.plain (OpenSpec.upto partitionCutsSpec)) partitionCutsUptoCard

/-- THE SECOND FORM's CARD OF 'simulatorlaw34.PartitionEven'. -/
def partitionEvenUptoCard : Claim7 := { stood := { row := partitionEvenUptoRow, standIns := [], harness := (true, "466f0677f1c60d7585bbcd8ca27aa7cc352827a3f3d85991544a40cfc700f43d"), looks := false }, kinds := [], alts := [], laidByText := true, laidKinds := [.data], laidTests := true, laidLooks := .later }
def PartitionEvenUptoCardSaid : Prop := Claim7.holds Tryz.pinned (.plain (OpenSpec.upto partitionEvenSpec)) partitionEvenUptoCard

/-- THE SECOND FORM's CARD OF 'simulatorlaw34.PartitionEvens'. -/
def partitionEvensUptoCard : Claim7 := { stood := { row := partitionEvensUptoRow, standIns := [], harness := (true, "466f0677f1c60d7585bbcd8ca27aa7cc352827a3f3d85991544a40cfc700f43d"), looks := false }, kinds := [], alts := [], laidByText := true, laidKinds := [.data], laidTests := true, laidLooks := .later }
def PartitionEvensUptoCardSaid : Prop := Claim7.holds Tryz.pinned (.plain (OpenSpec.upto partitionEvensSpec)) partitionEvensUptoCard

/-- THE SECOND FORM's CARD OF 'simulatorlaw34.PartitionAhead'. -/
def partitionAheadUptoCard : Claim7 := { stood := { row := partitionAheadUptoRow, standIns := [], harness := (true, "466f0677f1c60d7585bbcd8ca27aa7cc352827a3f3d85991544a40cfc700f43d"), looks := false }, kinds := [], alts := [], laidByText := true, laidKinds := [.data], laidTests := true, laidLooks := .later }
def PartitionAheadUptoCardSaid : Prop := Claim7.holds Tryz.pinned (.plain (OpenSpec.upto partitionAheadSpec)) partitionAheadUptoCard

/-- THE SECOND FORM's CARD OF 'simulatorlaw34.PartitionWays'. -/
def partitionWaysUptoCard : Claim7 := { stood := { row := partitionWaysUptoRow, standIns := [], harness := (true, "466f0677f1c60d7585bbcd8ca27aa7cc352827a3f3d85991544a40cfc700f43d"), looks := false }, kinds := [], alts := [], laidByText := true, laidKinds := [.data], laidTests := true, laidLooks := .later }
def PartitionWaysUptoCardSaid : Prop := Claim7.holds Tryz.pinned (.plain (OpenSpec.upto partitionWaysSpec)) partitionWaysUptoCard
end Rows
end Go.Proofs.YtgjcjbhhhlelnaaGreatDoor
