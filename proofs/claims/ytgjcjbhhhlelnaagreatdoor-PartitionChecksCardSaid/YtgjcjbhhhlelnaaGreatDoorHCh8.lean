import Derived.Deep.DeepWitnessRowRef
import Derived.Test.YtgjcjbhhhlelnaaGreatDoorCards
import Derived.Test.YtgjcjbhhhlelnaaGreatDoorTie
import Derived.Test.YtgjcjbhhhlelnaaGreatDoorHCh7
set_option linter.all false
section
namespace Go.Proofs.YtgjcjbhhhlelnaaGreatDoor
open Go.ChangeShapes Go.WideShapes Go.ChangeAt
set_option maxRecDepth 100000
theorem Zi5:(Rows.partitionChecksRow.recurses == Tryz.pinned.checked.prog.recurses 3)=true:=by kernel_rfl
theorem ZpP:(Rows.partitionChecksRow.named == Tryz.pinned.checked.prog.varsNamed 3)=true:=by kernel_rfl
end Go.Proofs.YtgjcjbhhhlelnaaGreatDoor
end
