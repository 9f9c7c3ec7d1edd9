import Derived.Deep.DeepWitnessRowRef
import Derived.Test.YtgjcjbhhhlelnaaGreatDoorCards
import Derived.Test.YtgjcjbhhhlelnaaGreatDoorTie
import Derived.Test.YtgjcjbhhhlelnaaGreatDoorHWa7
set_option linter.all false
section
namespace Go.Proofs.YtgjcjbhhhlelnaaGreatDoor
open Go.ChangeShapes Go.WideShapes Go.ChangeAt
set_option maxRecDepth 100000
theorem Zhi:(Rows.partitionWaysRow.recurses == Tryz.pinned.checked.prog.recurses 8)=true:=by kernel_rfl
theorem Zo5:(Rows.partitionWaysRow.named == Tryz.pinned.checked.prog.varsNamed 8)=true:=by kernel_rfl
end Go.Proofs.YtgjcjbhhhlelnaaGreatDoor
end
