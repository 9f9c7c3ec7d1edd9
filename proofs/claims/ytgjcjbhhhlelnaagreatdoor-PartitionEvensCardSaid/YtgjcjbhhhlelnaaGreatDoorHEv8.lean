import Derived.Deep.DeepWitnessRowRef
import Derived.Test.YtgjcjbhhhlelnaaGreatDoorCards
import Derived.Test.YtgjcjbhhhlelnaaGreatDoorTie
import Derived.Test.YtgjcjbhhhlelnaaGreatDoorHEv7
set_option linter.all false
section
namespace Go.Proofs.YtgjcjbhhhlelnaaGreatDoor
open Go.ChangeShapes Go.WideShapes Go.ChangeAt
set_option maxRecDepth 100000
theorem ZgO:(Rows.partitionEvensRow.recurses == Tryz.pinned.checked.prog.recurses 6)=true:=by kernel_rfl
theorem ZnQ:(Rows.partitionEvensRow.named == Tryz.pinned.checked.prog.varsNamed 6)=true:=by kernel_rfl
end Go.Proofs.YtgjcjbhhhlelnaaGreatDoor
end
