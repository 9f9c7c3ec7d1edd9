import Derived.Deep.DeepWitnessRowRef
import Derived.Test.YtgjcjbhhhlelnaaGreatDoorCards
import Derived.Test.YtgjcjbhhhlelnaaGreatDoorTie
import Derived.Test.YtgjcjbhhhlelnaaGreatDoorHEv6
set_option linter.all false
section
namespace Go.Proofs.YtgjcjbhhhlelnaaGreatDoor
open Go.ChangeShapes Go.WideShapes Go.ChangeAt
set_option maxRecDepth 100000
theorem Zi9:(Rows.partitionEvensRow.inPlace == Tryz.pinned.checked.prog.inPlace 6)=true:=by kernel_rfl
theorem Zds:(Rows.partitionEvensRow.unfollowed == Tryz.pinned.checked.prog.unfollowed 6)=true:=by kernel_rfl
end Go.Proofs.YtgjcjbhhhlelnaaGreatDoor
end
