import Derived.Deep.DeepWitnessRowRef
import Derived.Test.YtcfjcimhjmpkiaaGreatDoorCards
import Derived.Test.YtcfjcimhjmpkiaaGreatDoorTie
import Derived.Test.YtcfjcimhjmpkiaaGreatDoorHTb10
set_option linter.all false
section
namespace Go.Proofs.YtcfjcimhjmpkiaaGreatDoor
open Go.ChangeShapes Go.WideShapes Go.ChangeAt
set_option maxRecDepth 100000
theorem KA:(Rows.reportLinesRow.inPlace == Tryz.pinned.checked.prog.inPlace 6)=true:=by kernel_rfl
theorem VP:(Rows.reportLinesRow.unfollowed == Tryz.pinned.checked.prog.unfollowed 6)=true:=by kernel_rfl
end Go.Proofs.YtcfjcimhjmpkiaaGreatDoor
end
