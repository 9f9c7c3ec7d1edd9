import Derived.Deep.DeepWitnessRowRef
import Derived.Test.YtcfjcimhjmpkiaaGreatDoorCards
import Derived.Test.YtcfjcimhjmpkiaaGreatDoorTie
import Derived.Test.YtcfjcimhjmpkiaaGreatDoorHDe6
set_option linter.all false
section
namespace Go.Proofs.YtcfjcimhjmpkiaaGreatDoor
open Go.ChangeShapes Go.WideShapes Go.ChangeAt
set_option maxRecDepth 100000
theorem Gf:(Rows.reportDecimalsRow.inPlace == Tryz.pinned.checked.prog.inPlace 3)=true:=by kernel_rfl
theorem VZ:(Rows.reportDecimalsRow.unfollowed == Tryz.pinned.checked.prog.unfollowed 3)=true:=by kernel_rfl
end Go.Proofs.YtcfjcimhjmpkiaaGreatDoor
end
