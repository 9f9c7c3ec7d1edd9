import Derived.Deep.DeepWitnessRowRef
import Derived.Test.YtcfjcimhjmpkiaaGreatDoorCards
import Derived.Test.YtcfjcimhjmpkiaaGreatDoorTie
import Derived.Test.YtcfjcimhjmpkiaaGreatDoorHDe10
set_option linter.all false
section
namespace Go.Proofs.YtcfjcimhjmpkiaaGreatDoor
open Go.ChangeShapes Go.WideShapes Go.ChangeAt
set_option maxRecDepth 100000
theorem Gg:(Rows.reportRoundsRow.inPlace == Tryz.pinned.checked.prog.inPlace 4)=true:=by kernel_rfl
theorem Ja:(Rows.reportRoundsRow.unfollowed == Tryz.pinned.checked.prog.unfollowed 4)=true:=by kernel_rfl
end Go.Proofs.YtcfjcimhjmpkiaaGreatDoor
end
