import Derived.Deep.DeepWitnessRowRef
import Derived.Test.YtcfjcimhjmpkiaaGreatDoorCards
import Derived.Test.YtcfjcimhjmpkiaaGreatDoorTie
import Derived.Test.YtcfjcimhjmpkiaaGreatDoorHDe7
set_option linter.all false
section
namespace Go.Proofs.YtcfjcimhjmpkiaaGreatDoor
open Go.ChangeShapes Go.WideShapes Go.ChangeAt
set_option maxRecDepth 100000
theorem UI:(Rows.reportDecimalsRow.recurses == Tryz.pinned.checked.prog.recurses 3)=true:=by kernel_rfl
theorem OJ:(Rows.reportDecimalsRow.named == Tryz.pinned.checked.prog.varsNamed 3)=true:=by kernel_rfl
end Go.Proofs.YtcfjcimhjmpkiaaGreatDoor
end
