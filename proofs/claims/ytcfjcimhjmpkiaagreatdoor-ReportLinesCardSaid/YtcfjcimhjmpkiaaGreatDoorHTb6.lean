import Derived.Deep.DeepWitnessRowRef
import Derived.SevenTiedAt
import Derived.Test.YtcfjcimhjmpkiaaGreatDoorCards
import Derived.Test.YtcfjcimhjmpkiaaGreatDoorTie
import Derived.Test.YtcfjcimhjmpkiaaGreatDoorHTb5
set_option linter.all false
section
namespace Go.Proofs.YtcfjcimhjmpkiaaGreatDoor
open Go.ChangeShapes Go.WideShapes Go.ChangeAt
set_option maxRecDepth 100000
theorem XL:false=Rows.reportTablesRow.goesBy Tryz.pinned.checked.prog:=by kernel_rfl
end Go.Proofs.YtcfjcimhjmpkiaaGreatDoor
end
