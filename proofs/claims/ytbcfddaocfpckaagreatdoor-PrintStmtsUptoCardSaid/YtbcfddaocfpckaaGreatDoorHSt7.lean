import Derived.Deep.DeepWitnessRowRef
import Derived.Test.YtbcfddaocfpckaaGreatDoorCards
import Derived.Test.YtbcfddaocfpckaaGreatDoorTie
import Derived.Test.YtbcfddaocfpckaaGreatDoorHSt6
set_option linter.all false
section
namespace Go.Proofs.YtbcfddaocfpckaaGreatDoor
open Go.ChangeShapes Go.WideShapes Go.ChangeAt
set_option maxRecDepth 100000
theorem PD:(Rows.printStmtsUptoRow.recurses == Tryz.pinned.checked.prog.recurses 4)=true:=by kernel_rfl
theorem ZaE:(Rows.printStmtsUptoRow.named == Tryz.pinned.checked.prog.varsNamed 4)=true:=by kernel_rfl
end Go.Proofs.YtbcfddaocfpckaaGreatDoor
end
