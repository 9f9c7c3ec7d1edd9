import Derived.Deep.DeepWitnessRowRef
import Derived.Test.YtbcfddaocfpckaaGreatDoorCards
import Derived.Test.YtbcfddaocfpckaaGreatDoorTie
import Derived.Test.YtbcfddaocfpckaaGreatDoorHSt5
set_option linter.all false
section
namespace Go.Proofs.YtbcfddaocfpckaaGreatDoor
open Go.ChangeShapes Go.WideShapes Go.ChangeAt
set_option maxRecDepth 100000
theorem Su:(Rows.printStmtsUptoRow.inPlace == Tryz.pinned.checked.prog.inPlace 4)=true:=by kernel_rfl
theorem Lh:(Rows.printStmtsUptoRow.unfollowed == Tryz.pinned.checked.prog.unfollowed 4)=true:=by kernel_rfl
end Go.Proofs.YtbcfddaocfpckaaGreatDoor
end
