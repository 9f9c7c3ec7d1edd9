import Derived.Deep.DeepWitnessRowRef
import Derived.Test.YtbcfddaocfpckaaGreatDoorCards
import Derived.Test.YtbcfddaocfpckaaGreatDoorTie
import Derived.Test.YtbcfddaocfpckaaGreatDoorHMo5
set_option linter.all false
section
namespace Go.Proofs.YtbcfddaocfpckaaGreatDoor
open Go.ChangeShapes Go.WideShapes Go.ChangeAt
set_option maxRecDepth 100000
theorem ZeE:(Rows.printModelsUptoRow.inPlace==Tryz.pinned.checked.prog.inPlace 5)=true:=by kernel_rfl
theorem Zat:(Rows.printModelsUptoRow.unfollowed==Tryz.pinned.checked.prog.unfollowed 5)=true:=by kernel_rfl
end Go.Proofs.YtbcfddaocfpckaaGreatDoor
end
