import Derived.Deep.DeepWitnessRowRef
import Derived.Test.YtbcfddaocfpckaaGreatDoorCards
import Derived.Test.YtbcfddaocfpckaaGreatDoorTie
import Derived.Test.YtbcfddaocfpckaaGreatDoorHMo6
set_option linter.all false
section
namespace Go.Proofs.YtbcfddaocfpckaaGreatDoor
open Go.ChangeShapes Go.WideShapes Go.ChangeAt
set_option maxRecDepth 100000
theorem Zdp:(Rows.printModelsUptoRow.recurses==Tryz.pinned.checked.prog.recurses 5)=true:=by kernel_rfl
theorem Zis:(Rows.printModelsUptoRow.named==Tryz.pinned.checked.prog.varsNamed 5)=true:=by kernel_rfl
end Go.Proofs.YtbcfddaocfpckaaGreatDoor
end
