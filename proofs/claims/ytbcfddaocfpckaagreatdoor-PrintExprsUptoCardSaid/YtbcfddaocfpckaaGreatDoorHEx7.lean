import Derived.Deep.DeepWitnessRowRef
import Derived.Test.YtbcfddaocfpckaaGreatDoorCards
import Derived.Test.YtbcfddaocfpckaaGreatDoorTie
import Derived.Test.YtbcfddaocfpckaaGreatDoorHEx6
set_option linter.all false
section
namespace Go.Proofs.YtbcfddaocfpckaaGreatDoor
open Go.ChangeShapes Go.WideShapes Go.ChangeAt
set_option maxRecDepth 100000
theorem O1:(Rows.printExprsUptoRow.recurses == Tryz.pinned.checked.prog.recurses 3)=true:=by kernel_rfl
theorem Dy:(Rows.printExprsUptoRow.named == Tryz.pinned.checked.prog.varsNamed 3)=true:=by kernel_rfl
end Go.Proofs.YtbcfddaocfpckaaGreatDoor
end
