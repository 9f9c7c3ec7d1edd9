import Derived.Deep.DeepWitnessRowRef
import Derived.Test.YtleomfgijkapfaaGreatDoorCards
import Derived.Test.YtleomfgijkapfaaGreatDoorTie
import Derived.Test.YtleomfgijkapfaaGreatDoorJ8
set_option linter.all false
section
namespace Go.Proofs.YtleomfgijkapfaaGreatDoor
open Go.ChangeShapes Go.WideShapes Go.ChangeAt
set_option maxRecDepth 100000
theorem ZhC:(Rows.codePartsRow.inPlace == Tryz.pinned.checked.prog.inPlace 8)=true:=by kernel_rfl
theorem Zcs:(Rows.codePartsRow.unfollowed == Tryz.pinned.checked.prog.unfollowed 8)=true:=by kernel_rfl
end Go.Proofs.YtleomfgijkapfaaGreatDoor
end
