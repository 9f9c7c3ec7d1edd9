import Derived.Deep.DeepWitnessRowRef
import Derived.Test.YtleomfgijkapfaaGreatDoorCards
import Derived.Test.YtleomfgijkapfaaGreatDoorTie
import Derived.Test.YtleomfgijkapfaaGreatDoorJ5
set_option linter.all false
section
namespace Go.Proofs.YtleomfgijkapfaaGreatDoor
open Go.ChangeShapes Go.WideShapes Go.ChangeAt
set_option maxRecDepth 100000
theorem ZhB:(Rows.codeChecksRow.inPlace == Tryz.pinned.checked.prog.inPlace 3)=true:=by kernel_rfl
theorem Zcr:(Rows.codeChecksRow.unfollowed == Tryz.pinned.checked.prog.unfollowed 3)=true:=by kernel_rfl
end Go.Proofs.YtleomfgijkapfaaGreatDoor
end
