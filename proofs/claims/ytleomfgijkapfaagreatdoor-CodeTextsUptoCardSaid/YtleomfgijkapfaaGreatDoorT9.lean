import Derived.Deep.DeepWitnessRowRef
import Derived.Test.YtleomfgijkapfaaGreatDoorCards
import Derived.Test.YtleomfgijkapfaaGreatDoorTie
import Derived.Test.YtleomfgijkapfaaGreatDoorT8
set_option linter.all false
section
namespace Go.Proofs.YtleomfgijkapfaaGreatDoor
open Go.ChangeShapes Go.WideShapes Go.ChangeAt
set_option maxRecDepth 100000
theorem AP:(Rows.codeTextsUptoRow.recurses == Tryz.pinned.checked.prog.recurses 5)=true:=by kernel_rfl
theorem Zev:(Rows.codeTextsUptoRow.named == Tryz.pinned.checked.prog.varsNamed 5)=true:=by kernel_rfl
end Go.Proofs.YtleomfgijkapfaaGreatDoor
end
