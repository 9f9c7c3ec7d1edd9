import Derived.Deep.DeepWitnessRowRef
import Derived.Test.YtleomfgijkapfaaGreatDoorCards
import Derived.Test.YtleomfgijkapfaaGreatDoorTie
import Derived.Test.YtleomfgijkapfaaGreatDoorJ9
set_option linter.all false
section
namespace Go.Proofs.YtleomfgijkapfaaGreatDoor
open Go.ChangeShapes Go.WideShapes Go.ChangeAt
set_option maxRecDepth 100000
theorem ZfS:(Rows.codePartsRow.recurses == Tryz.pinned.checked.prog.recurses 8)=true:=by kernel_rfl
theorem ZmI:(Rows.codePartsRow.named == Tryz.pinned.checked.prog.varsNamed 8)=true:=by kernel_rfl
end Go.Proofs.YtleomfgijkapfaaGreatDoor
end
