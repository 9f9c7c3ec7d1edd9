import Derived.Test.YtleomfgijkapfaaGreatDoorU12
set_option linter.all false
section
namespace Go.Proofs.YtleomfgijkapfaaGreatDoor
open Go Go.Proofs.YtleomfgijkapfaaGreatDoor.Abs
set_option maxRecDepth 100000
set_option maxHeartbeats 0
theorem Zqb:isR 11 [pA 4] (.int .i64 0)=true:=by kernel_rfl
end Go.Proofs.YtleomfgijkapfaaGreatDoor
end
