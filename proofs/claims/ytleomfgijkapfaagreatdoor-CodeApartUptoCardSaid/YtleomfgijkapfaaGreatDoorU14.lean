import Derived.Test.YtleomfgijkapfaaGreatDoorU13
set_option linter.all false
section
namespace Go.Proofs.YtleomfgijkapfaaGreatDoor
open Go Go.Proofs.YtleomfgijkapfaaGreatDoor.Abs
set_option maxRecDepth 100000
set_option maxHeartbeats 0
theorem Zqc:isR 11 [pA 3] (.int .i64 16)=true:=by kernel_rfl
end Go.Proofs.YtleomfgijkapfaaGreatDoor
end
