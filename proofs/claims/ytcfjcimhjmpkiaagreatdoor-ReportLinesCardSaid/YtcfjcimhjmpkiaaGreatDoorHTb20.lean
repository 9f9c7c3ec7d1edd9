import Derived.Test.YtcfjcimhjmpkiaaGreatDoorHTb19
set_option linter.all false
section
namespace Go.Proofs.YtcfjcimhjmpkiaaGreatDoor
open Go Go.RowKit Go.Proofs.YtcfjcimhjmpkiaaGreatDoor.Abs
set_option maxRecDepth 100000
set_option maxHeartbeats 0
theorem P9:Nw m0 73 [pA] (.int .i64 0)=true:=by kernel_rfl
end Go.Proofs.YtcfjcimhjmpkiaaGreatDoor
end
