import Derived.Test.YthkdlifcknpadaaGreatHSh19
set_option linter.all false
section
namespace Go.Proofs.YthkdlifcknpadaaGreat
open Go Go.RowKit Go.Shelf Go.Proofs.YthkdlifcknpadaaGreat.Abs
set_option maxRecDepth 100000
set_option maxHeartbeats 0
theorem ZsG:isR 7 [mA] (.int .i64 0)=true:=by kernel_rfl
theorem ZsH:isR 7 [mB] (.int .i64 4)=true:=by kernel_rfl
end Go.Proofs.YthkdlifcknpadaaGreat
end
