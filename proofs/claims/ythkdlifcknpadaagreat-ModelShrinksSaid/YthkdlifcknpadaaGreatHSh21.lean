import Derived.Test.YthkdlifcknpadaaGreatHSh20
set_option linter.all false
section
namespace Go.Proofs.YthkdlifcknpadaaGreat
open Go Go.RowKit Go.Shelf Go.Proofs.YthkdlifcknpadaaGreat.Abs
set_option maxRecDepth 100000
set_option maxHeartbeats 0
theorem ZsI:isR 7 [mC] (.int .i64 5)=true:=by kernel_rfl
theorem ZsJ:isR 7 [mD] (.int .i64 1)=true:=by kernel_rfl
end Go.Proofs.YthkdlifcknpadaaGreat
end
