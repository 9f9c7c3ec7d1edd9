import Derived.Test.YthkdlifcknpadaaGreatHSh21
set_option linter.all false
section
namespace Go.Proofs.YthkdlifcknpadaaGreat
open Go Go.RowKit Go.Shelf Go.Proofs.YthkdlifcknpadaaGreat.Abs
set_option maxRecDepth 100000
set_option maxHeartbeats 0
theorem ZsK:isR 16 [mA,mA] (.bool true)=true:=by kernel_rfl
theorem ZsL:isR 16 [mA,mB] (.bool false)=true:=by kernel_rfl
end Go.Proofs.YthkdlifcknpadaaGreat
end
