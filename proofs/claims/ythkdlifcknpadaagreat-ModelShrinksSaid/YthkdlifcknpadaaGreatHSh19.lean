import Derived.Test.YthkdlifcknpadaaGreatHSh18
set_option linter.all false
section
namespace Go.Proofs.YthkdlifcknpadaaGreat
open Go Go.RowKit Go.Shelf Go.Proofs.YthkdlifcknpadaaGreat.Abs
set_option maxRecDepth 100000
set_option maxHeartbeats 0
theorem Zql:isT (Aj CM [7,11,12,13,14,15,16] 20 Zu2 [] [])=true:=by kernel_rfl
end Go.Proofs.YthkdlifcknpadaaGreat
end
