import Derived.Test.YtcfjcimhjmpkiaaGreatDoorHTb12
set_option linter.all false
section
namespace Go.Proofs.YtcfjcimhjmpkiaaGreatDoor
open Go.ChangeShapes Go.WideShapes Go.ChangeAt
set_option maxRecDepth 100000
theorem X5:joinedFacts Tryz.pinned.checked.prog 6 Tryz.f6 (OpenSpec.ofChange Rows.reportLinesSpec).bare Rows.reportLinesRow=true:=by
 unfold joinedFacts
 simp only [Bool.and_eq_true]
 repeat' apply And.intro
 all_goals first | with_reducible exact KA | with_reducible exact VP | with_reducible exact U9 | with_reducible exact IM | kernel_rfl
end Go.Proofs.YtcfjcimhjmpkiaaGreatDoor
end
