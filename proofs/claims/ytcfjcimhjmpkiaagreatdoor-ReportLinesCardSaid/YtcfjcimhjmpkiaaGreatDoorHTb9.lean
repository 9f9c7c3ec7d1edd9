import Derived.Test.YtcfjcimhjmpkiaaGreatDoorHTb8
set_option linter.all false
section
namespace Go.Proofs.YtcfjcimhjmpkiaaGreatDoor
open Go.ChangeShapes Go.WideShapes Go.ChangeAt
set_option maxRecDepth 100000
theorem QY:joinedFacts Tryz.pinned.checked.prog 5 Tryz.f5 (OpenSpec.ofChange Rows.reportTablesSpec).bare Rows.reportTablesRow=true:=by
 unfold joinedFacts
 simp only [Bool.and_eq_true]
 repeat' apply And.intro
 all_goals first | with_reducible exact KC | with_reducible exact VQ | with_reducible exact UA | with_reducible exact IP | kernel_rfl
end Go.Proofs.YtcfjcimhjmpkiaaGreatDoor
end
