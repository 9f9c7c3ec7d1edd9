import Derived.Test.YtgjcjbhhhlelnaaGreatDoorHWa8
set_option linter.all false
section
namespace Go.Proofs.YtgjcjbhhhlelnaaGreatDoor
open Go.ChangeShapes Go.WideShapes Go.ChangeAt
set_option maxRecDepth 100000
theorem Dw:joinedFacts Tryz.pinned.checked.prog 8 Tryz.f8 (OpenSpec.ofChange Rows.partitionWaysSpec).bare Rows.partitionWaysRow=true:=by
 unfold joinedFacts
 simp only [Bool.and_eq_true]
 repeat' apply And.intro
 all_goals first | with_reducible exact Zjg | with_reducible exact ZdC | with_reducible exact Zhi | with_reducible exact Zo5 | kernel_rfl
end Go.Proofs.YtgjcjbhhhlelnaaGreatDoor
end
