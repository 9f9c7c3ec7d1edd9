import Derived.Test.YtgjcjbhhhlelnaaGreatDoorHAh8
set_option linter.all false
section
namespace Go.Proofs.YtgjcjbhhhlelnaaGreatDoor
open Go.ChangeShapes Go.WideShapes Go.ChangeAt
set_option maxRecDepth 100000
theorem BF:joinedFacts Tryz.pinned.checked.prog 7 Tryz.f7 (OpenSpec.ofChange Rows.partitionAheadSpec).bare Rows.partitionAheadRow=true:=by
 unfold joinedFacts
 simp only [Bool.and_eq_true]
 repeat' apply And.intro
 all_goals first | with_reducible exact Zlk | with_reducible exact Zfy | with_reducible exact Zjl | with_reducible exact ZqK | kernel_rfl
end Go.Proofs.YtgjcjbhhhlelnaaGreatDoor
end
