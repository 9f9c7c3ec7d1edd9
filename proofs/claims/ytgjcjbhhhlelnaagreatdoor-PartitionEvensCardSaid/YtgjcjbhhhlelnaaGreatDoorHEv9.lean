import Derived.Test.YtgjcjbhhhlelnaaGreatDoorHEv8
set_option linter.all false
section
namespace Go.Proofs.YtgjcjbhhhlelnaaGreatDoor
open Go.ChangeShapes Go.WideShapes Go.ChangeAt
set_option maxRecDepth 100000
theorem LK:joinedFacts Tryz.pinned.checked.prog 6 Tryz.f6 (OpenSpec.ofChange Rows.partitionEvensSpec).bare Rows.partitionEvensRow=true:=by
 unfold joinedFacts
 simp only [Bool.and_eq_true]
 repeat' apply And.intro
 all_goals first | with_reducible exact Zi9 | with_reducible exact Zds | with_reducible exact ZgO | with_reducible exact ZnQ | kernel_rfl
end Go.Proofs.YtgjcjbhhhlelnaaGreatDoor
end
