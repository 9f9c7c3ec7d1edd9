import Derived.Test.YtgjcjbhhhlelnaaGreatDoorHCu8
set_option linter.all false
section
namespace Go.Proofs.YtgjcjbhhhlelnaaGreatDoor
open Go.ChangeShapes Go.WideShapes Go.ChangeAt
set_option maxRecDepth 100000
theorem DV:joinedFacts Tryz.pinned.checked.prog 4 Tryz.f4 (OpenSpec.ofChange Rows.partitionCutsSpec).bare Rows.partitionCutsRow=true:=by
 unfold joinedFacts
 simp only [Bool.and_eq_true]
 repeat' apply And.intro
 all_goals first | with_reducible exact Zk5 | with_reducible exact ZeP | with_reducible exact ZiE | with_reducible exact ZpX | kernel_rfl
end Go.Proofs.YtgjcjbhhhlelnaaGreatDoor
end
