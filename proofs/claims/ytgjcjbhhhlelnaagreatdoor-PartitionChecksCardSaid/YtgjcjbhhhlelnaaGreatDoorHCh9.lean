import Derived.Test.YtgjcjbhhhlelnaaGreatDoorHCh8
set_option linter.all false
section
namespace Go.Proofs.YtgjcjbhhhlelnaaGreatDoor
open Go.ChangeShapes Go.WideShapes Go.ChangeAt
set_option maxRecDepth 100000
theorem LK:joinedFacts Tryz.pinned.checked.prog 3 Tryz.f3 (OpenSpec.ofChange Rows.partitionChecksSpec).bare Rows.partitionChecksRow=true:=by
 unfold joinedFacts
 simp only [Bool.and_eq_true]
 repeat' apply And.intro
 all_goals first | with_reducible exact Zkx | with_reducible exact ZeI | with_reducible exact Zi5 | with_reducible exact ZpP | kernel_rfl
end Go.Proofs.YtgjcjbhhhlelnaaGreatDoor
end
