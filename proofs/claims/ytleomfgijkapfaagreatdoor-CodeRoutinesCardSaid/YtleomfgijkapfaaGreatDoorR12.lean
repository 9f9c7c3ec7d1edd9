import Derived.Test.YtleomfgijkapfaaGreatDoorR11
set_option linter.all false
section
namespace Go.Proofs.YtleomfgijkapfaaGreatDoor
open Go.ChangeShapes Go.WideShapes Go.ChangeAt
set_option maxRecDepth 100000
theorem Za1:joinedFacts Tryz.pinned.checked.prog 4 Tryz.f4 (OpenSpec.ofChange Rows.codeRoutinesSpec).bare Rows.codeRoutinesRow=true:=by
 unfold joinedFacts
 simp only [Bool.and_eq_true]
 repeat' apply And.intro
 all_goals first | with_reducible exact Zri | with_reducible exact ZkR | with_reducible exact ZoA | with_reducible exact Zu0 | kernel_rfl
end Go.Proofs.YtleomfgijkapfaaGreatDoor
end
