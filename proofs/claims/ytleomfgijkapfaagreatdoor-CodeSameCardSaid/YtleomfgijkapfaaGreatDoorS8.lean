import Derived.Test.YtleomfgijkapfaaGreatDoorS7
set_option linter.all false
section
namespace Go.Proofs.YtleomfgijkapfaaGreatDoor
open Go.ChangeShapes Go.WideShapes Go.ChangeAt
set_option maxRecDepth 100000
theorem ZcZ:joinedFacts Tryz.pinned.checked.prog 7 Tryz.f7 (OpenSpec.ofChange Rows.codeSameSpec).bare Rows.codeSameRow=true:=by
 unfold joinedFacts
 simp only [Bool.and_eq_true]
 repeat' apply And.intro
 all_goals first | with_reducible exact Zkq | with_reducible exact ZeL | with_reducible exact Zi1 | with_reducible exact Zp5 | kernel_rfl
end Go.Proofs.YtleomfgijkapfaaGreatDoor
end
