import Derived.Test.YtleomfgijkapfaaGreatDoorJ10
set_option linter.all false
section
namespace Go.Proofs.YtleomfgijkapfaaGreatDoor
open Go.ChangeShapes Go.WideShapes Go.ChangeAt
set_option maxRecDepth 100000
theorem Fe:joinedFacts Tryz.pinned.checked.prog 8 Tryz.f8 (OpenSpec.ofChange Rows.codePartsSpec).bare Rows.codePartsRow=true:=by
 unfold joinedFacts
 simp only [Bool.and_eq_true]
 repeat' apply And.intro
 all_goals first | with_reducible exact ZhC | with_reducible exact Zcs | with_reducible exact ZfS | with_reducible exact ZmI | kernel_rfl
end Go.Proofs.YtleomfgijkapfaaGreatDoor
end
