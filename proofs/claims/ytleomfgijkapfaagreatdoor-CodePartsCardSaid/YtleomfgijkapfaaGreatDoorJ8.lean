import Derived.Test.YtleomfgijkapfaaGreatDoorJ7
set_option linter.all false
section
namespace Go.Proofs.YtleomfgijkapfaaGreatDoor
open Go.ChangeShapes Go.WideShapes Go.ChangeAt
set_option maxRecDepth 100000
theorem Sl:joinedFacts Tryz.pinned.checked.prog 3 Tryz.f3 (OpenSpec.ofChange Rows.codeChecksSpec).bare Rows.codeChecksRow=true:=by
 unfold joinedFacts
 simp only [Bool.and_eq_true]
 repeat' apply And.intro
 all_goals first | with_reducible exact ZhB | with_reducible exact Zcr | with_reducible exact ZfR | with_reducible exact ZmH | kernel_rfl
end Go.Proofs.YtleomfgijkapfaaGreatDoor
end
