import Derived.Test.YtleomfgijkapfaaGreatDoorT9
set_option linter.all false
section
namespace Go.Proofs.YtleomfgijkapfaaGreatDoor
open Go.ChangeShapes Go.WideShapes Go.ChangeAt
set_option maxRecDepth 100000
theorem Uo:joinedFacts Tryz.pinned.checked.prog 5 Tryz.f5 (Rows.OpenSpec.upto Rows.codeTextsSpec).bare Rows.codeTextsUptoRow=true:=by
 unfold joinedFacts
 simp only [Bool.and_eq_true]
 repeat' apply And.intro
 all_goals first | with_reducible exact Za3 | with_reducible exact Dj | with_reducible exact AP | with_reducible exact Zev | kernel_rfl
end Go.Proofs.YtleomfgijkapfaaGreatDoor
end
