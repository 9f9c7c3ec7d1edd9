import Derived.Test.YtbcfddaocfpckaaGreatDoorHEx7
set_option linter.all false
section
namespace Go.Proofs.YtbcfddaocfpckaaGreatDoor
open Go.ChangeShapes Go.WideShapes Go.ChangeAt
set_option maxRecDepth 100000
theorem X0:joinedFacts Tryz.pinned.checked.prog 3 Tryz.f3 (Rows.OpenSpec.upto Rows.printExprsSpec).bare Rows.printExprsUptoRow=true:=by
 unfold joinedFacts
 simp only [Bool.and_eq_true]
 repeat' apply And.intro
 all_goals first | with_reducible exact Mc | with_reducible exact Gy | with_reducible exact O1 | with_reducible exact Dy | kernel_rfl
end Go.Proofs.YtbcfddaocfpckaaGreatDoor
end
