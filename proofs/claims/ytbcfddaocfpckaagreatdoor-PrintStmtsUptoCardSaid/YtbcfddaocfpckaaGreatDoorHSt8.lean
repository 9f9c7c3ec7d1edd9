import Derived.Test.YtbcfddaocfpckaaGreatDoorHSt7
set_option linter.all false
section
namespace Go.Proofs.YtbcfddaocfpckaaGreatDoor
open Go.ChangeShapes Go.WideShapes Go.ChangeAt
set_option maxRecDepth 100000
theorem Jr:joinedFacts Tryz.pinned.checked.prog 4 Tryz.f4 (Rows.OpenSpec.upto Rows.printStmtsSpec).bare Rows.printStmtsUptoRow=true:=by
 unfold joinedFacts
 simp only [Bool.and_eq_true]
 repeat' apply And.intro
 all_goals first | with_reducible exact Su | with_reducible exact Lh | with_reducible exact PD | with_reducible exact ZaE | kernel_rfl
end Go.Proofs.YtbcfddaocfpckaaGreatDoor
end
