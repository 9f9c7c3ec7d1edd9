import Derived.Test.YtbcfddaocfpckaaGreatDoorHMo7
set_option linter.all false
section
namespace Go.Proofs.YtbcfddaocfpckaaGreatDoor
open Go.ChangeShapes Go.WideShapes Go.ChangeAt
set_option maxRecDepth 100000
theorem IZ:joinedFacts Tryz.pinned.checked.prog 5 Tryz.f5 (Rows.OpenSpec.upto Rows.printModelsSpec).bare Rows.printModelsUptoRow=true:=by
 unfold joinedFacts
 simp only [Bool.and_eq_true]
 repeat' apply And.intro
 all_goals first|with_reducible exact ZeE|with_reducible exact Zat|with_reducible exact Zdp|with_reducible exact Zis|kernel_rfl
end Go.Proofs.YtbcfddaocfpckaaGreatDoor
end
