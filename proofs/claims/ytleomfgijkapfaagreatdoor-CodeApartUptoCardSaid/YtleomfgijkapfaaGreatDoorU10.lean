import Derived.Test.YtleomfgijkapfaaGreatDoorU9
set_option linter.all false
section
namespace Go.Proofs.YtleomfgijkapfaaGreatDoor
open Go.ChangeShapes Go.WideShapes Go.ChangeAt
set_option maxRecDepth 100000
theorem Hu:joinedFacts Tryz.pinned.checked.prog 6 Tryz.f6 (Rows.OpenSpec.upto Rows.codeApartSpec).bare Rows.codeApartUptoRow=true:=by
 unfold joinedFacts
 simp only [Bool.and_eq_true]
 repeat' apply And.intro
 all_goals first | with_reducible exact Zdo | with_reducible exact EG | with_reducible exact ZbH | with_reducible exact Zic | kernel_rfl
end Go.Proofs.YtleomfgijkapfaaGreatDoor
end
