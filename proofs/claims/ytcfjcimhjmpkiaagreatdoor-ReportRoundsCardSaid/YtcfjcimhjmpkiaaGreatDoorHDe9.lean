import Derived.Test.YtcfjcimhjmpkiaaGreatDoorHDe8
set_option linter.all false
section
namespace Go.Proofs.YtcfjcimhjmpkiaaGreatDoor
open Go.ChangeShapes Go.WideShapes Go.ChangeAt
set_option maxRecDepth 100000
theorem WU:joinedFacts Tryz.pinned.checked.prog 3 Tryz.f3 (OpenSpec.ofChange Rows.reportDecimalsSpec).bare Rows.reportDecimalsRow=true:=by
 unfold joinedFacts
 simp only [Bool.and_eq_true]
 repeat' apply And.intro
 all_goals first | with_reducible exact Gf | with_reducible exact VZ | with_reducible exact UI | with_reducible exact OJ | kernel_rfl
end Go.Proofs.YtcfjcimhjmpkiaaGreatDoor
end
