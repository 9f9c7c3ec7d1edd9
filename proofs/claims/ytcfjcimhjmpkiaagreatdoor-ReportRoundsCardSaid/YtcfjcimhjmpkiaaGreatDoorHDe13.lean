import Derived.Test.YtcfjcimhjmpkiaaGreatDoorHDe12
set_option linter.all false
section
namespace Go.Proofs.YtcfjcimhjmpkiaaGreatDoor
open Go.ChangeShapes Go.WideShapes Go.ChangeAt
set_option maxRecDepth 100000
theorem QK:joinedFacts Tryz.pinned.checked.prog 4 Tryz.f4 (OpenSpec.ofChange Rows.reportRoundsSpec).bare Rows.reportRoundsRow=true:=by
 unfold joinedFacts
 simp only [Bool.and_eq_true]
 repeat' apply And.intro
 all_goals first | with_reducible exact Gg | with_reducible exact Ja | with_reducible exact UJ | with_reducible exact OL | kernel_rfl
end Go.Proofs.YtcfjcimhjmpkiaaGreatDoor
end
