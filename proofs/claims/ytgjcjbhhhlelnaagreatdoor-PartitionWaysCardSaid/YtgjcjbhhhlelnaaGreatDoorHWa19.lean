import Derived.Test.YtgjcjbhhhlelnaaGreatDoorRows
import Derived.WalkKit
import Derived.ProofKit
import Derived.OpenShut
import Derived.Deep.DeepHandedRow
import Derived.LaidSub
import Derived.LaidOnce
import Derived.SizedLaws
import Derived.Test.YtgjcjbhhhlelnaaGreatDoorHWa18
set_option linter.all false
section
namespace Go.Proofs.YtgjcjbhhhlelnaaGreatDoor
open Go.ChangeShapes Go.WideShapes Go.ChangeAt Go.RowKit
theorem own : ownKnob Tryz.prog.godebug = none := by kernel_rfl
theorem laid_of {W : World} (h : laidMet Tryz.prog [("simulator/code.forms", Rows.laid_simulator_code_forms)] W) : Abs.GOk GF W := Zrh h
noncomputable def lowB : Nat := (World.holding Tryz.prog default ⟨#[], #[], []⟩).heap.size
noncomputable def laidWorld (os : Os) : World :=
 let w0 := World.holding Tryz.prog os ⟨#[.cells #[.string ⟨#[]⟩, .int .i64 0, .int .i64 0, .bool false, .bool false, .bool false, .bool false, .bool false, .bool false, .string ⟨#[115, 108, 111, 116]⟩, .int .i64 1, .int .i64 0, .bool false, .bool true, .bool false, .bool false, .bool false, .bool false, .string ⟨#[118, 97, 114]⟩, .int .i64 2, .int .i64 0, .bool false, .bool true, .bool false, .bool false, .bool false, .bool false, .string ⟨#[100, 114, 97, 119]⟩, .int .i64 1, .int .i64 3, .bool false, .bool false, .bool false, .bool false, .bool true, .bool false, .string ⟨#[106, 117, 109, 112]⟩, .int .i64 4, .int .i64 0, .bool false, .bool false, .bool false, .bool false, .bool false, .bool false, .string ⟨#[98, 114, 97, 110, 99, 104]⟩, .int .i64 4, .int .i64 0, .bool false, .bool true, .bool false, .bool false, .bool false, .bool false, .string ⟨#[104, 111, 108, 100]⟩, .int .i64 0, .int .i64 0, .bool false, .bool true, .bool false, .bool false, .bool false, .bool false, .string ⟨#[115, 101, 105, 122, 101]⟩, .int .i64 5, .int .i64 0, .bool false, .bool true, .bool true, .bool false, .bool false, .bool true, .string ⟨#[114, 101, 108, 101, 97, 115, 101]⟩, .int .i64 5, .int .i64 0, .bool false, .bool true, .bool false, .bool false, .bool false, .bool false, .string ⟨#[112, 117, 116]⟩, .int .i64 6, .int .i64 0, .bool false, .bool true, .bool false, .bool false, .bool false, .bool false, .string ⟨#[103, 101, 116]⟩, .int .i64 6, .int .i64 1, .bool false, .bool false, .bool false, .bool false, .bool false, .bool false, .string ⟨#[114, 105, 100, 101]⟩, .int .i64 7, .int .i64 0, .bool false, .bool false, .bool false, .bool false, .bool false, .bool false, .string ⟨#[119, 97, 105, 116]⟩, .int .i64 8, .int .i64 0, .bool false, .bool false, .bool false, .bool false, .bool false, .bool false, .string ⟨#[115, 105, 103, 110, 97, 108]⟩, .int .i64 8, .int .i64 0, .bool false, .bool true, .bool false, .bool false, .bool false, .bool false, .string ⟨#[115, 101, 110, 100]⟩, .int .i64 9, .int .i64 10, .bool true, .bool true, .bool false, .bool true, .bool false, .bool false, .string ⟨#[115, 112, 97, 119, 110]⟩, .int .i64 0, .int .i64 10, .bool false, .bool true, .bool false, .bool true, .bool false, .bool false, .string ⟨#[111, 98, 115, 101, 114, 118, 101]⟩, .int .i64 11, .int .i64 0, .bool false, .bool true, .bool false, .bool false, .bool false, .bool false, .string ⟨#[108, 101, 118, 101, 108]⟩, .int .i64 12, .int .i64 0, .bool false, .bool true, .bool false, .bool false, .bool false, .bool false, .string ⟨#[99, 111, 117, 110, 116]⟩, .int .i64 13, .int .i64 0, .bool false, .bool true, .bool false, .bool false, .bool false, .bool false, .string ⟨#[101, 110, 100]⟩, .int .i64 0, .int .i64 0, .bool false, .bool false, .bool false, .bool false, .bool false, .bool false] 167], #[], []⟩
 { w0 with heap := (w0.heap).modify 0 fun
   | .cells _ t frozen => .cells #[.slice (some ⟨lowB + 0, 0, none⟩) 20 20] t frozen
   | o => o }
theorem laid_met (os : Os) (args : Array Value) : laidMet Tryz.prog [("simulator/code.forms", Rows.laid_simulator_code_forms)] ((laidWorld os).forCall (fun _ _ => 0) ⟨#[], args, []⟩).memory :=
 laidMet_of_run' 8 (by kernel_rfl) (by kernel_rfl)
end Go.Proofs.YtgjcjbhhhlelnaaGreatDoor
end
