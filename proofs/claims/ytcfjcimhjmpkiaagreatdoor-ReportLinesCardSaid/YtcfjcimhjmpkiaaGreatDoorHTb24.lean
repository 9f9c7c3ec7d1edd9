import Derived.Test.YtcfjcimhjmpkiaaGreatDoorRows
import Derived.WalkKit
import Derived.ProofKit
import Derived.OpenShut
import Derived.Deep.DeepHandedRow
import Derived.Lib.LaidTab
import Derived.Lib.ItoaNum
import Derived.LaidSub
import Derived.Stop.LaidErr
import Derived.LaidOnce
import Derived.SizedLaws
import Derived.Test.YtcfjcimhjmpkiaaGreatDoorHTb23
set_option linter.all false
section
namespace Go.Proofs.YtcfjcimhjmpkiaaGreatDoor
open Go.Proofs.YtcfjcimhjmpkiaaGreatDoor.Abs
open Go.ChangeShapes Go.WideShapes Go.ChangeAt Go.RowKit
theorem own:ownKnob Tryz.prog.godebug=none:=by kernel_rfl
theorem gTab:Tryz.prog.globalNamed "internal/strconv.uint64pow10" = some 4:=by kernel_rfl
theorem Ph:(Tryz.prog.globals[4]?).map (·.type)=some 358:=by kernel_rfl
theorem Pg:Tryz.prog.cellsOf 358=20:=by kernel_rfl
theorem Pe:Tryz.prog.cellsOf 71=1:=by kernel_rfl
theorem Og {W:World}(h:laidMet Tryz.prog [("math/bits.deBruijn32tab",Rows.laid_math_bits_deBruijn32tab),("math/bits.deBruijn64tab",Rows.laid_math_bits_deBruijn64tab),("internal/strconv.uint64pow10",Rows.laid_internal_strconv_uint64pow10),("unicode/utf8.acceptRanges",Rows.laid_unicode_utf8_acceptRanges),("simulator/code.forms",Rows.laid_simulator_code_forms),("unicode/utf8.first",Rows.laid_unicode_utf8_first)] W):Num.Laid W :=
 ⟨Lib.tabIs_of_head (zs := Lib.pow10Tab) gTab Ph Tryz.underlying358 Tryz.underlying71 Pe Pg h.tail.tail⟩
noncomputable def PY:Nat:=(World.holding Tryz.prog default ⟨#[],#[],[]⟩).heap.size
noncomputable def laidWorld (os:Os):World :=
 let w0:=World.holding Tryz.prog os ⟨#[.cells #[.string ⟨#[]⟩,.int .i64 0,.int .i64 0,.bool false,.bool false,.bool false,.bool false,.bool false,.bool false,.string ⟨#[115,108,111,116]⟩,.int .i64 1,.int .i64 0,.bool false,.bool true,.bool false,.bool false,.bool false,.bool false,.string ⟨#[118,97,114]⟩,.int .i64 2,.int .i64 0,.bool false,.bool true,.bool false,.bool false,.bool false,.bool false,.string ⟨#[100,114,97,119]⟩,.int .i64 1,.int .i64 3,.bool false,.bool false,.bool false,.bool false,.bool true,.bool false,.string ⟨#[106,117,109,112]⟩,.int .i64 4,.int .i64 0,.bool false,.bool false,.bool false,.bool false,.bool false,.bool false,.string ⟨#[98,114,97,110,99,104]⟩,.int .i64 4,.int .i64 0,.bool false,.bool true,.bool false,.bool false,.bool false,.bool false,.string ⟨#[104,111,108,100]⟩,.int .i64 0,.int .i64 0,.bool false,.bool true,.bool false,.bool false,.bool false,.bool false,.string ⟨#[115,101,105,122,101]⟩,.int .i64 5,.int .i64 0,.bool false,.bool true,.bool true,.bool false,.bool false,.bool true,.string ⟨#[114,101,108,101,97,115,101]⟩,.int .i64 5,.int .i64 0,.bool false,.bool true,.bool false,.bool false,.bool false,.bool false,.string ⟨#[112,117,116]⟩,.int .i64 6,.int .i64 0,.bool false,.bool true,.bool false,.bool false,.bool false,.bool false,.string ⟨#[103,101,116]⟩,.int .i64 6,.int .i64 1,.bool false,.bool false,.bool false,.bool false,.bool false,.bool false,.string ⟨#[114,105,100,101]⟩,.int .i64 7,.int .i64 0,.bool false,.bool false,.bool false,.bool false,.bool false,.bool false,.string ⟨#[119,97,105,116]⟩,.int .i64 8,.int .i64 0,.bool false,.bool false,.bool false,.bool false,.bool false,.bool false,.string ⟨#[115,105,103,110,97,108]⟩,.int .i64 8,.int .i64 0,.bool false,.bool true,.bool false,.bool false,.bool false,.bool false,.string ⟨#[115,101,110,100]⟩,.int .i64 9,.int .i64 10,.bool true,.bool true,.bool false,.bool true,.bool false,.bool false,.string ⟨#[115,112,97,119,110]⟩,.int .i64 0,.int .i64 10,.bool false,.bool true,.bool false,.bool true,.bool false,.bool false,.string ⟨#[111,98,115,101,114,118,101]⟩,.int .i64 11,.int .i64 0,.bool false,.bool true,.bool false,.bool false,.bool false,.bool false,.string ⟨#[108,101,118,101,108]⟩,.int .i64 12,.int .i64 0,.bool false,.bool true,.bool false,.bool false,.bool false,.bool false,.string ⟨#[99,111,117,110,116]⟩,.int .i64 13,.int .i64 0,.bool false,.bool true,.bool false,.bool false,.bool false,.bool false,.string ⟨#[101,110,100]⟩,.int .i64 0,.int .i64 0,.bool false,.bool false,.bool false,.bool false,.bool false,.bool false] 325],#[],[]⟩
 { w0 with heap:=((((((w0.heap).modify 7 fun
   | .cells _ t frozen=>.cells #[.int .u8 0,.int .u8 1,.int .u8 28,.int .u8 2,.int .u8 29,.int .u8 14,.int .u8 24,.int .u8 3,.int .u8 30,.int .u8 22,.int .u8 20,.int .u8 15,.int .u8 25,.int .u8 17,.int .u8 4,.int .u8 8,.int .u8 31,.int .u8 27,.int .u8 13,.int .u8 23,.int .u8 21,.int .u8 19,.int .u8 16,.int .u8 7,.int .u8 26,.int .u8 12,.int .u8 18,.int .u8 6,.int .u8 11,.int .u8 5,.int .u8 10,.int .u8 9] t frozen
   | o=>o).modify 8 fun
   | .cells _ t frozen=>.cells #[.int .u8 0,.int .u8 1,.int .u8 56,.int .u8 2,.int .u8 57,.int .u8 49,.int .u8 28,.int .u8 3,.int .u8 61,.int .u8 58,.int .u8 42,.int .u8 50,.int .u8 38,.int .u8 29,.int .u8 17,.int .u8 4,.int .u8 62,.int .u8 47,.int .u8 59,.int .u8 36,.int .u8 45,.int .u8 43,.int .u8 51,.int .u8 22,.int .u8 53,.int .u8 39,.int .u8 33,.int .u8 30,.int .u8 24,.int .u8 18,.int .u8 12,.int .u8 5,.int .u8 63,.int .u8 55,.int .u8 48,.int .u8 27,.int .u8 60,.int .u8 41,.int .u8 37,.int .u8 16,.int .u8 46,.int .u8 35,.int .u8 44,.int .u8 21,.int .u8 52,.int .u8 32,.int .u8 23,.int .u8 11,.int .u8 54,.int .u8 26,.int .u8 40,.int .u8 15,.int .u8 34,.int .u8 20,.int .u8 31,.int .u8 10,.int .u8 25,.int .u8 14,.int .u8 19,.int .u8 9,.int .u8 13,.int .u8 8,.int .u8 7,.int .u8 6] t frozen
   | o=>o).modify 4 fun
   | .cells _ t frozen=>.cells #[.int .u64 1,.int .u64 10,.int .u64 100,.int .u64 1000,.int .u64 10000,.int .u64 100000,.int .u64 1000000,.int .u64 10000000,.int .u64 100000000,.int .u64 1000000000,.int .u64 10000000000,.int .u64 100000000000,.int .u64 1000000000000,.int .u64 10000000000000,.int .u64 100000000000000,.int .u64 1000000000000000,.int .u64 10000000000000000,.int .u64 100000000000000000,.int .u64 1000000000000000000,.int .u64 10000000000000000000] t frozen
   | o=>o).modify 6 fun
   | .cells _ t frozen=>.cells #[.int .u8 128,.int .u8 191,.int .u8 160,.int .u8 191,.int .u8 128,.int .u8 159,.int .u8 144,.int .u8 191,.int .u8 128,.int .u8 143,.int .u8 0,.int .u8 0,.int .u8 0,.int .u8 0,.int .u8 0,.int .u8 0,.int .u8 0,.int .u8 0,.int .u8 0,.int .u8 0,.int .u8 0,.int .u8 0,.int .u8 0,.int .u8 0,.int .u8 0,.int .u8 0,.int .u8 0,.int .u8 0,.int .u8 0,.int .u8 0,.int .u8 0,.int .u8 0] t frozen
   | o=>o).modify 3 fun
   | .cells _ t frozen=>.cells #[.slice (some ⟨PY + 0,0,none⟩) 20 20] t frozen
   | o=>o).modify 5 fun
   | .cells _ t frozen=>.cells ((Go.Pinned.utf8FirstZ.map fun (n:Nat)=>Value.int .u8 n).toArray) t frozen
   | o=>o }
theorem laid_met (os:Os)(args:Array Value):laidMet Tryz.prog [("math/bits.deBruijn32tab",Rows.laid_math_bits_deBruijn32tab),("math/bits.deBruijn64tab",Rows.laid_math_bits_deBruijn64tab),("internal/strconv.uint64pow10",Rows.laid_internal_strconv_uint64pow10),("unicode/utf8.acceptRanges",Rows.laid_unicode_utf8_acceptRanges),("simulator/code.forms",Rows.laid_simulator_code_forms),("unicode/utf8.first",Rows.laid_unicode_utf8_first)] ((laidWorld os).forCall (fun _ _=>0) ⟨#[],args,[]⟩).memory :=
 laidMet_of_run' 8 (by kernel_rfl) (by kernel_rfl)
end Go.Proofs.YtcfjcimhjmpkiaaGreatDoor
end
