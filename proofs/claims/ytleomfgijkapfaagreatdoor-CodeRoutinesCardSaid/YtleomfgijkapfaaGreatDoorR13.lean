import Derived.Test.YtleomfgijkapfaaGreatDoorRows
import Derived.WalkKit
import Derived.ProofKit
import Derived.OpenShut
import Derived.Deep.DeepHandedRow
import Derived.LaidSub
import Derived.Stop.LaidErr
import Derived.LaidOnce
import Derived.SizedLaws
import Derived.Deep.DeepWitnessRowRef
import Derived.Test.YtleomfgijkapfaaGreatDoorCards
import Derived.Test.YtleomfgijkapfaaGreatDoorTie
import Derived.Test.YtleomfgijkapfaaGreatDoorR12
set_option linter.all false
section
namespace Go.Proofs.YtleomfgijkapfaaGreatDoor
open Go.ChangeShapes Go.WideShapes Go.ChangeAt Go.RowKit
theorem own : ownKnob Tryz.prog.godebug = none := by kernel_rfl
theorem laid_of {W : World} (h : laidMet Tryz.prog [("math/bits.deBruijn32tab", Rows.laid_math_bits_deBruijn32tab), ("math/bits.deBruijn64tab", Rows.laid_math_bits_deBruijn64tab), ("internal/strconv.uint64pow10", Rows.laid_internal_strconv_uint64pow10), ("simulator/code.forms", Rows.laid_simulator_code_forms)] W) : Abs.GOk GF W := Zu3 h.tail.tail.tail
noncomputable def lowB : Nat := (World.holding Tryz.prog default ⟨#[], #[], []⟩).heap.size
noncomputable def laidWorld (os : Os) : World :=
 let w0 := World.holding Tryz.prog os ⟨#[.cells #[.string ⟨#[]⟩, .int .i64 0, .int .i64 0, .bool false, .bool false, .bool false, .bool false, .bool false, .bool false, .string ⟨#[115, 108, 111, 116]⟩, .int .i64 1, .int .i64 0, .bool false, .bool true, .bool false, .bool false, .bool false, .bool false, .string ⟨#[118, 97, 114]⟩, .int .i64 2, .int .i64 0, .bool false, .bool true, .bool false, .bool false, .bool false, .bool false, .string ⟨#[100, 114, 97, 119]⟩, .int .i64 1, .int .i64 3, .bool false, .bool false, .bool false, .bool false, .bool true, .bool false, .string ⟨#[106, 117, 109, 112]⟩, .int .i64 4, .int .i64 0, .bool false, .bool false, .bool false, .bool false, .bool false, .bool false, .string ⟨#[98, 114, 97, 110, 99, 104]⟩, .int .i64 4, .int .i64 0, .bool false, .bool true, .bool false, .bool false, .bool false, .bool false, .string ⟨#[104, 111, 108, 100]⟩, .int .i64 0, .int .i64 0, .bool false, .bool true, .bool false, .bool false, .bool false, .bool false, .string ⟨#[115, 101, 105, 122, 101]⟩, .int .i64 5, .int .i64 0, .bool false, .bool true, .bool true, .bool false, .bool false, .bool true, .string ⟨#[114, 101, 108, 101, 97, 115, 101]⟩, .int .i64 5, .int .i64 0, .bool false, .bool true, .bool false, .bool false, .bool false, .bool false, .string ⟨#[112, 117, 116]⟩, .int .i64 6, .int .i64 0, .bool false, .bool true, .bool false, .bool false, .bool false, .bool false, .string ⟨#[103, 101, 116]⟩, .int .i64 6, .int .i64 1, .bool false, .bool false, .bool false, .bool false, .bool false, .bool false, .string ⟨#[114, 105, 100, 101]⟩, .int .i64 7, .int .i64 0, .bool false, .bool false, .bool false, .bool false, .bool false, .bool false, .string ⟨#[119, 97, 105, 116]⟩, .int .i64 8, .int .i64 0, .bool false, .bool false, .bool false, .bool false, .bool false, .bool false, .string ⟨#[115, 105, 103, 110, 97, 108]⟩, .int .i64 8, .int .i64 0, .bool false, .bool true, .bool false, .bool false, .bool false, .bool false, .string ⟨#[115, 101, 110, 100]⟩, .int .i64 9, .int .i64 10, .bool true, .bool true, .bool false, .bool true, .bool false, .bool false, .string ⟨#[115, 112, 97, 119, 110]⟩, .int .i64 0, .int .i64 10, .bool false, .bool true, .bool false, .bool true, .bool false, .bool false, .string ⟨#[111, 98, 115, 101, 114, 118, 101]⟩, .int .i64 11, .int .i64 0, .bool false, .bool true, .bool false, .bool false, .bool false, .bool false, .string ⟨#[108, 101, 118, 101, 108]⟩, .int .i64 12, .int .i64 0, .bool false, .bool true, .bool false, .bool false, .bool false, .bool false, .string ⟨#[99, 111, 117, 110, 116]⟩, .int .i64 13, .int .i64 0, .bool false, .bool true, .bool false, .bool false, .bool false, .bool false, .string ⟨#[101, 110, 100]⟩, .int .i64 0, .int .i64 0, .bool false, .bool false, .bool false, .bool false, .bool false, .bool false] 97], #[], []⟩
 { w0 with heap := ((((w0.heap).modify 3 fun
   | .cells _ t frozen => .cells #[.int .u8 0, .int .u8 1, .int .u8 28, .int .u8 2, .int .u8 29, .int .u8 14, .int .u8 24, .int .u8 3, .int .u8 30, .int .u8 22, .int .u8 20, .int .u8 15, .int .u8 25, .int .u8 17, .int .u8 4, .int .u8 8, .int .u8 31, .int .u8 27, .int .u8 13, .int .u8 23, .int .u8 21, .int .u8 19, .int .u8 16, .int .u8 7, .int .u8 26, .int .u8 12, .int .u8 18, .int .u8 6, .int .u8 11, .int .u8 5, .int .u8 10, .int .u8 9] t frozen
   | o => o).modify 4 fun
   | .cells _ t frozen => .cells #[.int .u8 0, .int .u8 1, .int .u8 56, .int .u8 2, .int .u8 57, .int .u8 49, .int .u8 28, .int .u8 3, .int .u8 61, .int .u8 58, .int .u8 42, .int .u8 50, .int .u8 38, .int .u8 29, .int .u8 17, .int .u8 4, .int .u8 62, .int .u8 47, .int .u8 59, .int .u8 36, .int .u8 45, .int .u8 43, .int .u8 51, .int .u8 22, .int .u8 53, .int .u8 39, .int .u8 33, .int .u8 30, .int .u8 24, .int .u8 18, .int .u8 12, .int .u8 5, .int .u8 63, .int .u8 55, .int .u8 48, .int .u8 27, .int .u8 60, .int .u8 41, .int .u8 37, .int .u8 16, .int .u8 46, .int .u8 35, .int .u8 44, .int .u8 21, .int .u8 52, .int .u8 32, .int .u8 23, .int .u8 11, .int .u8 54, .int .u8 26, .int .u8 40, .int .u8 15, .int .u8 34, .int .u8 20, .int .u8 31, .int .u8 10, .int .u8 25, .int .u8 14, .int .u8 19, .int .u8 9, .int .u8 13, .int .u8 8, .int .u8 7, .int .u8 6] t frozen
   | o => o).modify 2 fun
   | .cells _ t frozen => .cells #[.int .u64 1, .int .u64 10, .int .u64 100, .int .u64 1000, .int .u64 10000, .int .u64 100000, .int .u64 1000000, .int .u64 10000000, .int .u64 100000000, .int .u64 1000000000, .int .u64 10000000000, .int .u64 100000000000, .int .u64 1000000000000, .int .u64 10000000000000, .int .u64 100000000000000, .int .u64 1000000000000000, .int .u64 10000000000000000, .int .u64 100000000000000000, .int .u64 1000000000000000000, .int .u64 10000000000000000000] t frozen
   | o => o).modify 0 fun
   | .cells _ t frozen => .cells #[.slice (some ⟨lowB + 0, 0, none⟩) 20 20] t frozen
   | o => o }
theorem laid_met (os : Os) (args : Array Value) : laidMet Tryz.prog [("math/bits.deBruijn32tab", Rows.laid_math_bits_deBruijn32tab), ("math/bits.deBruijn64tab", Rows.laid_math_bits_deBruijn64tab), ("internal/strconv.uint64pow10", Rows.laid_internal_strconv_uint64pow10), ("simulator/code.forms", Rows.laid_simulator_code_forms)] ((laidWorld os).forCall (fun _ _ => 0) ⟨#[], args, []⟩).memory :=
 laidMet_of_run' 8 (by kernel_rfl) (by kernel_rfl)
end Go.Proofs.YtleomfgijkapfaaGreatDoor
end
section
namespace Go.Proofs.YtleomfgijkapfaaGreatDoor
namespace clCodeRoutines
open Go.ChangeShapes Go.WideShapes Go.ChangeAt Go.RowKit
open Go.ChangeMaps (open_string shut_string)
set_option maxRecDepth 100000 in
theorem contract (H : Type) (enc : TypeId × Value → H) (W : World) (base : Nat) (args : Array Value) (ds gs : List (DataW H)) (before : List MemPlace)
  (hval : ∀ (j : Nat) t v, Tryz.f4.params[j]? = some t → args[j]? = some v → Value.okWide Tryz.prog W .any base t v)
  (hW : DataW.Whole enc Tryz.prog Tryz.f4.params.toList Rows.codeRoutinesSpec.vars false W args.toList ds gs before)
  (hsz : (DataW.weightsEach Tryz.prog (Tryz.f4.params.toList ++ (OpenSpec.ofChange Rows.codeRoutinesSpec).bare.plain.varTypes Tryz.prog) (ds ++ gs)).all (· ≤ reachBytes) = true) (hL : laidMetH Tryz.prog Rows.codeRoutinesRow.laid W) :
  Calls Tryz.prog 4 args W fun e W' => ∃ v, e = .returned v ∧ Rows.codeRoutinesSpec.post enc Tryz.prog Tryz.f4 false true false false W args v W' := by
 have hW' := hW
 obtain ⟨p, q, hA0, hV, rfl, hfz, hnd⟩ := hW
 have hA : DataW.TrodAll enc Tryz.prog W 0 (fun _ => true) true Tryz.f4.params.toList args.toList ds p := hA0
 rw [Tryz.params4] at hA hval hsz
 obtain ⟨v0, vs0, d0, ds0, p0, q0, hargs, rfl, rfl, h0, r0⟩ := trodAll_cons hA
 obtain ⟨v1, vs1, d1, ds1, p1, q1, rfl, rfl, rfl, h1, r1⟩ := trodAll_cons r0
 obtain ⟨v2, vs2, d2, ds2, p2, q2, rfl, rfl, rfl, h2, r2⟩ := trodAll_cons r1
 obtain ⟨rfl, rfl, rfl⟩ := trodAll_nil r2
 obtain rfl : args = #[v0, v1, v2] := by cases args; simp_all
 obtain ⟨rfl, rfl⟩ := trodVars_none hV
 have g0 := Abs.sized_arg hsz (j := 0) (t := 25) rfl rfl
 obtain ⟨c0, R0, S0⟩ := Abs.argS_struct (Γ := Abs.still) (fun _ => rfl) Zqw (by kernel_rfl) Tryz.underlying25 (hval 0 25 v0 rfl rfl) h0 g0
 have F0 := fun (W' : World) (hb : Below W.heap.size W W') => Abs.arg_stays (by kernel_rfl) (by kernel_rfl) (of_decide_eq_true (by kernel_rfl)) h0 hb (fun p hp => hW'.lt p (by simp [hp]))
 obtain ⟨x1, rfl, rfl, rfl, w1⟩ := open_int Tryz.underlying3 (hval 1 3 v1 rfl rfl) h1
 have b1 : -9223372036854775808 ≤ x1 ∧ x1 ≤ 9223372036854775807 := by simpa [Lit.wf, IntKind.min, IntKind.max, IntKind.signed, IntKind.bits] using w1
 have g2 := Abs.sized_arg hsz (j := 2) (t := 32) rfl rfl
 obtain ⟨c2, R2, S2⟩ := Abs.argS_struct (Γ := Abs.still) (fun _ => rfl) Zqw (by kernel_rfl) Tryz.underlying32 (hval 2 32 v2 rfl rfl) h2 g2
 have F2 := fun (W' : World) (hb : Below W.heap.size W W') => Abs.arg_stays (by kernel_rfl) (by kernel_rfl) (of_decide_eq_true (by kernel_rfl)) h2 hb (fun p hp => hW'.lt p (by simp [hp]))
 clear hA0
 simp only [List.append_nil] at hW'
 refine (ZqR S0 S2 x1 b1 v0 v2 W (laid_of hL) R0 R2).mono fun e W' ⟨he, hg⟩ => ?_
 subst he
 exact ⟨_, rfl, _, _, _, [], _, [], hW', trodAll_cons_mk (shut_bool Tryz.underlying4 _) trodAll_mk0, (trodAll_cons_mk (F0 W' hg) (trodAll_cons_mk (shut_int Tryz.underlying3 w1) (trodAll_cons_mk (F2 W' hg) trodAll_mk0))), rfl, hg.frame _, fun h => by cases h⟩
theorem reads (os : Os) {H : Type} (enc : TypeId × Value → H) : ∃ places, DataW.whole enc Tryz.prog ((laidWorld os).forCall (fun _ _ => 0) ⟨#[], #[.agg #[.string ⟨#[]⟩, .slice none 0 0, .slice none 0 0], .int .i64 0, .agg #[.string ⟨#[]⟩, .int .i64 0, .int .i64 0, .slice none 0 0]], []⟩).memory Tryz.f4.params.toList Rows.codeRoutinesSpec.vars false #[(Value.agg #[.string ⟨#[]⟩, .slice none 0 0, .slice none 0 0]), (Value.int .i64 0), (Value.agg #[.string ⟨#[]⟩, .int .i64 0, .int .i64 0, .slice none 0 0])].toList 8 = some ([.agg [.lit (.string []), .nil, .nil], .lit (.int .i64 0), .agg [.lit (.string []), .lit (.int .i64 0), .lit (.int .i64 0), .nil]], [], places) :=
 ⟨[], by kernel_rfl⟩
set_option maxRecDepth 100000 in
theorem lifted (os : Os) (started : os.Started) (H : Type) (enc : TypeId × Value → H) (F : Stop.Interp) :
  ReturnsInHanded {} Tryz.checked os 4 .any ((OpenSpec.ofChange Rows.codeRoutinesSpec).preRow enc Tryz.prog Tryz.f4 Rows.codeRoutinesRow.domain false Rows.codeRoutinesRow.laid) (((OpenSpec.ofChange Rows.codeRoutinesSpec).at F).post enc Tryz.prog Tryz.f4 false true false false) := by
 obtain ⟨places, hx⟩ := reads os enc
 refine returnsInHanded_of_row (C := Tryz.checked) (s := OpenSpec.ofChange Rows.codeRoutinesSpec) own started (by kernel_rfl) Tryz.func4
  (witness_row_atRef (enc := enc) (C := Tryz.checked) false (laidWorld os) #[.agg #[.string ⟨#[]⟩, .slice none 0 0, .slice none 0 0], .int .i64 0, .agg #[.string ⟨#[]⟩, .int .i64 0, .int .i64 0, .slice none 0 0]] rfl (by kernel_rfl) (by kernel_rfl) (by kernel_rfl)
   (OpenSpec.preRow_of_cond 8 hx (by kernel_rfl) (fun k hk => by cases hk) (by kernel_rfl) (laid_met os _))) ?_
 intro W base args ds gs before hval hW _ _ hsz hL _ _
 exact contract H enc W base args ds gs before hval hW hsz hL
theorem said : Rows.CodeRoutinesSaid :=
 OpenClaim.holds_of_cond 4 Tryz.f4 rfl rfl rfl rfl rfl rfl rfl ⟨rfl, rfl, rfl, rfl, rfl⟩ rfl rfl rfl rfl rfl (by kernel_rfl) Tryz.func4 Za1
  (of_decide_eq_true (by kernel_rfl)) (by unfold Func.isWrapper; first | (rw [if_pos (by decide +kernel)]; kernel_rfl) | (rw [if_neg (by decide +kernel)]; exact ⟨rfl, rfl⟩))
  (fun os started H enc _ F => by rw [OpenClaim.pre_eq_preRow]; exact lifted os started H enc F)
theorem plain (f : FuncId) (fn : Func) (hf : Tryz.pinned.checked.prog.funcNamed Rows.codeRoutinesRow.func = some f) (hfn : Tryz.pinned.checked.prog.funcs[f]? = some fn) :
  false = Tryz.pinned.checked.prog.looks [] ∧ ∀ (j : Nat) t, fn.params[j]? = some t → Tryz.pinned.checked.prog.wantsStandIn t = false := by
 obtain rfl : f = 4 := Option.some.inj ((show Tryz.prog.funcNamed Rows.codeRoutinesRow.func = some 4 by kernel_rfl).symm.trans hf) |>.symm
 obtain rfl : fn = Tryz.f4 := (Option.some.inj (Tryz.func4.symm.trans hfn)).symm
 refine ⟨by kernel_rfl, fun j t ht => ?_⟩
 rw [Tryz.params4] at ht
 have ht' := Array.mem_of_getElem? ht
 simp only [List.mem_toArray, List.mem_cons, List.not_mem_nil, or_false] at ht'
 rcases ht' with rfl | rfl | rfl
 ·exact (show Tryz.prog.wantsStandIn 25 = false by kernel_rfl)
 ·exact (show Tryz.prog.wantsStandIn 3 = false by kernel_rfl)
 ·exact (show Tryz.prog.wantsStandIn 32 = false by kernel_rfl)
theorem card : Rows.CodeRoutinesCardSaid :=
 Claim7.holds_tied_plain_at .later [] _ _ _ _ said (fun _ h => by cases h) (by kernel_rfl) (fun _ h => by cases h) codeRoutines_row_tie rfl ⟨rfl, rfl⟩ (by kernel_rfl) rfl plain (by kernel_rfl)
end clCodeRoutines
end Go.Proofs.YtleomfgijkapfaaGreatDoor
end
