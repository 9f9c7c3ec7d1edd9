/-
  The statement of ModelShrinks: for every input the law returns true, and each argument reads afterwards as it read before.
-/
import Derived.Test.YthkdlifcknpadaaGreatHSh10
import Derived.Test.YthkdlifcknpadaaGreatHSh11
import Derived.Test.YthkdlifcknpadaaGreatHSh12
import Derived.Test.YthkdlifcknpadaaGreatHSh13
import Derived.Test.YthkdlifcknpadaaGreatHSh14
import Derived.Test.YthkdlifcknpadaaGreatHSh15
import Derived.Test.YthkdlifcknpadaaGreatHSh16
import Derived.Test.YthkdlifcknpadaaGreatHSh17
import Derived.Test.YthkdlifcknpadaaGreatHSh18
import Derived.Test.YthkdlifcknpadaaGreatHSh19
import Derived.Test.YthkdlifcknpadaaGreatHSh20
import Derived.Test.YthkdlifcknpadaaGreatHSh21
import Derived.Test.YthkdlifcknpadaaGreatHSh22
import Derived.Test.YthkdlifcknpadaaGreatHSh23
import Derived.Test.YthkdlifcknpadaaGreatHSh24
set_option linter.all false
section
namespace Go.Proofs.YthkdlifcknpadaaGreat
namespace clModelShrinks
open Go.ChangeShapes Go.WideShapes Go.ChangeAt Go.RowKit
open Go.ChangeMaps (open_string shut_string)
set_option maxRecDepth 100000 in
theorem contract (H : Type) (enc : TypeId × Value → H) (W : World) (base : Nat) (args : Array Value) (ds gs : List (DataW H)) (before : List MemPlace)
  (hval : ∀ (j : Nat) t v, Tryz.f4.params[j]? = some t → args[j]? = some v → Value.okWide Tryz.prog W .any base t v)
  (hW : DataW.Whole enc Tryz.prog Tryz.f4.params.toList Rows.modelShrinksSpec.vars false W args.toList ds gs before)
  (hsz : (DataW.weightsEach Tryz.prog (Tryz.f4.params.toList ++ (OpenSpec.ofChange Rows.modelShrinksSpec).bare.plain.varTypes Tryz.prog) (ds ++ gs)).all (· ≤ reachBytes) = true) (hL : laidMetH Tryz.prog Rows.modelShrinksRow.laid W) :
  Calls Tryz.prog 4 args W fun e W' => ∃ v, e = .returned v ∧ Rows.modelShrinksSpec.post enc Tryz.prog Tryz.f4 false true false false W args v W' := by
 have hW' := hW
 obtain ⟨p, q, hA0, hV, rfl, hfz, hnd⟩ := hW
 have hA : DataW.TrodAll enc Tryz.prog W 0 (fun _ => true) true Tryz.f4.params.toList args.toList ds p := hA0
 rw [Tryz.params4] at hA hval hsz
 obtain ⟨v0, vs0, d0, ds0, p0, q0, hargs, rfl, rfl, h0, r0⟩ := trodAll_cons hA
 obtain ⟨v1, vs1, d1, ds1, p1, q1, rfl, rfl, rfl, h1, r1⟩ := trodAll_cons r0
 obtain ⟨rfl, rfl, rfl⟩ := trodAll_nil r1
 obtain rfl : args = #[v0, v1] := by cases args; simp_all
 obtain ⟨rfl, rfl⟩ := trodVars_none hV
 have g0 := Abs.sized_arg hsz (j := 0) (t := 26) rfl rfl
 obtain ⟨c0, R0, S0⟩ := Abs.argS_struct (Γ := Abs.still) (fun _ => rfl) ZmR (by kernel_rfl) Tryz.underlying26 (hval 0 26 v0 rfl rfl) h0 g0
 have F0 := fun (W' : World) (hb : Below W.heap.size W W') => Abs.arg_stays (by kernel_rfl) (by kernel_rfl) (of_decide_eq_true (by kernel_rfl)) h0 hb (fun p hp => hW'.lt p (by simp [hp]))
 obtain ⟨x1, rfl, rfl, rfl, w1⟩ := open_int Tryz.underlying5 (hval 1 5 v1 rfl rfl) h1
 have b1 : 0 ≤ x1 ∧ x1 ≤ 255 := by simpa [Lit.wf, IntKind.min, IntKind.max, IntKind.signed, IntKind.bits] using w1
 clear hA0
 simp only [List.append_nil] at hW'
 refine (Zjc S0 x1 b1 v0 W R0).mono fun e W' ⟨he, hg⟩ => ?_
 subst he
 exact ⟨_, rfl, _, _, _, [], _, [], hW', trodAll_cons_mk (shut_bool Tryz.underlying4 _) trodAll_mk0, (trodAll_cons_mk (F0 W' hg) (trodAll_cons_mk (shut_int Tryz.underlying5 w1) trodAll_mk0)), rfl, hg.frame _, fun h => by cases h⟩
theorem reads (os : Os) {H : Type} (enc : TypeId × Value → H) : ∃ places, DataW.whole enc Tryz.prog ((laidWorld os).forCall (fun _ _ => 0) ⟨#[], #[.agg #[.string ⟨#[]⟩, .slice none 0 0, .slice none 0 0, .slice none 0 0], .int .u8 0], []⟩).memory Tryz.f4.params.toList Rows.modelShrinksSpec.vars false #[(Value.agg #[.string ⟨#[]⟩, .slice none 0 0, .slice none 0 0, .slice none 0 0]), (Value.int .u8 0)].toList 8 = some ([.agg [.lit (.string []), .nil, .nil, .nil], .lit (.int .u8 0)], [], places) :=
 ⟨[], by kernel_rfl⟩
set_option maxRecDepth 100000 in
theorem lifted (os : Os) (started : os.Started) (H : Type) (enc : TypeId × Value → H) (F : Stop.Interp) :
  ReturnsInHanded {} Tryz.checked os 4 .any ((OpenSpec.ofChange Rows.modelShrinksSpec).preRow enc Tryz.prog Tryz.f4 Rows.modelShrinksRow.domain false Rows.modelShrinksRow.laid) (((OpenSpec.ofChange Rows.modelShrinksSpec).at F).post enc Tryz.prog Tryz.f4 false true false false) := by
 obtain ⟨places, hx⟩ := reads os enc
 refine returnsInHanded_of_row (C := Tryz.checked) (s := OpenSpec.ofChange Rows.modelShrinksSpec) own started (by kernel_rfl) Tryz.func4
  (witness_row_at (enc := enc) (C := Tryz.checked) false (laidWorld os) #[.agg #[.string ⟨#[]⟩, .slice none 0 0, .slice none 0 0, .slice none 0 0], .int .u8 0] rfl (by kernel_rfl) (by kernel_rfl) (by kernel_rfl)
   (OpenSpec.preRow_of_cond 8 hx (by kernel_rfl) (fun k hk => by cases hk) (by kernel_rfl) (laid_met os _))) ?_
 intro W base args ds gs before hval hW _ _ hsz hL _ _
 exact contract H enc W base args ds gs before hval hW hsz hL
theorem said : Rows.ModelShrinksSaid :=
 OpenClaim.holds_of_cond 4 Tryz.f4 rfl rfl rfl rfl rfl rfl rfl ⟨rfl, rfl, rfl, rfl, rfl⟩ rfl rfl rfl rfl rfl (by kernel_rfl) Tryz.func4 (by kernel_rfl)
  (of_decide_eq_true (by kernel_rfl)) (by unfold Func.isWrapper; first | (rw [if_pos (by decide +kernel)]; kernel_rfl) | (rw [if_neg (by decide +kernel)]; exact ⟨rfl, rfl⟩))
  (fun os started H enc _ F => by rw [OpenClaim.pre_eq_preRow]; exact lifted os started H enc F)
end clModelShrinks
end Go.Proofs.YthkdlifcknpadaaGreat
end
