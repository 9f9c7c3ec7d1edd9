/-
  The chapter's worked examples, run by the kernel.
-/
import Derived.Test.YtgjcjbhhhlelnaaGreatDoorTWB
import Derived.Test.YtgjcjbhhhlelnaaGreatDoorGE
namespace Go.Proofs.YtgjcjbhhhlelnaaGreatDoor
open Go Go.RowKit Go.Proofs.YtgjcjbhhhlelnaaGreatDoor.Abs
set_option linter.all false
set_option maxRecDepth 100000
set_option maxHeartbeats 0

def CW : Cfg := ⟨fun _ => none, fun f => (tabW.find? (·.1 == f)).map (·.2), fun f args hp => ((fun _ _ => none : FuncId → List AV → Option AV) f args).map fun v => (v, hp, none), 9223372036854775808⟩
theorem CW_ok (W0 : World) : CfgOk Tryz.prog W0 CW where
  mixed := by kernel_rfl
  globals := fun g cells h => by cases h
  table := fun f af h => by
    have h : (tabW.find? (·.1 == f)).map (·.2) = some af := h
    obtain ⟨p, hp, rfl⟩ := Option.map_eq_some_iff.1 h
    have hf := List.find?_some hp
    have : p.1 = f := by simpa using hf
    subst this
    exact tabW_ok p (List.mem_of_find?_eq_some hp)
  oracle := spec_of_oracles (O := fun _ _ => none) fun f args v h => by cases h
def isT : Option (AV × List AObj × Eff) → Bool
  | some (.bool true, _, _) => true
  | _ => false
theorem isT_some {r : Option (AV × List AObj × Eff)} (h : isT r = true) : ∃ hp e, r = some (.bool true, hp, e) := by
  unfold isT at h
  split at h
  · exact ⟨_, _, rfl⟩
  · cases h
/-- the program of the examples -/
def p3 : AV := .agg [(.str [112]), (.lst 14 [[(.str [97]), (.lst 3 []), (.lst 17 []), (.lst 3 []), (.lst 3 []), (.lst 1 []), (.lst 1 []), (.lst 1 []), (.lst 1 []), (.lst 1 []), (.lst 4 []), (.lst 5 []), (.lst 3 []), (.lst 4 [])], [(.str [98]), (.lst 3 []), (.lst 17 []), (.lst 3 []), (.lst 3 []), (.lst 1 []), (.lst 1 []), (.lst 1 []), (.lst 1 []), (.lst 1 []), (.lst 4 []), (.lst 5 []), (.lst 3 []), (.lst 4 [])], [(.str [99]), (.lst 3 []), (.lst 17 []), (.lst 3 []), (.lst 3 []), (.lst 1 []), (.lst 1 []), (.lst 1 []), (.lst 1 []), (.lst 1 []), (.lst 4 []), (.lst 5 []), (.lst 3 []), (.lst 4 [])]]), (.lst 3 [[(.int .i64 0), (.int .i64 1), (.int .i64 4)], [(.int .i64 1), (.int .i64 2), (.int .i64 3)]])]
def isZ : Option (AV × List AObj × Eff) → Bool
  | some (.int .i64 0, _, _) => true
  | _ => false
theorem isZ_some {r : Option (AV × List AObj × Eff)} (h : isZ r = true) : ∃ hp e, r = some (.int .i64 0, hp, e) := by
  unfold isZ at h
  split at h
  · exact ⟨_, _, rfl⟩
  · cases h
theorem chk_runs : isZ (evalCall CW 40 F_code_Check [p3] []) = true := by kernel_rfl
def orW (f : FuncId) (args : List AV) : Option AV := if f = F_code_Check then (match args with | [a] => if eqA 8 a p3 = true then some (.int .i64 0) else none | _ => none) else none
theorem orW_ok (W0 : World) : ∀ f args v, orW f args = some v → OracleOk Tryz.prog W0 f args v := by
  intro f args v h
  unfold orW at h
  split at h
  · rename_i e; subst e
    split at h
    · rename_i a
      split at h <;> cases h
      rename_i he
      obtain rfl := eqA_eq _ _ _ he
      obtain ⟨hp, e, hr⟩ := isZ_some chk_runs
      exact oracle_of_run CW_ok hr rfl (by kernel_rfl) (by kernel_rfl) Tryz.func25 (by kernel_rfl) rfl
    · cases h
  · cases h
def CA : Cfg := ⟨fun _ => none, fun f => if f = F_code_Check then none else (tabW.find? (·.1 == f)).map (·.2), fun f args hp => (orW f args).map fun v => (v, hp, none), 9223372036854775808⟩
theorem CA_ok (W0 : World) : CfgOk Tryz.prog W0 CA where
  mixed := by kernel_rfl
  globals := fun g cells h => by cases h
  table := fun f af h => by
    have h : (if f = F_code_Check then none else (tabW.find? (·.1 == f)).map (·.2)) = some af := h
    split at h
    · cases h
    · obtain ⟨p, hp, rfl⟩ := Option.map_eq_some_iff.1 h
      have hf := List.find?_some hp
      have : p.1 = f := by simpa using hf
      subst this
      exact tabW_ok p (List.mem_of_find?_eq_some hp)
  oracle := spec_of_oracles (orW_ok W0)
theorem awake_runs : isT (evalCall CA 40 F_law34_awake [] []) = true := by kernel_rfl
theorem c_awake (w : World) : Calls Tryz.prog F_law34_awake #[] w fun e w' => e = .returned (.bool true) ∧ Below w.heap.size w w' := by
  obtain ⟨hp, e, h⟩ := isT_some awake_runs
  exact law_of (CA_ok w) h rfl fun j x hx => by simp at hx
end Go.Proofs.YtgjcjbhhhlelnaaGreatDoor
