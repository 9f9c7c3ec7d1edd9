/-
  The chapter's worked examples, run by the kernel.
-/
import Derived.Test.YtlmfmmclnboglaaGreatTWB
import Derived.Test.YtlmfmmclnboglaaGreatGF
import Derived.Test.YtlmfmmclnboglaaGreatGG
namespace Go.Proofs.YtlmfmmclnboglaaGreat
open Go Go.RowKit Go.Shelf Go.Proofs.YtlmfmmclnboglaaGreat.Abs
set_option linter.all false
set_option maxRecDepth 100000
set_option maxHeartbeats 0

abbrev Tryz.grow_ren : Ren := ⟨fun | 4 => 153 | n => n, fun | 22 => 76 | 25 => 103 | n => n, fun | n => n⟩
theorem Tryz.grow_lays : Lays8.n4 Tryz.prog Tryz.grow_ren where
  mixed := by kernel_rfl
  f4 := ⟨ "slices.Grow[[]simulator/api.Field,simulator/api.Field]", by decide, Tryz.func153.trans (congrArg some (by kernel_rfl))⟩
  t0 := Tryz.underlying0
  a0 := Tryz.isAgg0
  z0 := Tryz.sizeOf0
  v0 := Tryz.zeroValue0
  t3 := Tryz.underlying3
  a3 := Tryz.isAgg3
  z3 := Tryz.sizeOf3
  v3 := Tryz.zeroValue3
  t4 := Tryz.underlying4
  a4 := Tryz.isAgg4
  z4 := Tryz.sizeOf4
  v4 := Tryz.zeroValue4
  t9 := Tryz.underlying9
  a9 := Tryz.isAgg9
  z9 := Tryz.sizeOf9
  v9 := Tryz.zeroValue9
  t20 := Tryz.underlying20
  a20 := Tryz.isAgg20
  z20 := Tryz.sizeOf20
  v20 := Tryz.zeroValue20
  t22 := Tryz.underlying76
  a22 := Tryz.isAgg76
  z22 := Tryz.sizeOf76
  v22 := Tryz.zeroValue76
theorem o_grow (W0 : World) : CallSpec Tryz.prog W0 (growO 153 2 24) := by
  obtain ⟨i, h1, h2⟩ : ∃ i : TypeInfo, Tryz.prog.info? 103 = some i ∧ i.size = 2 ∧ i.bytes = 24 ∧ ∃ z, i.zero = some z ∧ z.cells.size = 2 := ⟨_, rfl, rfl, rfl, _, rfl, rfl⟩
  obtain ⟨h2, h3, z, h4, h5⟩ := h2
  have := grow_spec (W0 := W0) Tryz.grow_lays (i0 := i) (z := z) h1 h4 (by rw [h5, h2]) (by omega)
  rw [h2, h3] at this
  exact this
def CW : Cfg := ⟨fun _ => none, fun f => (tabW.find? (·.1 == f)).map (·.2), growO 153 2 24, 9223372036854775808⟩
theorem CW_ok (W0 : World) : CfgOk Tryz.prog W0 CW where
  mixed := by kernel_rfl
  globals := fun g cells h => by cases h
  table := fun f af h => by
    have h : (tabW.find? (·.1 == f)).map (·.2) = some af := h
    obtain ⟨p, hp, rfl⟩ := Option.map_eq_some_iff.1 h
    have hf := List.find?_some hp
    have : p.1 = f := by simpa using hf
    subst this
    exact tabW_ok p (List.mem_of_find?_eq_some hp)
  oracle := o_grow W0
def isT : Option (AV × List AObj × Eff) → Bool
  | some (.bool true, _, _) => true
  | _ => false
theorem isT_some {r : Option (AV × List AObj × Eff)} (h : isT r = true) : ∃ hp e, r = some (.bool true, hp, e) := by
  unfold isT at h
  split at h
  · exact ⟨_, _, rfl⟩
  · cases h

theorem awake_runs : isT (evalTop CW 40 a_law11_awake [] []) = true := by kernel_rfl
theorem c_awake (w : World) : Calls Tryz.prog F_law11_awake #[] w fun e w' => e = .returned (.bool true) ∧ Below w.heap.size w w' := by
  obtain ⟨hp, e, h⟩ := isT_some awake_runs
  exact top_of (CW_ok w) Tryz.func9 n_law11_awake t_law11_awake h
end Go.Proofs.YtlmfmmclnboglaaGreat
