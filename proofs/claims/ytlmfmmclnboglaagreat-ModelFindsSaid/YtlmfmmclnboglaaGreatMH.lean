/-
  ModelFinds: what the law is handed, and its call.
-/
import Derived.Test.YtlmfmmclnboglaaGreatMG
import Derived.Test.YtlmfmmclnboglaaGreatKD
import Derived.Test.YtlmfmmclnboglaaGreatPA
namespace Go.Proofs.YtlmfmmclnboglaaGreat
open Go Go.RowKit Go.Proofs.YtlmfmmclnboglaaGreat.Abs
set_option linter.all false
set_option maxRecDepth 100000

theorem rows_of {e W B : Nat} {rows : List (List AV)} (hb : Tryz.prog.bytesOf e = B) (hB : 16 ≤ B) (hl : rows.length * Tryz.prog.bytesOf e ≤ 140737488351232) (h : ∀ r, Of Tryz.prog e r → r.length = W ∧ r.map AV.ro = r ∧ r = .str (nameOf r) :: r.tail) (hr : ∀ r ∈ rows, Of Tryz.prog e r) : Rows1 W rows := by
  rw [hb] at hl
  have : rows.length * 16 ≤ rows.length * B := Nat.mul_le_mul_left _ hB
  exact ⟨by omega, fun r h' => h r (hr r h')⟩
theorem rows_len {e B : Nat} {rows : List (List AV)} (hb : Tryz.prog.bytesOf e = B) (hB : 16 ≤ B) (hl : rows.length * Tryz.prog.bytesOf e ≤ 140737488351232) : rows.length ≤ 8796093022208 := by
  rw [hb] at hl
  have : rows.length * 16 ≤ rows.length * B := Nat.mul_le_mul_left _ hB
  omega
theorem of_str (r : List AV) (h : Of Tryz.prog 9 r) : r.length = 1 ∧ r.map AV.ro = r ∧ r = .str (nameOf r) :: r.tail := by
  obtain ⟨s, rfl, _⟩ := h.toStr Tryz.underlying9; exact ⟨rfl, rfl, rfl⟩
theorem of_value (r : List AV) (h : Of Tryz.prog 69 r) : r.length = 3 ∧ r.map AV.ro = r ∧ r = .str (nameOf r) :: r.tail := by
  obtain ⟨_, _, _, rfl, _⟩ := dec_api_Value h; exact ⟨rfl, rfl, rfl⟩
theorem of_store (r : List AV) (h : Of Tryz.prog 95 r) : r.length = 3 ∧ r.map AV.ro = r ∧ r = .str (nameOf r) :: r.tail := by
  obtain ⟨_, _, _, rfl, _⟩ := dec_api_StoreDecl h; exact ⟨rfl, rfl, rfl⟩
theorem of_belt (r : List AV) (h : Of Tryz.prog 97 r) : r.length = 3 ∧ r.map AV.ro = r ∧ r = .str (nameOf r) :: r.tail := by
  obtain ⟨_, _, _, rfl, _⟩ := dec_api_BeltDecl h; exact ⟨rfl, rfl, rfl⟩
theorem of_routine (r : List AV) (h : Of Tryz.prog 79 r) : r.length = 4 ∧ r.map AV.ro = r ∧ r = .str (nameOf r) :: r.tail := by
  obtain ⟨_, _, _, _, rfl, _⟩ := dec_api_Routine h; exact ⟨rfl, rfl, rfl⟩
theorem of_res (r : List AV) (h : Of Tryz.prog 92 r) : r.length = 17 ∧ r.map AV.ro = r ∧ r = .str (nameOf r) :: r.tail := by
  obtain ⟨_, _, _, _, _, _, _, _, _, _, _, _, _, _, _, _, _, rfl, _⟩ := dec_api_ResourceDecl h; exact ⟨rfl, rfl, rfl⟩
theorem site_of {r : List AV} (h : Of Tryz.prog 42 r) : ∃ s, r = srow s ∧ SiteOk s := by
  obtain ⟨nm, a1, a2, a3, a4, a5, a6, a7, a8, a9, a10, a11, a12, rfl, _, b1, b2, b3, b4, b5, b6, b7, b8, b9, b10, b11, b12⟩ := dec_api_SiteDecl h
  exact ⟨⟨nm, a1, a2, a3, a4, a5, a6, a7, a8, a9, a10, a11, a12⟩, rfl, rows_of bytes_69 (by omega) b1.1 of_value b1.2, rows_of bytes_92 (by omega) b2.1 of_res b2.2, rows_of bytes_95 (by omega) b3.1 of_store b3.2, rows_of bytes_97 (by omega) b4.1 of_belt b4.2,
    rows_of bytes_9 (by omega) b5.1 of_str b5.2, rows_of bytes_9 (by omega) b6.1 of_str b6.2, rows_of bytes_9 (by omega) b7.1 of_str b7.2, rows_of bytes_9 (by omega) b8.1 of_str b8.2, rows_of bytes_9 (by omega) b9.1 of_str b9.2, rows_of bytes_79 (by omega) b10.1 of_routine b10.2, rows_len bytes_105 (by omega) b11.1, rows_len bytes_57 (by omega) b12.1⟩
theorem sites_of : ∀ (rows : List (List AV)), (∀ r ∈ rows, Of Tryz.prog 42 r) → ∃ l : List SiteD, rows = l.map srow ∧ ∀ s ∈ l, SiteOk s
  | [], _ => ⟨[], rfl, fun s h => by cases h⟩
  | r :: rs, h => by
    obtain ⟨s, h1, h2⟩ := site_of (h r (List.mem_cons_self ..))
    obtain ⟨l, h3, h4⟩ := sites_of rs fun x hx => h x (List.mem_cons_of_mem _ hx)
    exact ⟨s :: l, by rw [h1, h3]; rfl, fun x hx => by
      rcases List.mem_cons.1 hx with rfl | hx
      · exact h2
      · exact h4 x hx⟩
theorem mdl_of {cs : List AV} (h : Of Tryz.prog 26 cs) : ∃ m, cs = mrow m ∧ MdlOk m := by
  obtain ⟨nm, ps, ss, ls, rfl, _, b1, b2, b3⟩ := dec_api_Model h
  obtain ⟨l, rfl, hl⟩ := sites_of ss b2.2
  refine ⟨⟨nm, ps, l, ls⟩, rfl, rows_len bytes_69 (by omega) b1.1, ?_, hl, rows_len bytes_49 (by omega) b3.1, fun r hr => ?_⟩
  · have := rows_len bytes_42 (by omega) b2.1
    simpa using this
  · obtain ⟨a, b, d, rfl, _⟩ := dec_api_Link (b3.2 r hr)
    exact ⟨a, b, d, rfl⟩
def orA (f : FuncId) (args : List AV) : Option AV := if f = F_law11_awake then (match args with | [] => some (.bool true) | _ => none) else none
theorem orA_ok (W0 : World) : ∀ f args v, orA f args = some v → OracleOk Tryz.prog W0 f args v := by
  intro f args v h
  unfold orA at h
  split at h
  · rename_i e; subst e
    split at h <;> cases h
    refine ⟨fun _ _ h => (by cases h), fun Γ w xs hb hΓ hs hx => ?_⟩
    have hxs : xs = #[] := Array.eq_empty_of_size_eq_zero hs
    subst hxs
    refine went_of_calls Tryz.func9 (by kernel_rfl) rfl ((c_awake w).mono ?_)
    rintro e w' ⟨rfl, hb'⟩
    exact ⟨_, rfl, hb', .bool true⟩
  · cases h
def C1 : Cfg := ⟨fun _ => none, cT, fun f args hp => (orA f args).map fun v => (v, hp, none), 9223372036854775808⟩
theorem C1_L : CfgL C1 := ⟨rfl, Nat.le_refl _⟩
theorem C1_ok (W0 : World) : CfgOk Tryz.prog W0 C1 where
  mixed := by kernel_rfl
  globals := fun g cells h => by cases h
  table := fun f af h => by
    have h : (tab.find? (·.1 == f)).map (·.2) = some af := h
    obtain ⟨p, hp, rfl⟩ := Option.map_eq_some_iff.1 h
    have hf := List.find?_some hp
    have : p.1 = f := by simpa using hf
    subst this
    exact tab_ok p (List.mem_of_find?_eq_some hp)
  oracle := spec_of_oracles (orA_ok W0)
theorem o_awake (n : Nat) (hp : List AObj) : evalCall C1 (n + 1) F_law11_awake [] hp = some (.bool true, hp, none) := rfl
theorem str_bytes {W0 : World} (x : ByteArray) : Rep still W0 (.str x.data.toList) (.string x) := by
  have : x = ⟨x.data.toList.toArray⟩ := by cases x; simp
  rw [this]; exact .str _
theorem c_finds {H : Type} {c0 : List AV} {d0 : DataW H} (S0 : ShpI Tryz.prog 26 c0 d0) (x1 x2 : ByteArray) (v0 : Value) (w : World) (hR : Rep still w (.agg c0) v0) :
    Calls Tryz.prog F_law11_ModelFinds #[v0, .string x1, .string x2] w fun e w' => e = .returned (.bool true) ∧ Below w.heap.size w w' := by
  obtain ⟨m, rfl, hm⟩ := mdl_of S0.of
  refine law_of (C1_ok w) (finds_true C1_L 0 m x1.data.toList x2.data.toList hm (fun hp => o_awake 4 hp)) rfl fun j x hx => ?_
  match j, hx with
  | 0, hx => cases hx; exact ⟨hR, fun k r e => by cases e⟩
  | 1, hx => cases hx; exact ⟨str_bytes x1, fun k r e => by cases e⟩
  | 2, hx => cases hx; exact ⟨str_bytes x2, fun k r e => by cases e⟩
  | j + 3, hx => simp at hx
end Go.Proofs.YtlmfmmclnboglaaGreat
