/-
  A list of tokens as a law is handed it.
-/
import Derived.Test.YtiabiflaecidoaaDoorEP
import Derived.Test.YtiabiflaecidoaaDoorKA
import Derived.Test.YtiabiflaecidoaaDoorCards
namespace Go.Proofs.YtiabiflaecidoaaDoor
open Go Go.RowKit Go.Proofs.YtiabiflaecidoaaDoor.Abs
set_option linter.all false

theorem cl3 : Tryd.prog.cellsOf 3 = 1 := by kernel_rfl
theorem cl9 : Tryd.prog.cellsOf 9 = 1 := by kernel_rfl
theorem cl29 : Tryd.prog.cellsOf 29 = 1 := by kernel_rfl
theorem cl31 : Tryd.prog.cellsOf 31 = 4 := by kernel_rfl
variable {H : Type}
theorem tok_of_shp {n : Nat} {cs : List AV} {d : DataW H} (h : Shp Tryd.prog (n + 2) 31 cs d) : ∃ t : Tok, cs = tokRow t ∧ t.text.length ≤ 140737488351232 ∧ (-9223372036854775808 ≤ t.n ∧ t.n ≤ 9223372036854775807) ∧ t.text.length + 5 ≤ Rows.uptoBulk d := by
  obtain ⟨hl, ds, rfl, hds, hf⟩ := h.struct Tryd.underlying31
  rw [cl31] at hl
  · obtain ⟨a, b, c, e, rfl⟩ := len4 hl
    obtain ⟨d0, d1, d2, d3, rfl⟩ := len4 (show ds.length = 4 from hds)
    obtain ⟨y0, e0, s0⟩ := hf 0 _ rfl
    obtain ⟨y1, e1, s1⟩ := hf 1 _ rfl
    obtain ⟨y2, e2, s2⟩ := hf 2 _ rfl
    obtain ⟨y3, e3, s3⟩ := hf 3 _ rfl
    cases e0; cases e1; cases e2; cases e3
    simp only [cl29] at s0
    simp only [cl9] at s1
    simp only [cl3] at s2 s3
    obtain ⟨k, q0, rfl, w0⟩ := s0.i64 Tryd.underlying29
    obtain ⟨s, q1, rfl, w1⟩ := s1.str Tryd.underlying9
    obtain ⟨m, q2, rfl, w2⟩ := s2.i64 Tryd.underlying3
    obtain ⟨l, q3, rfl, w3⟩ := s3.i64 Tryd.underlying3
    cases q0; cases q1; cases q2; cases q3
    exact ⟨⟨k, s, m, l⟩, rfl, w1, w2, by simp [Rows.uptoBulk, Rows.uptoBulkAll]; omega⟩
theorem toks_of_shp {n : Nat} {rows : List (List AV)} {d : DataW H} (h : Shp Tryd.prog (n + 3) 23 [.lst 4 rows] d) : ∃ ts, rows = tokRows ts ∧ ts.length ≤ 140737488351232 ∧ (∀ t ∈ ts, t.text.length ≤ 140737488351232 ∧ -9223372036854775808 ≤ t.n ∧ t.n ≤ 9223372036854775807) ∧ bnd ts ≤ 3 * Rows.uptoBulk d := by
  obtain ⟨rows', e, hl, hr⟩ := h.slice Tryd.underlying23
  rw [cl31] at e
  cases e
  rcases hr with ⟨rfl, rfl⟩ | ⟨D, ds, spare, rfl, rfl, hr⟩
  · exact ⟨[], rfl, by simp, by simp, by simp [bnd]⟩
  · have key : ∀ (rs : List (List AV)) (E : Nat → DataW H), (∀ (i : Nat) (r : List AV), rs[i]? = some r → Shp Tryd.prog (n + 2) 31 r (E i)) →
        ∃ ts, rs = tokRows ts ∧ (∀ t ∈ ts, t.text.length ≤ 140737488351232 ∧ -9223372036854775808 ≤ t.n ∧ t.n ≤ 9223372036854775807) ∧ bnd ts ≤ 3 * Rows.uptoBulkAll ((List.range rs.length).map E) := by
      intro rs
      induction rs with
      | nil => exact fun E _ => ⟨[], rfl, by simp, by simp [bnd]⟩
      | cons r rs ih =>
        intro E hE
        obtain ⟨t, rfl, t1, t2, t3⟩ := tok_of_shp (hE 0 r rfl)
        obtain ⟨ts, rfl, h1, h2⟩ := ih (fun i => E (i + 1)) fun i r hr => hE (i + 1) r hr
        refine ⟨t :: ts, rfl, fun u hu => ?_, ?_⟩
        · rcases List.mem_cons.1 hu with rfl | hu
          · exact ⟨t1, t2⟩
          · exact h1 u hu
        · rw [List.length_cons, List.range_succ_eq_map, List.map_cons, List.map_map, Rows.uptoBulkAll]
          simp only [bnd, List.map_cons, List.sum_cons] at h2 ⊢
          have e : (List.map (E ∘ Nat.succ) (List.range (tokRows ts).length)) = (List.map (fun i => E (i + 1)) (List.range (tokRows ts).length)) := rfl
          rw [e]
          omega
    obtain ⟨ts, rfl, h1, h2⟩ := key rows D hr
    refine ⟨ts, rfl, by simpa [tokRows] using hl, h1, Nat.le_trans h2 ?_⟩
    simp only [Rows.uptoBulk]
    omega
theorem c_checks' {n : Nat} {rows : List (List AV)} {d : DataW H} (hs : Shp Tryd.prog (n + 3) 23 [.lst 4 rows] d) (v : Value) (w : World) (hr : Rep still w (.lst 4 rows) v) (hL : Laid w) :
    Calls Tryd.prog 5 #[v] w fun e w' => e = .returned (.bool true) ∧ Below w.heap.size w w' := by
  obtain ⟨ts, rfl, h1, h2, _⟩ := toks_of_shp (n := n) hs
  exact c_checks ts (by omega) (fun t ht => ⟨by have := (h2 t ht).1; omega, (h2 t ht).2⟩) v w hr hL
end Go.Proofs.YtiabiflaecidoaaDoor
