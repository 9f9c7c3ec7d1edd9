/-
  The contract of the function literal in lex.Tokens.
-/
import Derived.Test.YtiabiflaecidoaaDoorL3
import Derived.OneCell
import Derived.Deep.AppendLies
import Derived.WalkSmall
import Derived.Lib.OthersKept
namespace Go.Proofs.YtiabiflaecidoaaDoor
open Go.RowKit

theorem info31 : (Tryd.prog.info? 31).map (fun i => (i.zero, i.size, i.bytes)) = some (some (.agg #[.int .i64 0, .string ⟨#[]⟩, .int .i64 0, .int .i64 0]), 4, 40) := by kernel_rfl

/-- What the captured variables hold: the tokens so far, the line, whether the line has tokens. -/
structure TSt (w0 : World) (H : Nat) (toks : List Tok) (line : Int) (full : Bool) (w : World) : Prop where
  out : ∃ v, w.heap[H]? = some (.cells #[v] 23 (0, 0)) ∧ w.ownsRow (H + 4) 31 4 v toks.length (flatT toks)
  line : w.heap[H + 1]? = some (.cells #[.int .i64 line] 3 (0, 0))
  full : w.heap[H + 2]? = some (.cells #[.bool full] 4 (0, 0))
  below : Below H w0 w
  size : H + 4 ≤ w.heap.size

theorem cell_blk {w : World} {g T : Nat} {v : Value} (h : w.heap[g]? = some (.cells #[v] T (0, 0))) : w.cell? ⟨g, 0, none⟩ = some v ∧ w.frozen? ⟨g, 0, none⟩ = false := by
  constructor
  · simp [World.cell?, h]
  · simp [World.frozen?, h]

theorem heap_alloc_lt {w : World} {o : Obj} {k : Nat} (h : k < w.heap.size) : (w.alloc o).heap[k]? = w.heap[k]? := Below.heap_alloc w o k h
theorem heap_lt {w : World} {k : Nat} {o : Obj} (h : w.heap[k]? = some o) : k < w.heap.size := (Array.getElem?_eq_some_iff.1 h).1

theorem TSt.alloc {w0 w : World} {H : Nat} {toks : List Tok} {line : Int} {full : Bool} (h : TSt w0 H toks line full w) (o : Obj) : TSt w0 H toks line full (w.alloc o) := by
  obtain ⟨⟨v, h1, hown⟩, h2, h3, hB, hz⟩ := h
  have hs : (w.alloc o).heap.size = w.heap.size + 1 := by show (w.heap.push _).size = _; simp
  exact ⟨⟨v, (heap_alloc_lt (by omega)).trans h1, hown.alloc _⟩, (heap_alloc_lt (by omega)).trans h2, (heap_alloc_lt (by omega)).trans h3, hB.alloc (by omega) _, by omega⟩

/-- behind an append to the tokens, the new slice stored back -/
theorem TSt.append {w0 w w1 : World} {H : Nat} {toks : List Tok} {line : Int} {full : Bool} {v v' : Value} (h : TSt w0 H toks line full w) (hv : w.heap[H]? = some (.cells #[v] 23 (0, 0)))
    (hown : w.ownsRow (H + 4) 31 4 v toks.length (flatT toks)) (t : Tok)
    (hown1 : w1.ownsRow (H + 4) 31 4 v' (toks.length + 1) (flatT toks ++ t.cells.toList)) (hg : w.grownBy w1 v.ownBlock) :
    TSt w0 H (toks ++ [t]) line full (w1.setCell ⟨H, 0, none⟩ v') ∧ (∀ (k : Nat) (a : ByteArray) (b : Nat), w.heap[k]? = some (Obj.stringIter a b) → (w1.setCell ⟨H, 0, none⟩ v').heap[k]? = some (Obj.stringIter a b)) := by
  obtain ⟨_, h2, h3, hB, hz⟩ := h
  have hrow : ∀ k, v.ownBlock = some k → H + 4 ≤ k ∧ ∃ c f, w.heap[k]? = some (.cells c 31 f) := by
    intro k hk
    rcases hown.2 with ⟨rfl, _⟩ | ⟨g, cap, cur, rfl, hb, hgg, _⟩
    · simp [Value.ownBlock] at hk
    · simp only [Value.ownBlock, Option.some.injEq] at hk
      subst hk
      exact ⟨hb, _, _, hgg⟩
  have hne : ∀ k, k < H + 4 → some k ≠ v.ownBlock := fun k hk e => by have := (hrow k e.symm).1; omega
  have e0 := (hg.block H (by omega) (hne H (by omega))).trans hv
  have e1 := (hg.block (H + 1) (by omega) (hne _ (by omega))).trans h2
  have e2 := (hg.block (H + 2) (by omega) (hne _ (by omega))).trans h3
  refine ⟨⟨⟨v', ?_, ?_⟩, ?_, ?_, ?_, ?_⟩, ?_⟩
  · exact one_setCell e0
  · have hl : (toks ++ [t]).length = toks.length + 1 := by simp
    have hf : flatT (toks ++ [t]) = flatT toks ++ t.cells.toList := by rw [flatT_append]; simp [flatT]
    rw [hl, hf]
    exact ownsRow_setCell_below hown1 (a := ⟨H, 0, none⟩) (by show H < H + 4; omega) v'
  · rw [Below.heap_setCell _ _ _ _ (by show H + 1 ≠ H; omega)]; exact e1
  · rw [Below.heap_setCell _ _ _ _ (by show H + 2 ≠ H; omega)]; exact e2
  · refine (hB.grown hg (by omega) (fun k hk => ?_)).setCell (p := ⟨H, 0, none⟩) (Nat.le_refl _) v'
    have := (hrow k hk).1; omega
  · have := hg.size
    show H + 4 ≤ (w1.heap.modify _ _).size
    simp only [Array.size_modify]; omega
  · intro k a b hk
    have hkl := heap_lt hk
    have hkH : k ≠ H := by rintro rfl; rw [hv] at hk; cases hk
    rw [Below.heap_setCell _ _ _ _ (by show k ≠ H; exact hkH), hg.block k hkl (fun e => ?_)]
    · exact hk
    · obtain ⟨_, c, f, hc⟩ := hrow k e.symm
      rw [hk] at hc; cases hc

theorem own_below {w w' : World} {B e size n : Nat} {v : Value} {xs : List Value} (h : w.ownsRow B e size v n xs) (hb : Below w.heap.size w w') : w'.ownsRow B e size v n xs := by
  obtain ⟨h1, h2⟩ := h
  refine ⟨h1, ?_⟩
  rcases h2 with h2 | ⟨g, cap, cur, hv, hg, hh, r⟩
  · exact .inl h2
  · exact .inr ⟨g, cap, cur, hv, hg, (hb.block g (heap_lt hh)).trans hh, r⟩
theorem own_mono {w : World} {B B' e size n : Nat} {v : Value} {xs : List Value} (h : w.ownsRow B e size v n xs) (hB : B' ≤ B) : w.ownsRow B' e size v n xs := by
  obtain ⟨h1, h2⟩ := h
  refine ⟨h1, ?_⟩
  rcases h2 with h2 | ⟨g, cap, cur, hv, hg, hh, r⟩
  · exact .inl h2
  · exact .inr ⟨g, cap, cur, hv, by omega, hh, r⟩
theorem TSt.more {w0 w w' : World} {H : Nat} {toks : List Tok} {line : Int} {full : Bool} (h : TSt w0 H toks line full w) (hb : Below w.heap.size w w') : TSt w0 H toks line full w' := by
  obtain ⟨⟨v, h1, hown⟩, h2, h3, hB, hz⟩ := h
  exact ⟨⟨v, (hb.block _ (by omega)).trans h1, own_below hown hb⟩, (hb.block _ (by omega)).trans h2, (hb.block _ (by omega)).trans h3, hB.trans (hb.mono (by omega)), Nat.le_trans hz hb.size⟩
theorem TSt.iter {w0 w : World} {H : Nat} {toks : List Tok} {line : Int} {full : Bool} (h : TSt w0 H toks line full w) (s : ByteArray) (p' : Nat) : TSt w0 H toks line full (w.iterAt (H + 3) s p') := by
  obtain ⟨⟨v, h1, hown⟩, h2, h3, hB, hz⟩ := h
  have hne : ∀ k, k ≠ H + 3 → (w.iterAt (H + 3) s p').heap[k]? = w.heap[k]? := fun k hk => by
    show (w.heap.setIfInBounds (H + 3) _)[k]? = _
    rw [Array.getElem?_setIfInBounds_ne (by omega)]
  refine ⟨⟨v, (hne _ (by omega)).trans h1, ownsRow_iterAt hown (by omega) _ _⟩, (hne _ (by omega)).trans h2, (hne _ (by omega)).trans h3, hB.trans ⟨rfl, rfl, rfl, ?_, fun k hk => hne k (by omega)⟩, ?_⟩
  · show w.heap.size ≤ (w.heap.setIfInBounds _ _).size; simp
  · show H + 4 ≤ (w.heap.setIfInBounds _ _).size; simp; exact hz
theorem TSt.setLine {w0 w : World} {H : Nat} {toks : List Tok} {line : Int} {full : Bool} (h : TSt w0 H toks line full w) (n : Int) : TSt w0 H toks n full (w.setCell ⟨H + 1, 0, none⟩ (.int .i64 n)) := by
  obtain ⟨⟨v, h1, hown⟩, h2, h3, hB, hz⟩ := h
  refine ⟨⟨v, ?_, ownsRow_setCell_below hown (a := ⟨H + 1, 0, none⟩) (by show H + 1 < H + 4; omega) _⟩, one_setCell h2, ?_, hB.setCell (p := ⟨H + 1, 0, none⟩) (by show H ≤ H + 1; omega) _, ?_⟩
  · rw [Below.heap_setCell _ _ _ _ (by show H ≠ H + 1; omega)]; exact h1
  · rw [Below.heap_setCell _ _ _ _ (by show H + 2 ≠ H + 1; omega)]; exact h3
  · show H + 4 ≤ (w.heap.modify _ _).size; simp; exact hz
theorem TSt.setFull {w0 w : World} {H : Nat} {toks : List Tok} {line : Int} {full : Bool} (h : TSt w0 H toks line full w) (b : Bool) : TSt w0 H toks line b (w.setCell ⟨H + 2, 0, none⟩ (.bool b)) := by
  obtain ⟨⟨v, h1, hown⟩, h2, h3, hB, hz⟩ := h
  refine ⟨⟨v, ?_, ownsRow_setCell_below hown (a := ⟨H + 2, 0, none⟩) (by show H + 2 < H + 4; omega) _⟩, ?_, one_setCell h3, hB.setCell (p := ⟨H + 2, 0, none⟩) (by show H ≤ H + 2; omega) _, ?_⟩
  · rw [Below.heap_setCell _ _ _ _ (by show H ≠ H + 2; omega)]; exact h1
  · rw [Below.heap_setCell _ _ _ _ (by show H + 1 ≠ H + 2; omega)]; exact h2
  · show H + 4 ≤ (w.heap.modify _ _).size; simp; exact hz
theorem setCell_iter {w : World} {k g : Nat} {a : ByteArray} {b : Nat} {v : Value} (h : w.heap[k]? = some (Obj.stringIter a b)) (hg : k ≠ g) : (w.setCell ⟨g, 0, none⟩ v).heap[k]? = some (Obj.stringIter a b) := by
  rw [Below.heap_setCell _ _ _ _ (by show k ≠ g; exact hg)]; exact h

theorem new4 {w : World} {T : TypeId} {v0 v1 v2 v3 : Value} : ∀ (j : Nat) (u : Value), [v0, v1, v2, v3][j]? = some u → (w.alloc (.cells #[v0, v1, v2, v3] T)).cell? ((⟨w.heap.size, 0, none⟩ : Addr).add j) = some u := by
  intro j u hj
  have hg : (w.alloc (.cells #[v0, v1, v2, v3] T)).heap[w.heap.size]? = some (.cells #[v0, v1, v2, v3] T (0, 0)) := by show (w.heap.push _)[w.heap.size]? = _; simp
  match j, hj with
  | 0, hj => simp at hj; subst hj; show (match (w.alloc (.cells #[v0, v1, v2, v3] T)).heap[w.heap.size]? with | some (.cells c _ _) => c[0]? | _ => none) = _; rw [hg]; rfl
  | 1, hj => simp at hj; subst hj; show (match (w.alloc (.cells #[v0, v1, v2, v3] T)).heap[w.heap.size]? with | some (.cells c _ _) => c[1]? | _ => none) = _; rw [hg]; rfl
  | 2, hj => simp at hj; subst hj; show (match (w.alloc (.cells #[v0, v1, v2, v3] T)).heap[w.heap.size]? with | some (.cells c _ _) => c[2]? | _ => none) = _; rw [hg]; rfl
  | 3, hj => simp at hj; subst hj; show (match (w.alloc (.cells #[v0, v1, v2, v3] T)).heap[w.heap.size]? with | some (.cells c _ _) => c[3]? | _ => none) = _; rw [hg]; rfl
  | j + 4, hj => simp at hj
theorem new4' {w : World} {T z : Nat} {v0 v1 v2 v3 : Value} (hz : w.heap.size = z) : ∀ (j : Nat) (u : Value), [v0, v1, v2, v3][j]? = some u → (w.alloc (.cells #[v0, v1, v2, v3] T)).cell? ((⟨z, 0, none⟩ : Addr).add j) = some u := hz ▸ new4
theorem size_alloc' (w : World) (o : Obj) : (w.alloc o).heap.size = w.heap.size + 1 := by show (w.heap.push _).size = _; simp
theorem TSt.cells {w0 w : World} {H : Nat} {toks : List Tok} {line : Int} {full : Bool} (h : TSt w0 H toks line full w) :
    (w.cell? ⟨H + 1, 0, none⟩ = some (.int .i64 line) ∧ w.frozen? ⟨H + 1, 0, none⟩ = false) ∧ (w.cell? ⟨H + 2, 0, none⟩ = some (.bool full) ∧ w.frozen? ⟨H + 2, 0, none⟩ = false) ∧
    ∃ v, w.heap[H]? = some (.cells #[v] 23 (0, 0)) ∧ w.ownsRow (H + 4) 31 4 v toks.length (flatT toks) ∧ w.cell? ⟨H, 0, none⟩ = some v ∧ w.frozen? ⟨H, 0, none⟩ = false := by
  obtain ⟨⟨v, h1, hown⟩, h2, h3, hB, hz⟩ := h
  exact ⟨cell_blk h2, cell_blk h3, v, h1, hown, cell_blk h1⟩
theorem one4 {k : IntKind} {a b c : Int} {s : ByteArray} : ∀ u ∈ [Value.int k a, .string s, .int k b, .int k c], u.oneCell' = true := by
  intro u hu
  simp only [List.mem_cons, List.not_mem_nil, or_false] at hu
  rcases hu with rfl | rfl | rfl | rfl <;> rfl

set_option maxHeartbeats 1000000 in
theorem c_end_full (w0 : World) (H : Nat) (toks : List Tok) (line : Int) (w : World) (h : TSt w0 H toks line true w) (hn : toks.length ≤ 100000) :
    Calls Tryd.prog 23 #[.pointer (some ⟨H + 2, 0, none⟩), .pointer (some ⟨H, 0, none⟩), .pointer (some ⟨H + 1, 0, none⟩)] w fun e w' => e = .returned (.tuple #[]) ∧
      TSt w0 H (toks ++ [⟨4, [], 0, line⟩]) line true w' ∧ (∀ (k : Nat) (a : ByteArray) (b : Nat), w.heap[k]? = some (Obj.stringIter a b) → w'.heap[k]? = some (Obj.stringIter a b)) := by
  obtain ⟨⟨v, h1, hown⟩, h2, h3, hB, hz⟩ := h
  obtain ⟨c1, f1⟩ := cell_blk h1
  obtain ⟨c2, f2⟩ := cell_blk h2
  obtain ⟨c3, f3⟩ := cell_blk h3
  have HO := Lib.hid hown
  have H1 := Lib.hid h1
  have H2 := Lib.hid h2
  have H3 := Lib.hid h3
  have HB := Lib.hid hB
  obtain ⟨i0, hi, hz0, hz1, hz2⟩ := info_parts info31
  clear hown h1 h2 h3 hB
  go_enter Tryd.func23, Tryd.ntmps23
  go_wp2_with (at_builtin; refine wpList_append_own _ rfl _ _ 23 rfl (H + 4) 31 i0 _ 4 40 Tryd.underlying23 hi hz0 hz1 hz2 rfl (by decide) _ _ _ rfl (HO.out.alloc _) ⟨w.heap.size, 0, none⟩ 1 1 [.int .i64 4, .string ⟨#[]⟩, .int .i64 0, .int .i64 line] rfl rfl ?c1 ?c2 ?c3 ?c4 ?c5 ?_)
  case c1 => exact new4
  case c2 => exact one4
  case c3 => unfold maxLen; omega
  case c4 => omega
  case c5 => show H + 4 ≤ (w.heap.push _).size; simp; omega
  intro v' w1 hown1 hg _
  have hw := (TSt.alloc ⟨⟨v, H1.out, HO.out⟩, H2.out, H3.out, HB.out, hz⟩ (.cells #[.int .i64 4, .string ⟨#[]⟩, .int .i64 0, .int .i64 line] 31))
  have hs : (w.alloc (.cells #[.int .i64 4, .string ⟨#[]⟩, .int .i64 0, .int .i64 line] 31)).heap.size = w.heap.size + 1 := by show (w.heap.push _).size = _; simp
  have hv := (heap_alloc_lt (o := .cells #[.int .i64 4, .string ⟨#[]⟩, .int .i64 0, .int .i64 line] 31) (by omega)).trans H1.out
  have hfin := TSt.append hw hv (HO.out.alloc _) ⟨4, [], 0, line⟩ hown1 hg
  have hrow : some H ≠ v.ownBlock := by
    rcases HO.out.2 with ⟨rfl, _⟩ | ⟨g, cap, cur, rfl, hb, _⟩
    · simp [Value.ownBlock]
    · simp [Value.ownBlock]; omega
  obtain ⟨d1, g1⟩ := cell_blk ((hg.block H (by omega) hrow).trans hv)
  obtain ⟨g, cap, hv', _, _⟩ := World.ownsRow.form hown1 (by omega)
  subst hv'
  have HF := Lib.hid hfin
  have hit : Hid (∀ (k : Nat) (a : ByteArray) (b : Nat), w.heap[k]? = some (Obj.stringIter a b) → (w.alloc (.cells #[.int .i64 4, .string ⟨#[]⟩, .int .i64 0, .int .i64 line] 31)).heap[k]? = some (Obj.stringIter a b)) :=
    fun k a b h => (heap_alloc_lt (heap_lt h)).trans h
  clear hfin hown1 hg hw hs hv hrow HO H1 H2 H3 HB c1 f1 c2 f2 c3 f3 hi hz0 hz1 hz2
  go_wp2
  go_end0
  exact ⟨rfl, HF.out.1, fun k a b h => HF.out.2 k a b (hit.out k a b h)⟩
theorem c_end_not (w0 : World) (H : Nat) (toks : List Tok) (line : Int) (w : World) (h : TSt w0 H toks line false w) :
    Calls Tryd.prog 23 #[.pointer (some ⟨H + 2, 0, none⟩), .pointer (some ⟨H, 0, none⟩), .pointer (some ⟨H + 1, 0, none⟩)] w fun e w' => e = .returned (.tuple #[]) ∧ w = w' := by
  obtain ⟨c3, f3⟩ := cell_blk h.full
  clear h
  go_enter Tryd.func23, Tryd.ntmps23
  go_wp2
  go_end0
  exact ⟨rfl, rfl⟩
end Go.Proofs.YtiabiflaecidoaaDoor
