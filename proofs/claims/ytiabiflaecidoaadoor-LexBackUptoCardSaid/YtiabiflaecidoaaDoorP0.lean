/-
  what Tokens returns is a list of tokens; worked examples.
-/
import Derived.Test.YtiabiflaecidoaaDoorL10
namespace Go.Proofs.YtiabiflaecidoaaDoor
open Go.RowKit

def lit (k : Int) (s : List UInt8) (n l : Int) : Tok := ⟨k, s, n, l⟩
def ex1 : List Tok := [⟨1, [120], 0, 1⟩, ⟨3, [60, 61], 0, 1⟩, ⟨2, [], 10, 1⟩, ⟨4, [], 0, 1⟩, ⟨0, [], 0, 1⟩]
def ex3 : List Tok := [⟨1, [97], 0, 2⟩, ⟨4, [], 0, 2⟩, ⟨0, [], 0, 3⟩]
theorem ex1_tokens : tokensF [120, 60, 61, 49, 48, 32, 35, 32, 115, 109, 97, 108, 108] = (ex1, 0, 0) := by kernel_rfl
theorem ex2_tokens : tokensF [97, 10, 98, 32, 33, 32, 99] = ([], 2, 8) := by kernel_rfl
theorem ex_num : numF [49, 48] = (10, true) := by kernel_rfl
theorem ex3_text : textF ex3 = ([10, 97, 10], 0) := by kernel_rfl
theorem ex1_lines : linesF ex1 = 1 := by kernel_rfl
theorem nil_check : checkF [] = 8 := by kernel_rfl
theorem Toks.mono {w : World} {v : Value} {B B' : Nat} {ts : List Tok} (h : Toks w v B ts) (hB : B ≤ B') : Toks w v B' ts := by
  obtain ⟨⟨A, cap, hv, hx⟩, h2, h3⟩ := h
  refine ⟨⟨A, cap, hv, fun h0 => ?_⟩, h2, h3⟩
  obtain ⟨b, o, hA, hB1, hc⟩ := hx h0
  exact ⟨b, o, hA, Nat.lt_of_lt_of_le hB1 hB, hc⟩
theorem Toks.more {w w' : World} {v : Value} {ts : List Tok} (h : Toks w v w.heap.size ts) (hb : Below w.heap.size w w') : Toks w' v w'.heap.size ts := (h.below hb).mono hb.size
theorem toks_nil (w : World) (B cap : Nat) (A : Option Addr) : Toks w (.slice A 0 cap) B [] := ⟨⟨A, cap, rfl, fun h => absurd h (by simp)⟩, by simp, fun t h => by cases h⟩

theorem toks_of_own {w : World} {B : Nat} {v : Value} {ts : List Tok} (h : w.ownsRow B 31 4 v ts.length (flatT ts)) (hl : ts.length ≤ 281474976710656) (ho : ∀ t ∈ ts, t.text.length ≤ 281474976710656) : Toks w v w.heap.size ts := by
  refine ⟨?_, hl, ho⟩
  rcases h.2 with ⟨rfl, h0⟩ | ⟨g, cap, cur, rfl, hg, hh, h1, h2, h3, h4⟩
  · refine ⟨none, 0, ?_, fun h => absurd h (by omega)⟩
    rw [h0]
  · refine ⟨some ⟨g, 0, none⟩, cap, rfl, fun _ => ⟨g, 0, rfl, heap_some_lt hh, fun k t hk => ?_⟩⟩
    have hkl : k < ts.length := (List.getElem?_eq_some_iff.1 hk).1
    have hc : ∀ j, j < 4 → w.cell? ⟨g, 0 + k * 4 + j, none⟩ = t.cells.toList[j]? := fun j hj => by
      have e := flatT_get ts k t j hk hj
      rw [← h4, List.getElem?_take_of_lt (by omega), Array.getElem?_toList] at e
      rw [← e, Nat.zero_add]
      simp [World.cell?, hh]
    exact ⟨hc 0 (by decide), hc 1 (by decide), hc 2 (by decide), hc 3 (by decide)⟩

theorem toks_new3 (W : World) : Toks (W.alloc (.cells #[.int .i64 1, .string ⟨#[97]⟩, .int .i64 0, .int .i64 2, .int .i64 4, .string ⟨#[]⟩, .int .i64 0, .int .i64 2, .int .i64 0, .string ⟨#[]⟩, .int .i64 0, .int .i64 3] 31)) (.slice (some ⟨W.heap.size, 0, none⟩) 3 3) (W.heap.size + 1) ex3 := by
  refine ⟨⟨_, _, rfl, fun _ => ⟨W.heap.size, 0, rfl, by omega, fun k t hk => ?_⟩⟩, by decide, by decide⟩
  have hh : ∀ c : Array Value, (W.alloc (.cells c 31)).heap[W.heap.size]? = some (.cells c 31 (0, 0)) := fun c => by show (W.heap.push _)[W.heap.size]? = _; simp
  match k, hk with
  | 0, hk => cases hk; exact ⟨(Lib.cell_of_heap (hh _) _).trans rfl, (Lib.cell_of_heap (hh _) _).trans rfl, (Lib.cell_of_heap (hh _) _).trans rfl, (Lib.cell_of_heap (hh _) _).trans rfl⟩
  | 1, hk => cases hk; exact ⟨(Lib.cell_of_heap (hh _) _).trans rfl, (Lib.cell_of_heap (hh _) _).trans rfl, (Lib.cell_of_heap (hh _) _).trans rfl, (Lib.cell_of_heap (hh _) _).trans rfl⟩
  | 2, hk => cases hk; exact ⟨(Lib.cell_of_heap (hh _) _).trans rfl, (Lib.cell_of_heap (hh _) _).trans rfl, (Lib.cell_of_heap (hh _) _).trans rfl, (Lib.cell_of_heap (hh _) _).trans rfl⟩

set_option maxRecDepth 100000 in
set_option maxHeartbeats 8000000 in
theorem c_awake (w : World) (hL : Laid w) : Calls Tryd.prog 10 #[] w fun e w' => e = .returned (.bool true) ∧ Below w.heap.size w w' := by
  have HL := Lib.hid hL
  clear hL
  go_enter Tryd.func10, Tryd.ntmps10
  go_wp2_with (fail)
  have h1 := c_tokens ⟨#[120, 60, 61, 49, 48, 32, 35, 32, 115, 109, 97, 108, 108]⟩ (by decide) w HL.out
  rw [show tokensF (⟨#[120, 60, 61, 49, 48, 32, 35, 32, 115, 109, 97, 108, 108]⟩ : ByteArray).data.toList = (ex1, 0, 0) from ex1_tokens] at h1
  refine h1.mono ?_
  clear h1
  rintro e w1 ⟨v1, rfl, ho1, hb1⟩
  have ht1 := toks_of_own ho1 (by decide) (by decide)
  obtain ⟨g1, cap1, hv1, _, _⟩ := World.ownsRow.form ho1 (by decide)
  subst hv1
  have HT1 := Lib.hid ht1
  have HB1 := Lib.hid hb1
  clear ho1 ht1 hb1
  go_wp2_with (fail)
  have h2 := c_tokens ⟨#[97, 10, 98, 32, 33, 32, 99]⟩ (by decide) w1 (HL.out.below HB1.out)
  rw [show tokensF (⟨#[97, 10, 98, 32, 33, 32, 99]⟩ : ByteArray).data.toList = ([], 2, 8) from ex2_tokens] at h2
  refine h2.mono ?_
  clear h2
  rintro e w2 ⟨v2, rfl, _, hb2⟩
  have HT2 := Lib.hid (HT1.out.more hb2)
  have HB2 := Lib.hid (HB1.out.trans (hb2.mono HB1.out.size))
  clear hb2 HT1 HB1
  go_wp2_with (fail)
  have h3 := c_number ⟨#[49, 48]⟩ (by decide) w2 (HL.out.below HB2.out)
  rw [show numF (⟨#[49, 48]⟩ : ByteArray).data.toList = (10, true) from ex_num] at h3
  refine h3.mono ?_
  clear h3
  rintro e w3 ⟨rfl, hb3⟩
  have HT3 := Lib.hid (HT2.out.more hb3)
  have HB3 := Lib.hid (HB2.out.trans (hb3.mono HB2.out.size))
  clear hb3 HT2 HB2
  go_wp2_with (fail)
  have h4 := c_ltext ex3 (.slice (some ⟨w3.heap.size, 0, none⟩) 3 3) _ (HL.out.below (HB3.out.alloc HB3.out.size (.cells #[.int .i64 1, .string ⟨#[97]⟩, .int .i64 0, .int .i64 2, .int .i64 4, .string ⟨#[]⟩, .int .i64 0, .int .i64 2, .int .i64 0, .string ⟨#[]⟩, .int .i64 0, .int .i64 3] 31))) ((toks_new3 w3).mono (by rw [size_alloc']; exact Nat.le_refl _)) (by decide)
  rw [ex3_text] at h4
  refine h4.mono ?_
  clear h4
  rintro e w4 ⟨rfl, hb4⟩
  have HT4 := Lib.hid ((HT3.out.more ((Below.refl _ _).alloc (Nat.le_refl _) _)).more hb4)
  have HB4 := Lib.hid ((HB3.out.alloc HB3.out.size _).trans (hb4.mono (by rw [size_alloc']; exact Nat.le_succ_of_le HB3.out.size)))
  clear hb4 HT3 HB3
  obtain ⟨A, cap, hv, hx⟩ := HT4.out.ex
  obtain ⟨b, o, rfl, _, hc⟩ := hx (by decide)
  injection hv with e1 e2 e3
  cases e1
  have hx1 := hc 1 ⟨3, [60, 61], 0, 1⟩ rfl
  have hx2 := hc 2 ⟨2, [], 10, 1⟩ rfl
  simp only [Nat.zero_add, Nat.one_mul, Nat.reduceMul, Nat.reduceAdd] at hx1 hx2
  obtain ⟨x1, x2, x3, x4⟩ := hx1
  obtain ⟨y1, y2, y3, y4⟩ := hx2
  clear hc e2 e3 hx
  have hlen : ((ex1.length : Int) == 5) = true := rfl
  have hlen1 : (1 : Int) < (ex1.length : Int) := by decide
  have hlen2 : (2 : Int) < (ex1.length : Int) := by decide
  go_wp2_with (fail)
  have h5 := c_lines ex1 _ w4 HT4.out
  rw [ex1_lines] at h5
  refine h5.mono ?_
  clear h5
  rintro e w5 ⟨rfl, hb5⟩
  have HB5 := Lib.hid (HB4.out.trans (hb5.mono HB4.out.size))
  clear hb5 x1 x2 x3 x4 y1 y2 y3 y4
  go_wp2_with (fail)
  have h6 := c_check [] (.slice none 0 0) w5 (toks_nil _ _ _ _)
  rw [nil_check] at h6
  refine h6.mono ?_
  clear h6
  rintro e w6 ⟨rfl, hb6⟩
  have HB6 := Lib.hid (HB5.out.trans (hb6.mono HB5.out.size))
  clear hb6
  go_wp2
  go_ret
  exact ⟨rfl, HB6.out⟩
end Go.Proofs.YtiabiflaecidoaaDoor
