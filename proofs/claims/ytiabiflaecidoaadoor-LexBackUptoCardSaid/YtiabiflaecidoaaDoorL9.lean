/-
  Lines of lex; what Check accepts.
-/
import Derived.Test.YtiabiflaecidoaaDoorL8
namespace Go.Proofs.YtiabiflaecidoaaDoor
open Go.RowKit

def count4 (ts : List Tok) : Nat := (ts.filter fun t => t.kind == 4).length
def linesF (ts : List Tok) : Int := if checkF ts ≠ 0 then 0 else count4 ts

theorem count4_le (ts : List Tok) : count4 ts ≤ ts.length := List.length_filter_le _ _
theorem count4_step (ts : List Tok) (k : Nat) (hk : k < ts.length) : count4 (ts.take (k + 1)) = count4 (ts.take k) + (if ts[k].kind = 4 then 1 else 0) := by
  rw [List.take_succ_eq_append_getElem hk, count4, List.filter_append, List.length_append, ← count4]
  congr 1
  by_cases h : ts[k].kind = 4 <;> simp [h]

theorem toks_at {w : World} {v : Value} {B : Nat} {ts : List Tok} (h : Toks w v B ts) : ∃ A cap, v = .slice A ts.length cap := ⟨h.ex.choose, h.ex.choose_spec.choose, h.ex.choose_spec.choose_spec.1⟩

set_option maxRecDepth 100000 in
set_option maxHeartbeats 8000000 in
theorem c_lines (ts : List Tok) (v : Value) (w : World) (h : Toks w v w.heap.size ts) :
    Calls Tryd.prog 15 #[v] w fun e w' => e = .returned (.int .i64 (linesF ts)) ∧ Below w.heap.size w w' := by
  obtain ⟨r, hr⟩ : ∃ r, linesF ts = r := ⟨_, rfl⟩
  rw [hr]
  have HR := Lib.hid hr
  have HT := Lib.hid h
  obtain ⟨⟨A, cap, rfl, hx⟩, hlen, hok⟩ := h
  have HX := Lib.hid hx
  have HO := Lib.hid hok
  clear hr hx hok
  obtain ⟨q, hq⟩ : ∃ q, checkF ts = q := ⟨_, rfl⟩
  have HQ := Lib.hid hq
  clear hq
  by_cases hq0 : q = 0
  · have c1 : (q != 0) = false := by simp [hq0]
    have HRR : Hid (r = count4 ts) := by unfold Hid; rw [← HR.out, linesF, HQ.out, if_neg (by omega)]
    clear hq0
    go_enter Tryd.func15, Tryd.ntmps15
    go_wp2_with (go_at_call 14; refine (c_check ts _ _ HT.out).mono ?_; rw [HQ.out]; rintro e w1 ⟨rfl, hb1⟩; have HB1 := Lib.hid hb1; clear hb1)
    go_loopw [3, 11] (fun c i wr => ∃ k : Nat, k ≤ ts.length ∧ i = .int .i64 k ∧ c = .int .i64 (count4 (ts.take k)) ∧ Hid (Below w.heap.size w wr)) (fun _ i _ => ts.length - (intOf i).toNat)
    case atStart => exact ⟨0, Nat.zero_le _, rfl, rfl, HB1⟩
    case round =>
      obtain ⟨k, hk, rfl, rfl, HB⟩ := hrel
      by_cases hlt : k < ts.length
      · obtain ⟨b, o, rfl, hbB, hc⟩ := HX.out (by omega)
        simp only [← cell_below HB.out hbB] at hc
        obtain ⟨t, ht⟩ : ∃ t, ts[k] = t := ⟨_, rfl⟩
        obtain ⟨x1, x2, x3, x4⟩ := hc k t (by rw [List.getElem?_eq_getElem hlt, ht])
        have hcs := count4_step ts k hlt
        rw [ht] at hcs
        have hcl := count4_le (ts.take k)
        have hcl2 : (ts.take k).length ≤ ts.length := by simp; omega
        have hsz := HB.out.size
        clear hc ht
        obtain ⟨n, hn⟩ : ∃ n, count4 (ts.take k) = n := ⟨_, rfl⟩
        rw [hn] at hcs hcl ⊢
        by_cases h4 : t.kind = 4
        · have b4 := beqT h4
          rw [if_pos h4] at hcs
          have HN := Lib.hid hcs
          clear hn hcs h4
          go_wp2
          go_roundw
          case rel => exact ⟨k + 1, by omega, rfl, by rw [HN.out]; rfl, HB.out.alloc hsz _⟩
          case measure => simp only [intOf]; omega
        · have b4 := beqF h4
          rw [if_neg h4] at hcs
          have HN := Lib.hid hcs
          clear hn hcs h4
          go_wp2
          go_roundw
          case rel => exact ⟨k + 1, by omega, rfl, by rw [HN.out]; rfl, HB.out.alloc hsz _⟩
          case measure => simp only [intOf]; omega
      · obtain rfl : k = ts.length := by omega
        have HRR2 : Hid (r = count4 (ts.take ts.length)) := by unfold Hid; rw [HRR.out, List.take_length]
        go_wp2
        go_ret
        exact ⟨by rw [HRR2.out]; rfl, HB.out⟩
  · have c1 : (q != 0) = true := by simp [hq0]
    have HRR : Hid (r = 0) := by unfold Hid; rw [← HR.out, linesF, HQ.out, if_pos hq0]
    clear hq0
    go_enter Tryd.func15, Tryd.ntmps15
    go_wp2_with (go_at_call 14; refine (c_check ts _ _ HT.out).mono ?_; rw [HQ.out]; rintro e w1 ⟨rfl, hb1⟩; have HB1 := Lib.hid hb1; clear hb1)
    go_ret
    exact ⟨by rw [HRR.out]; rfl, HB1.out⟩

/-- every token of a checked list is checked behind the one ahead of it -/
theorem checkL_all : ∀ (ts : List Tok) (p : Option Tok), checkL p ts = 0 → ∀ k (hk : k < ts.length), stepC (if k = 0 then p else ts[k - 1]?) ts[k] (decide (k + 1 = ts.length)) = 0
  | [], _, _, k, hk => absurd hk (by simp)
  | t :: r, p, h, k, hk => by
    rw [checkL] at h
    by_cases h0 : stepC p t r.isEmpty = 0
    · rw [if_neg (by omega)] at h
      cases k with
      | zero =>
        have : decide (0 + 1 = (t :: r).length) = r.isEmpty := by cases r <;> simp
        rw [this]; exact h0
      | succ k =>
        have hk' : k < r.length := by simpa using hk
        have := checkL_all r (some t) h k hk'
        have e : decide (k + 1 + 1 = (t :: r).length) = decide (k + 1 = r.length) := by simp
        rw [e]
        have e2 : (if k + 1 = 0 then p else (t :: r)[k + 1 - 1]?) = (if k = 0 then some t else r[k - 1]?) := by
          cases k with
          | zero => rfl
          | succ k => simp
        rw [e2]
        exact this
    · rw [if_pos h0] at h; exact absurd h h0

structure Good (ts : List Tok) : Prop where
  step : ∀ k (hk : k < ts.length), stepC (prevT ts k) ts[k] (decide (k + 1 = ts.length)) = 0
  last : ∃ h : 0 < ts.length, (ts[ts.length - 1]'(by omega)).kind = 0

theorem good_of {ts : List Tok} (h : checkF ts = 0) : Good ts := by
  have h0 : checkL none ts = 0 := by
    by_cases hz : checkL none ts = 0
    · exact hz
    · rw [checkF, if_pos hz] at h; exact h
  refine ⟨fun k hk => ?_, ?_⟩
  · exact checkL_all ts none h0 k hk
  · rw [checkF, if_neg (by omega)] at h
    cases hl : ts.getLast? with
    | none => rw [hl] at h; cases h
    | some t =>
      rw [hl] at h
      have hne : ts ≠ [] := by rintro rfl; simp at hl
      have hpos : 0 < ts.length := List.length_pos_iff.2 hne
      refine ⟨hpos, ?_⟩
      rw [List.getLast?_eq_getElem?, List.getElem?_eq_getElem (by omega)] at hl
      simp only [Option.some.injEq] at hl
      rw [hl]
      by_cases hk : t.kind = 0
      · exact hk
      · simp only [hk, if_false] at h; cases h

theorem stepC_zero {p : Option Tok} {t : Tok} {last : Bool} (h : stepC p t last = 0) : 0 ≤ t.kind ∧ t.kind ≤ 4 ∧ formF t = true ∧
    (match p with
     | none => t.kind ≠ 4 ∧ (t.kind = 0 → last = true) ∧ 1 ≤ t.line
     | some b => ¬(t.kind = 4 ∧ b.kind = 4) ∧ (t.kind = 0 → last = true ∧ b.kind = 4) ∧ (b.kind ≠ 4 → t.line = b.line) ∧ (b.kind = 4 → t.kind = 0 → b.line ≤ t.line) ∧ (b.kind = 4 → t.kind ≠ 0 → b.line < t.line)) := by
  unfold stepC at h
  split at h
  · cases h
  · rename_i h1
    split at h
    · cases h
    · rename_i h2
      refine ⟨by omega, by omega, by simpa using h2, ?_⟩
      cases p with
      | none =>
        simp only at h ⊢
        split at h
        · cases h
        · rename_i h3
          split at h
          · cases h
          · refine ⟨fun e => h3 (.inl e), fun e => ?_, by omega⟩
            cases last
            · exact absurd (.inr ⟨e, rfl⟩) h3
            · rfl
      | some b =>
        simp only at h ⊢
        unfold followsF at h
        split at h
        · cases h
        · rename_i h3
          split at h
          · cases h
          · rename_i h4
            refine ⟨fun e => h3 (.inl e), fun e => ⟨?_, ?_⟩, fun e => ?_, fun e e2 => ?_, fun e e2 => ?_⟩
            · cases last
              · exact absurd (.inr ⟨e, .inl rfl⟩) h3
              · rfl
            · by_cases hb : b.kind = 4
              · exact hb
              · exact absurd (.inr ⟨e, .inr hb⟩) h3
            · by_cases hl : t.line = b.line
              · exact hl
              · exact absurd (.inl ⟨e, hl⟩) h4
            · by_cases hl : b.line ≤ t.line
              · exact hl
              · exact absurd (.inr (.inl ⟨e, e2, by omega⟩)) h4
            · by_cases hl : b.line < t.line
              · exact hl
              · exact absurd (.inr (.inr ⟨e, e2, by omega⟩)) h4

theorem Good.next {ts : List Tok} (h : Good ts) (k : Nat) (hk : k + 1 < ts.length) : (ts[k]'(by omega)).line ≤ (ts[k + 1]'hk).line := by
  have hs := h.step (k + 1) hk
  have e : prevT ts (k + 1) = some (ts[k]'(by omega)) := by simp [prevT]
  rw [e] at hs
  have := (stepC_zero hs).2.2.2
  simp only at this
  obtain ⟨_, _, h1, h2, h3⟩ := this
  by_cases hb : (ts[k]'(by omega)).kind = 4
  · by_cases ht : (ts[k + 1]'hk).kind = 0
    · exact h2 hb ht
    · have := h3 hb ht; omega
  · have := h1 hb; omega
theorem Good.mono {ts : List Tok} (h : Good ts) (j : Nat) : ∀ (d : Nat) (hk : j + d < ts.length), (ts[j]'(by omega)).line ≤ (ts[j + d]'hk).line := by
  intro d
  induction d with
  | zero => intro _; exact Int.le_refl _
  | succ d ih => intro hk; exact Int.le_trans (ih (by omega)) (h.next (j + d) hk)
theorem Good.first {ts : List Tok} (h : Good ts) (k : Nat) (hk : k < ts.length) : 1 ≤ ts[k].line := by
  have hs := h.step 0 (by omega)
  have e : prevT ts 0 = none := rfl
  rw [e] at hs
  have h0 := (stepC_zero hs).2.2.2
  simp only at h0
  have := h.mono 0 k (by omega)
  simp only [Nat.zero_add] at this
  omega
end Go.Proofs.YtiabiflaecidoaaDoor
