/-
  form and follows of lex.
-/
import Derived.Test.YtiabiflaecidoaaDoorL6
namespace Go.Proofs.YtiabiflaecidoaaDoor
open Go.RowKit

def formF (t : Tok) : Bool :=
  if t.kind = 1 then decide (t.n = 0) && wordB t.text
  else if t.kind = 2 then t.text.isEmpty && decide (0 ≤ t.n) && decide (t.n ≤ 1000000000000)
  else if t.kind = 3 then decide (t.n = 0) && !t.text.isEmpty && decide (signN t.text = t.text.length)
  else decide (t.n = 0) && t.text.isEmpty
def followsF (b t : Tok) (last : Bool) : Int :=
  if (t.kind = 4 ∧ b.kind = 4) ∨ (t.kind = 0 ∧ (last = false ∨ b.kind ≠ 4)) then 8
  else if (b.kind ≠ 4 ∧ t.line ≠ b.line) ∨ (b.kind = 4 ∧ t.kind = 0 ∧ t.line < b.line) ∨ (b.kind = 4 ∧ t.kind ≠ 0 ∧ t.line ≤ b.line) then 12
  else 0

theorem beqT {a b : Int} (h : a = b) : (a == b) = true := by rw [h]; exact beq_self_eq_true b
theorem beqF {a b : Int} (h : a ≠ b) : (a == b) = false := beq_eq_false_iff_ne.2 h

theorem quiet_add_left {P : Program} {f : FuncId} {args : Array Value} {w : World} {a n : Nat} {v : Value}
    (h : Calls P f args (w.drewN (a + n)) fun e w' => e = .returned v ∧ w.drewN (a + n) = w') :
    Calls P f args (w.drewN (a + n)) fun e w'' => e = .returned v ∧ ∃ m, w'' = w.drewN (a + m) :=
  h.mono fun _ _ ⟨he, hm⟩ => ⟨he, n, hm.symm⟩
theorem quiet_left {P : Program} {f : FuncId} {args : Array Value} {w : World} {n : Nat} {v : Value}
    (h : Calls P f args (w.drewN n) fun e w' => e = .returned v ∧ w.drewN n = w') : Calls P f args (w.drewN n) fun e w'' => e = .returned v ∧ ∃ m, w'' = w.drewN m :=
  h.mono fun _ _ ⟨he, hm⟩ => ⟨he, n, hm.symm⟩

def tokV (t : Tok) : Value := .agg #[.int .i64 t.kind, .string ⟨t.text.toArray⟩, .int .i64 t.n, .int .i64 t.line]

set_option maxRecDepth 100000 in
theorem c_form (t : Tok) (hs : t.text.length ≤ 281474976710656) (w : World) :
    Calls Tryd.prog 28 #[tokV t] w fun e w' => e = .returned (.bool (formF t)) ∧ Below w.heap.size w w' := by
  obtain ⟨r, hr⟩ : ∃ r, formF t = r := ⟨_, rfl⟩
  rw [hr]
  have HS : Hid ((⟨t.text.toArray⟩ : ByteArray).size ≤ 281474976710656) := by unfold Hid; show t.text.toArray.size ≤ _; simpa using hs
  have HL : Hid ((⟨t.text.toArray⟩ : ByteArray).data.toList = t.text) := by unfold Hid; simp
  have HN : Hid (((⟨t.text.toArray⟩ : ByteArray).size : Int) = t.text.length) := by unfold Hid; show ((t.text.toArray.size : Nat) : Int) = _; simp
  have HR := Lib.hid hr
  clear hr hs
  have HNB : Hid (((signN t.text : Int) == (t.text.length : Int)) = decide (signN t.text = t.text.length)) := by
    unfold Hid
    by_cases h : signN t.text = t.text.length
    · rw [h]; simp
    · rw [beqF (by omega)]; simp [h]
  have HE : Hid ((⟨t.text.toArray⟩ : ByteArray) = ⟨#[]⟩ ↔ t.text = []) := by
    unfold Hid
    constructor
    · intro h
      have h2 := congrArg (fun x : ByteArray => x.data.toList) h
      simpa using h2
    · intro h; rw [h]
  unfold tokV
  obtain ⟨s, hsd⟩ : ∃ s : ByteArray, (⟨t.text.toArray⟩ : ByteArray) = s := ⟨_, rfl⟩
  rw [hsd] at HS HL HN HE ⊢
  clear hsd
  have HEE : Hid ((s.toList.isEmpty) = t.text.isEmpty) := by unfold Hid; rw [Lib.toList_data, HL.out]
  have CS : Hid (∀ w, Calls Tryd.prog 43 #[.string s] w fun e w' => e = .returned (.int .i64 (signN t.text)) ∧ w = w') := fun w => by
    have := c_sign s w
    rwa [HL.out] at this
  rw [← HN.out] at HNB
  obtain ⟨te, hte⟩ : ∃ te, t.text.isEmpty = te := ⟨_, rfl⟩
  rw [hte] at HEE
  have HTE := Lib.hid hte
  have hse := HEE.out
  clear hte
  by_cases h1 : t.kind = 1
  · by_cases hn : t.n = 0
    · have b1 := beqT h1
      have b2 := beqT hn
      have HRR : Hid (r = wordB t.text) := by unfold Hid; rw [← HR.out]; simp [formF, h1, hn]
      clear HR h1 hn
      go_enter Tryd.func28, Tryd.ntmps28
      go_wp2_with (go_at_call 46; refine (c_word _ HS.out _).mono ?_; rw [HL.out]; rintro e w3 ⟨rfl, rfl⟩)
      go_ret
      exact ⟨by rw [HRR.out]; rfl, by go_grown⟩
    · have b1 := beqT h1
      have b2 := beqF hn
      have HRR : Hid (r = false) := by unfold Hid; rw [← HR.out]; simp [formF, h1, hn]
      clear HR h1 hn
      go_enter Tryd.func28, Tryd.ntmps28
      go_wp2
      go_ret
      exact ⟨by rw [HRR.out]; rfl, by go_grown⟩
  · by_cases h2 : t.kind = 2
    · have b1 := beqF h1
      have b2 := beqT h2
      by_cases c1 : te = true
      · by_cases c2 : 0 ≤ t.n
        · by_cases c3 : t.n ≤ 1000000000000
          · have HRR : Hid (r = true) := by unfold Hid; rw [← HR.out]; simp [formF, h2, HTE.out, c1, c2, c3]
            subst c1
            clear HR h1 h2
            go_enter Tryd.func28, Tryd.ntmps28
            go_wp2
            go_ret
            exact ⟨by rw [HRR.out]; rfl, by go_grown⟩
          · have HRR : Hid (r = false) := by unfold Hid; rw [← HR.out]; simp [formF, h2, HTE.out, c1, c2, c3]
            subst c1
            clear HR h1 h2
            go_enter Tryd.func28, Tryd.ntmps28
            go_wp2
            go_ret
            exact ⟨by rw [HRR.out]; rfl, by go_grown⟩
        · have HRR : Hid (r = false) := by unfold Hid; rw [← HR.out]; simp [formF, h2, HTE.out, c1, c2]
          subst c1
          clear HR h1 h2
          go_enter Tryd.func28, Tryd.ntmps28
          go_wp2
          go_ret
          exact ⟨by rw [HRR.out]; rfl, by go_grown⟩
      · have c1' : te = false := by simpa using c1
        have HRR : Hid (r = false) := by unfold Hid; rw [← HR.out]; simp [formF, h2, HTE.out, c1']
        subst c1'
        clear HR h1 h2
        go_enter Tryd.func28, Tryd.ntmps28
        go_wp2
        go_ret
        exact ⟨by rw [HRR.out]; rfl, by go_grown⟩
    · by_cases h3 : t.kind = 3
      · have b1 := beqF h1
        have b2 := beqF h2
        have b3 := beqT h3
        by_cases hn : t.n = 0
        · have b4 := beqT hn
          by_cases c1 : te = true
          · have HRR : Hid (r = false) := by unfold Hid; rw [← HR.out]; simp [formF, h3, HTE.out, c1]
            subst c1
            clear HR h1 h2 h3 hn
            go_enter Tryd.func28, Tryd.ntmps28
            go_wp2_with (fail)
            go_quiet (fail)
            go_wp2
            go_ret
            exact ⟨by rw [HRR.out]; rfl, below_drewN (by go_grown) _⟩
          · have c1' : te = false := by simpa using c1
            have HRR : Hid (r = decide (signN t.text = t.text.length)) := by unfold Hid; rw [← HR.out]; simp [formF, h3, hn, HTE.out, c1']
            subst c1'
            clear HR h1 h2 h3 hn
            go_enter Tryd.func28, Tryd.ntmps28
            go_wp2_with (fail)
            go_quiet ((go_at_call 43; exact quiet_left (CS.out _)))
            go_wp2
            go_ret
            exact ⟨by rw [HRR.out]; exact congrArg (fun b => Ending.returned (.bool b)) HNB.out, below_drewN (by go_grown) _⟩
        · have b4 := beqF hn
          have HRR : Hid (r = false) := by unfold Hid; rw [← HR.out]; simp [formF, h3, hn]
          clear HR h1 h2 h3 hn
          go_enter Tryd.func28, Tryd.ntmps28
          go_wp2_with (fail)
          go_quiet (fail)
          go_wp2
          go_ret
          exact ⟨by rw [HRR.out]; rfl, below_drewN (by go_grown) _⟩
      · have b1 := beqF h1
        have b2 := beqF h2
        have b3 := beqF h3
        by_cases hn : t.n = 0
        · have b4 := beqT hn
          have HRR : Hid (r = te) := by unfold Hid; rw [← HR.out]; simp [formF, h1, h2, h3, HTE.out, hn]
          clear HR h1 h2 h3 hn
          go_enter Tryd.func28, Tryd.ntmps28
          go_wp2
          go_ret
          exact ⟨by rw [HRR.out]; rfl, by go_grown⟩
        · have b4 := beqF hn
          have HRR : Hid (r = false) := by unfold Hid; rw [← HR.out]; simp [formF, h1, h2, h3, hn]
          clear HR h1 h2 h3 hn
          go_enter Tryd.func28, Tryd.ntmps28
          go_wp2
          go_ret
          exact ⟨by rw [HRR.out]; rfl, by go_grown⟩

set_option maxRecDepth 100000 in
set_option maxHeartbeats 4000000 in
theorem c_follows (b t : Tok) (last : Bool) (w : World) :
    Calls Tryd.prog 29 #[tokV b, tokV t, .bool last] w fun e w' => e = .returned (.int .i64 (followsF b t last)) ∧ Below w.heap.size w w' := by
  obtain ⟨r, hr⟩ : ∃ r, followsF b t last = r := ⟨_, rfl⟩
  rw [hr]
  have HR := Lib.hid hr
  clear hr
  unfold tokV
  have hline : (t.line < b.line ∨ t.line = b.line ∨ b.line < t.line) := by omega
  cases last
  all_goals by_cases h1 : t.kind = 4
  all_goals by_cases h2 : b.kind = 4
  all_goals by_cases h3 : t.kind = 0
  all_goals try (exfalso; omega)
  all_goals first | have b1 := beqT h1 | have b1 := beqF h1
  all_goals first | have b2 := beqT h2 | have b2 := beqF h2
  all_goals first | have b3 := beqT h3 | have b3 := beqF h3
  all_goals rcases hline with hl | hl | hl
  all_goals have g1 : (t.line == b.line) = decide (t.line = b.line) := by rw [Bool.eq_iff_iff]; simp
  all_goals
    first
    | rw [decide_eq_true (by omega)] at g1
    | rw [decide_eq_false (by omega)] at g1
  all_goals have HRR := HR.out
  all_goals simp [followsF, h1, h2, h3] at HRR
  all_goals
    first
    | rw [if_pos (by omega)] at HRR
    | rw [if_neg (by omega)] at HRR
    | skip
  all_goals replace HRR := Lib.hid HRR
  all_goals clear HR
  all_goals go_enter Tryd.func29, Tryd.ntmps29
  all_goals go_wp2
  all_goals go_ret
  all_goals first | exact ⟨by rw [← HRR.out]; rfl, by go_grown⟩ | (exfalso; omega) | (exfalso; rename_i hx; simp [h3] at hx; omega)
end Go.Proofs.YtiabiflaecidoaaDoor
