/-
  Plain: Check accepts what Tokens returns.
-/
import Derived.Test.YtiabiflaecidoaaDoorP0
namespace Go.Proofs.YtiabiflaecidoaaDoor

theorem runN_take_self (p : UInt8 → Bool) (l : List UInt8) : runN p (l.take (runN p l)) = (l.take (runN p l)).length := by
  have hle := runN_le p l
  refine runN_eq p _ _ (fun j hj _ => ?_) (Nat.le_refl _) (fun hl => absurd hl (Nat.lt_irrefl _))
  have hj' : j < runN p l := by rw [List.length_take] at hj; omega
  obtain ⟨_, h⟩ := runN_all p l j hj'
  rw [List.getElem_take]; exact h

theorem signN_take_self (l : List UInt8) : signN (l.take (signN l)) = signN l := by
  by_cases h : (Lib.hasPrefix l [33, 61] || Lib.hasPrefix l [60, 61] || Lib.hasPrefix l [62, 61]) = true
  · simp only [Bool.or_eq_true] at h
    have e2 : signN l = 2 := signN_two l (by rcases h with (h | h) | h <;> simp [h])
    rw [e2]
    rcases h with (h | h) | h
    all_goals
      obtain ⟨r, rfl⟩ := prefix_two _ _ _ h
      rfl
  · unfold signN
    rw [if_neg h]
    match l, h with
    | [], h => rfl
    | c :: r, h =>
      simp only
      split
      · rename_i hc
        simp [Lib.hasPrefix, hc]
      · simp [Lib.hasPrefix]

theorem numF_bounds (l : List UInt8) (h : (numF l).2 = true) : 0 ≤ (numF l).1 ∧ (numF l).1 ≤ 1000000000000 := by
  unfold numF at h ⊢
  split at h
  · rename_i hc
    rw [if_pos hc]
    refine ⟨hc.2, ?_⟩
    have h1 := hc.1
    unfold parseI at h1 ⊢
    split at h1
    · rename_i n _
      split at h1
      · rename_i hn
        rw [if_pos hn]
        simp only [Bool.and_eq_true, inB, decide_eq_true_eq] at hn
        simp only
        omega
      · cases h1
    · cases h1
  · cases h

theorem token_form (c : UInt8) (r : List UInt8) (line : Int) (h : (tokenF (c :: r)).2 ≠ 0) :
    formF { (tokenF (c :: r)).1 with line := line } = true ∧ 1 ≤ (tokenF (c :: r)).1.kind ∧ (tokenF (c :: r)).1.kind ≤ 3 ∧ (tokenF (c :: r)).1.text.length ≤ (c :: r).length := by
  unfold tokenF at h ⊢
  by_cases h1 : isLetter c = true
  · simp only [h1, if_true] at h ⊢
    refine ⟨?_, by decide, by decide, by rw [List.length_take]; omega⟩
    have hp := runN_pos isInner c r (letter_inner c h1)
    simp only [formF, if_true, decide_true, Bool.true_and]
    have hs := runN_take_self isInner (c :: r)
    obtain ⟨m, hm⟩ : ∃ m, runN isInner (c :: r) = m + 1 := ⟨runN isInner (c :: r) - 1, by omega⟩
    rw [hm] at hs ⊢
    simp only [List.take_succ_cons] at hs ⊢
    simp only [wordB, h1, Bool.true_and, hs, beq_self_eq_true]
  · simp only [h1, if_false, Bool.false_eq_true] at h ⊢
    by_cases h2 : isDigit c = true
    · simp only [h2, if_true] at h ⊢
      by_cases h3 : (numF ((c :: r).take (runN isDigit (c :: r)))).2 = true
      · simp only [h3, if_true] at h ⊢
        have := numF_bounds _ h3
        refine ⟨?_, by decide, by decide, by simp⟩
        simp [formF, this.1, this.2]
      · simp only [h3, if_false, Bool.false_eq_true] at h ⊢
        exact absurd rfl h
    · simp only [h2, if_false, Bool.false_eq_true] at h ⊢
      refine ⟨?_, by decide, by decide, by rw [List.length_take]; omega⟩
      have hs := signN_take_self (c :: r)
      have hl := signN_le (c :: r)
      have hlen : ((c :: r).take (signN (c :: r))).length = signN (c :: r) := by rw [List.length_take]; omega
      have hne : ((c :: r).take (signN (c :: r))).isEmpty = false := by
        rw [Bool.eq_false_iff]
        intro he
        rw [List.isEmpty_iff] at he
        rw [he] at hlen
        exact h hlen.symm
      simp only [formF, hne, hs, hlen]
      simp

theorem stepC_last (p : Option Tok) (t : Tok) (h : t.kind ≠ 0) (a b : Bool) : stepC p t a = stepC p t b := by
  unfold stepC followsF
  simp [h]

theorem checkL_of_all : ∀ (ts : List Tok) (p : Option Tok), (∀ k (hk : k < ts.length), stepC (if k = 0 then p else ts[k - 1]?) ts[k] (decide (k + 1 = ts.length)) = 0) → checkL p ts = 0
  | [], _, _ => rfl
  | t :: r, p, h => by
    have h0 := h 0 (by simp)
    have e : decide (0 + 1 = (t :: r).length) = r.isEmpty := by cases r <;> simp
    rw [e] at h0
    simp only [if_true, List.getElem_cons_zero] at h0
    rw [checkL, if_neg (by rw [h0]; simp)]
    refine checkL_of_all r (some t) (fun k hk => ?_)
    have hk1 := h (k + 1) (by simpa using hk)
    have e1 : decide (k + 1 + 1 = (t :: r).length) = decide (k + 1 = r.length) := by simp
    have e2 : (if k + 1 = 0 then p else (t :: r)[k + 1 - 1]?) = (if k = 0 then some t else r[k - 1]?) := by
      cases k with
      | zero => rfl
      | succ k => simp
    rw [e1, e2] at hk1
    exact hk1

/-- a list that can still grow: every token follows the one ahead, and none is the end -/
def Pre (ts : List Tok) : Prop := ∀ k (hk : k < ts.length), stepC (prevT ts k) ts[k] false = 0 ∧ ts[k].kind ≠ 0

theorem prevT_append (ts : List Tok) (t : Tok) (k : Nat) (hk : k ≤ ts.length) : prevT (ts ++ [t]) k = prevT ts k := by
  unfold prevT
  split
  · rfl
  · rw [List.getElem?_append_left (by omega)]
theorem prevT_last (ts : List Tok) : prevT ts ts.length = ts.getLast? := by
  unfold prevT
  split
  · rename_i h
    rw [List.eq_nil_of_length_eq_zero h]; rfl
  · rw [List.getLast?_eq_getElem?]

theorem Pre.snoc {ts : List Tok} (h : Pre ts) (t : Tok) (h1 : stepC ts.getLast? t false = 0) (h2 : t.kind ≠ 0) : Pre (ts ++ [t]) := by
  intro k hk
  rw [List.length_append] at hk
  simp only [List.length_cons, List.length_nil] at hk
  by_cases hlt : k < ts.length
  · rw [prevT_append _ _ _ (by omega)]
    simp only [List.getElem_append_left hlt]
    exact h k hlt
  · obtain rfl : k = ts.length := by omega
    rw [prevT_append _ _ _ (Nat.le_refl _), prevT_last]
    simp only [List.getElem_append_right (Nat.le_refl _), Nat.sub_self, List.getElem_cons_zero]
    exact ⟨h1, h2⟩

theorem Pre.closed {ts : List Tok} (h : Pre ts) (t : Tok) (h1 : stepC ts.getLast? t true = 0) (h2 : t.kind = 0) : checkF (ts ++ [t]) = 0 := by
  have h0 : checkL none (ts ++ [t]) = 0 := by
    refine checkL_of_all _ none (fun k hk => ?_)
    show stepC (prevT (ts ++ [t]) k) _ _ = 0
    have hk' := hk
    rw [List.length_append] at hk'
    simp only [List.length_cons, List.length_nil] at hk'
    by_cases hlt : k < ts.length
    · rw [prevT_append _ _ _ (by omega)]
      simp only [List.getElem_append_left hlt]
      rw [stepC_last _ _ (h k hlt).2 _ false]
      exact (h k hlt).1
    · obtain rfl : k = ts.length := by omega
      rw [prevT_append _ _ _ (Nat.le_refl _), prevT_last]
      simp only [List.getElem_append_right (Nat.le_refl _), Nat.sub_self, List.getElem_cons_zero]
      rw [show decide (ts.length + 1 = (ts ++ [t]).length) = true from by simp]
      exact h1
  rw [checkF, if_neg (by omega)]
  simp [h2]

/-- what the scanning keeps -/
structure SInv (N : Nat) (st : St) : Prop where
  pre : Pre st.toks
  line : 1 ≤ st.line
  txt : ∀ t ∈ st.toks, t.text.length ≤ N
  at_full : st.full = true → ∃ b, st.toks.getLast? = some b ∧ b.kind ≠ 4 ∧ b.line = st.line
  at_not : st.full = false → st.toks = [] ∨ ∃ b, st.toks.getLast? = some b ∧ b.kind = 4 ∧ b.line < st.line

theorem getLast_snoc (ts : List Tok) (t : Tok) : (ts ++ [t]).getLast? = some t := by simp

theorem step_tline (b : Tok) (l : Int) (last : Bool) (h1 : b.kind ≠ 4) (h2 : b.line = l) : stepC (some b) ⟨4, [], 0, l⟩ last = 0 := by
  simp [stepC, formF, followsF, h1, h2]
theorem step_more (p : Option Tok) (t : Tok) (l : Int) (hf : formF { t with line := l } = true) (k1 : 1 ≤ t.kind) (k3 : t.kind ≤ 3) (hl : 1 ≤ l)
    (hp : p = none ∨ ∃ b, p = some b ∧ ((b.kind ≠ 4 ∧ b.line = l) ∨ (b.kind = 4 ∧ b.line < l))) : stepC p { t with line := l } false = 0 := by
  unfold stepC
  rw [if_neg (by simp only; omega), if_neg (by rw [hf]; simp)]
  rcases hp with rfl | ⟨b, rfl, hb⟩
  · simp only
    rw [if_neg (by omega), if_neg (by omega)]
  · simp only [followsF]
    rw [if_neg (by omega), if_neg (by omega)]

theorem SInv.step {N : Nat} {st : St} (h : SInv N st) (c : UInt8) (r : List UInt8) (hN : (c :: r).length ≤ N) : SInv N (stepT st (c :: r)) := by
  unfold stepT
  simp only
  split
  · exact ⟨h.pre, h.line, h.txt, h.at_full, h.at_not⟩
  · split
    · cases hf : st.full
      · refine ⟨by simpa [hf] using h.pre, by have := h.line; simp only; omega, by simpa [hf] using h.txt, fun e => by simp at e, fun _ => ?_⟩
        rcases h.at_not hf with e | ⟨b, e1, e2, e3⟩
        · left; simpa [hf] using e
        · right; exact ⟨b, by simpa [hf] using e1, e2, by simp only; omega⟩
      · obtain ⟨b, e1, e2, e3⟩ := h.at_full hf
        simp only [if_true]
        refine ⟨h.pre.snoc _ (by rw [e1]; exact step_tline b _ _ e2 e3) (by simp), by have := h.line; simp only; omega, ?_, fun e => by simp at e, fun _ => .inr ⟨_, getLast_snoc _ _, rfl, by simp only; omega⟩⟩
        intro t ht
        rw [List.mem_append] at ht
        rcases ht with ht | ht
        · exact h.txt t ht
        · simp only [List.mem_singleton] at ht; subst ht; simp
    · split
      · exact h
      · split
        · exact ⟨h.pre, h.line, h.txt, h.at_full, h.at_not⟩
        · split
          · exact ⟨h.pre, h.line, h.txt, h.at_full, h.at_not⟩
          · rename_i hn
            obtain ⟨hf, k1, k3, hx⟩ := token_form c r st.line hn
            refine ⟨h.pre.snoc _ (step_more _ _ _ hf k1 k3 h.line ?_) (by simp only; omega), h.line, ?_, fun _ => ⟨_, getLast_snoc _ _, by simp only; omega, rfl⟩, fun e => by simp at e⟩
            · cases hfl : st.full
              · rcases h.at_not hfl with e | ⟨b, e1, e2, e3⟩
                · left; rw [e]; rfl
                · right; exact ⟨b, e1, .inr ⟨e2, e3⟩⟩
              · obtain ⟨b, e1, e2, e3⟩ := h.at_full hfl
                right; exact ⟨b, e1, .inl ⟨e2, e3⟩⟩
            · intro t ht
              rw [List.mem_append] at ht
              rcases ht with ht | ht
              · exact h.txt t ht
              · simp only [List.mem_singleton] at ht; subst ht; exact Nat.le_trans hx hN

theorem SInv.scan {N : Nat} : ∀ (l : List UInt8) (st : St), l.length ≤ N → SInv N st → SInv N (scan l st)
  | [], st, _, h => h
  | c :: r, st, hN, h => by
    have := h.step c r hN
    unfold Go.Proofs.YtiabiflaecidoaaDoor.scan
    split
    · exact this
    · exact SInv.scan r _ (by simp only [List.length_cons] at hN; omega) this

theorem sinv0 (N : Nat) : SInv N st0 := ⟨fun k hk => absurd hk (by simp [st0]), by simp [st0], fun t ht => by simp [st0] at ht, fun h => by simp [st0] at h, fun _ => .inl rfl⟩

theorem tokensF_good (l : List UInt8) (h : (tokensF l).2.2 = 0) : checkF (tokensF l).1 = 0 := by
  unfold tokensF at h ⊢
  split at h
  · cases h
  · rename_i h1
    rw [if_neg h1]
    split at h
    · cases h
    · rename_i h2
      rw [if_neg h2]
      have hI := SInv.scan l st0 (Nat.le_refl _) (sinv0 _)
      simp only
      cases hf : (scan l st0).full
      · refine hI.pre.closed _ ?_ rfl
        rcases hI.at_not hf with e | ⟨b, e1, e2, e3⟩
        · rw [e]
          have := hI.line
          simp [stepC, formF]; omega
        · rw [e1]
          simp [stepC, formF, followsF, e2]; omega
      · obtain ⟨b, e1, e2, e3⟩ := hI.at_full hf
        simp only [if_true]
        refine (hI.pre.snoc _ (by rw [e1]; exact step_tline b _ _ e2 e3) (by simp)).closed _ ?_ rfl
        rw [getLast_snoc]
        simp [stepC, formF, followsF]

theorem tokensF_txt (l : List UInt8) : ∀ t ∈ (tokensF l).1, t.text.length ≤ l.length := by
  unfold tokensF
  split
  · simp
  · split
    · simp
    · have hI := SInv.scan l st0 (Nat.le_refl _) (sinv0 _)
      intro t ht
      simp only [List.mem_append, List.mem_singleton] at ht
      rcases ht with ht | rfl
      · split at ht
        · rw [List.mem_append] at ht
          rcases ht with ht | ht
          · exact hI.txt t ht
          · simp only [List.mem_singleton] at ht; subst ht; simp
        · exact hI.txt t ht
      · simp
end Go.Proofs.YtiabiflaecidoaaDoor
