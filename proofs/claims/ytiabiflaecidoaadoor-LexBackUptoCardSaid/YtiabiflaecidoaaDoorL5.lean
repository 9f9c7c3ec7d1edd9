/-
  The plain scanning of a text into tokens, byte by byte; what the decoding of a byte from 128 on gives.
-/
import Derived.Test.YtiabiflaecidoaaDoorL3
import Derived.Lib.OthersKept
namespace Go.Proofs.YtiabiflaecidoaaDoor
set_option linter.all false

/-- where the scanning stands -/
structure St where
  line : Int
  full : Bool
  comment : Bool
  skip : Nat
  toks : List Tok
  wrong : Bool
def st0 : St := ⟨1, false, false, 0, [], false⟩
/-- one byte -/
def stepT (st : St) (l : List UInt8) : St :=
  match l with
  | [] => st
  | c :: _ =>
    if 0 < st.skip then { st with skip := st.skip - 1 }
    else if c.toNat = 10 then { st with toks := (if st.full then st.toks ++ [⟨4, [], 0, st.line⟩] else st.toks), line := st.line + 1, full := false, comment := false }
    else if st.comment = true ∨ c.toNat = 32 ∨ c.toNat = 9 then st
    else if c.toNat = 35 then { st with comment := true }
    else if (tokenF l).2 = 0 then { st with wrong := true }
    else { st with toks := st.toks ++ [{ (tokenF l).1 with line := st.line }], full := true, skip := (tokenF l).2 - 1 }
def scan : List UInt8 → St → St
  | [], st => st
  | c :: r, st => if (stepT st (c :: r)).wrong = true then stepT st (c :: r) else scan r (stepT st (c :: r))
/-- the tokens, the line of an error, the error -/
def tokensF (l : List UInt8) : List Tok × Int × Int :=
  if 20000 < l.length then ([], 0, 6)
  else if (scan l st0).wrong = true then ([], (scan l st0).line, 8)
  else ((if (scan l st0).full then (scan l st0).toks ++ [⟨4, [], 0, (scan l st0).line⟩] else (scan l st0).toks) ++ [⟨0, [], 0, (scan l st0).line⟩], 0, 0)

theorem drop_cons (s : ByteArray) (p : Nat) (h : p < s.size) : s.data.toList.drop p = s[p] :: s.data.toList.drop (p + 1) := by
  rw [List.drop_eq_getElem_cons (by rw [len_toList]; exact h)]; rfl
theorem scan_step (s : ByteArray) (p : Nat) (h : p < s.size) (st : St) (hw : (stepT st (s.data.toList.drop p)).wrong = false) :
    scan (s.data.toList.drop p) st = scan (s.data.toList.drop (p + 1)) (stepT st (s.data.toList.drop p)) := by
  rw [drop_cons s p h] at hw ⊢
  rw [scan, if_neg (by rw [hw]; simp)]
theorem scan_wrong (s : ByteArray) (p : Nat) (h : p < s.size) (st : St) (hw : (stepT st (s.data.toList.drop p)).wrong = true) :
    scan (s.data.toList.drop p) st = stepT st (s.data.toList.drop p) := by
  rw [drop_cons s p h] at hw ⊢
  rw [scan, if_pos hw]
theorem scan_end (s : ByteArray) (p : Nat) (h : ¬ p < s.size) (st : St) : scan (s.data.toList.drop p) st = st := by
  rw [List.drop_of_length_le (by rw [len_toList]; omega)]; rfl

theorem step_skip (c : UInt8) (r : List UInt8) (st : St) (h : 0 < st.skip) : stepT st (c :: r) = { st with skip := st.skip - 1 } := by simp [stepT, h]
theorem step_line (c : UInt8) (r : List UInt8) (st : St) (h : st.skip = 0) (hc : c.toNat = 10) : stepT st (c :: r) = { st with toks := (if st.full then st.toks ++ [⟨4, [], 0, st.line⟩] else st.toks), line := st.line + 1, full := false, comment := false } := by simp [stepT, h, hc]
theorem step_pass (c : UInt8) (r : List UInt8) (st : St) (h : st.skip = 0) (hc : c.toNat ≠ 10) (hp : st.comment = true ∨ c.toNat = 32 ∨ c.toNat = 9) : stepT st (c :: r) = st := by
  unfold stepT; simp only [h]; rw [if_neg (by omega), if_neg hc, if_pos hp]
theorem step_hash (c : UInt8) (r : List UInt8) (st : St) (h : st.skip = 0) (hp : st.comment = false) (hc : c.toNat = 35) : stepT st (c :: r) = { st with comment := true } := by
  unfold stepT; simp only [h, hp, hc]; rw [if_neg (by omega), if_neg (by omega), if_neg (by simp), if_pos (by simp)]
theorem step_bad (c : UInt8) (r : List UInt8) (st : St) (h : st.skip = 0) (hc : c.toNat ≠ 10 ∧ c.toNat ≠ 32 ∧ c.toNat ≠ 9 ∧ c.toNat ≠ 35) (hp : st.comment = false) (ht : (tokenF (c :: r)).2 = 0) : stepT st (c :: r) = { st with wrong := true } := by
  unfold stepT; simp only [h]; rw [if_neg (by omega), if_neg hc.1, if_neg (by simp [hp, hc]), if_neg hc.2.2.2, if_pos ht]
theorem step_tok (c : UInt8) (r : List UInt8) (st : St) (h : st.skip = 0) (hc : c.toNat ≠ 10 ∧ c.toNat ≠ 32 ∧ c.toNat ≠ 9 ∧ c.toNat ≠ 35) (hp : st.comment = false) (ht : (tokenF (c :: r)).2 ≠ 0) :
    stepT st (c :: r) = { st with toks := st.toks ++ [{ (tokenF (c :: r)).1 with line := st.line }], full := true, skip := (tokenF (c :: r)).2 - 1 } := by
  unfold stepT; simp only [h]; rw [if_neg (by omega), if_neg hc.1, if_neg (by simp [hp, hc]), if_neg hc.2.2.2, if_neg ht]

/-- in a comment, bytes other than line feeds change nothing -/
theorem scan_comment (s : ByteArray) (st : St) (hc : st.comment = true) (hs : st.skip = 0) (hw : st.wrong = false) : ∀ (n p : Nat), p + n ≤ s.size → (∀ j (hj : p + j < s.size), j < n → s[p + j].toNat ≠ 10) →
    scan (s.data.toList.drop p) st = scan (s.data.toList.drop (p + n)) st := by
  intro n
  induction n with
  | zero => intro p _ _; rfl
  | succ n ih =>
    intro p hp h
    have hlt : p < s.size := by omega
    have e : stepT st (s.data.toList.drop p) = st := by rw [drop_cons s p hlt]; exact step_pass _ _ _ hs (h 0 hlt (by omega)) (.inl hc)
    rw [scan_step s p hlt st (by rw [e]; exact hw), e, ih (p + 1) (by omega) (fun j hj hjn => by
      have := h (j + 1) (by omega) (by omega)
      rw [show p + 1 + j = p + (j + 1) from by omega] at *
      simpa [show p + 1 + j = p + (j + 1) from by omega] using this)]
    congr 2; omega

theorem get_eq (s : ByteArray) (i : Nat) (h : i < s.size) : s.get! i = s[i] := by
  show s.data[i]! = s.data[i]
  exact getElem!_pos s.data i h
def HighD (s : ByteArray) (i : Nat) (r : Nat × Nat) : Prop :=
  128 ≤ r.1 ∧ r.1 < 2147483648 ∧ 1 ≤ r.2 ∧ i + r.2 ≤ s.size ∧ ∀ j (hj : i + j < s.size), j < r.2 → s[i + j].toNat ≠ 10
theorem high_one (s : ByteArray) (i : Nat) (h : i < s.size) (hb : 128 ≤ s[i].toNat) (c : Nat) (h1 : 128 ≤ c) (h2 : c < 2147483648) : HighD s i (c, 1) :=
  ⟨h1, h2, Nat.le_refl _, h, fun j hj hjn => by
    obtain rfl : j = 0 := by omega
    simp only [Nat.add_zero]; omega⟩
theorem cont_ne (s : ByteArray) (i k : Nat) (h : (decide (i + k < s.size) && (s.get! (i + k)).toNat / 64 == 2) = true) : ∃ hk : i + k < s.size, s[i + k].toNat ≠ 10 := by
  simp only [Bool.and_eq_true, decide_eq_true_eq, beq_iff_eq] at h
  obtain ⟨h1, h2⟩ := h
  rw [get_eq s _ h1] at h2
  exact ⟨h1, by omega⟩
/-- the decoding of a byte from 128 on: no ASCII rune, and the bytes that it takes are no line feeds -/
theorem decode_high (s : ByteArray) (i : Nat) (h : i < s.size) (hb : 128 ≤ s[i].toNat) : HighD s i (Utf8.decode s i) := by
  have e : (Utf8.runeError : Nat) = 65533 := rfl
  have hone : HighD s i (Utf8.runeError, 1) := high_one s i h hb _ (by rw [e]; omega) (by rw [e]; omega)
  have h0 : ∀ j (hj : i + j < s.size), j < 1 → s[i + j].toNat ≠ 10 := fun j hj hjn => by
    obtain rfl : j = 0 := by omega
    simp only [Nat.add_zero]; omega
  have hlt : s[i].toNat < 256 := UInt8.toNat_lt _
  unfold Utf8.decode
  simp only [Nat.add_zero, get_eq s i h]
  rw [if_neg (by omega)]
  split
  · rename_i h1
    simp only [Bool.and_eq_true] at h1
    obtain ⟨k1, n1⟩ := cont_ne s i 1 (by simpa using h1.2)
    split
    · rename_i hc
      refine ⟨by simpa using hc, by simp only; omega, by simp only; omega, by simp only; omega, fun j hj hjn => ?_⟩
      simp only at hjn
      have : j < 1 ∨ j = 1 := by omega
      rcases this with h' | rfl
      · exact h0 j hj h'
      · exact n1
    · exact hone
  · split
    · rename_i h1
      simp only [Bool.and_eq_true] at h1
      obtain ⟨k1, n1⟩ := cont_ne s i 1 (by simpa using h1.1.2)
      obtain ⟨k2, n2⟩ := cont_ne s i 2 (by simpa using h1.2)
      split
      · rename_i hc
        simp only [Bool.and_eq_true, decide_eq_true_eq] at hc
        refine ⟨by simp only; omega, by simp only; omega, by simp only; omega, by simp only; omega, fun j hj hjn => ?_⟩
        simp only at hjn
        have : j < 1 ∨ j = 1 ∨ j = 2 := by omega
        rcases this with h' | rfl | rfl
        · exact h0 j hj h'
        · exact n1
        · exact n2
      · exact hone
    · split
      · rename_i h1
        simp only [Bool.and_eq_true] at h1
        obtain ⟨k1, n1⟩ := cont_ne s i 1 (by simpa using h1.1.1.2)
        obtain ⟨k2, n2⟩ := cont_ne s i 2 (by simpa using h1.1.2)
        obtain ⟨k3, n3⟩ := cont_ne s i 3 (by simpa using h1.2)
        split
        · rename_i hc
          simp only [Bool.and_eq_true, decide_eq_true_eq] at hc
          refine ⟨by simp only; omega, by simp only; omega, by simp only; omega, by simp only; omega, fun j hj hjn => ?_⟩
          simp only at hjn
          have : j < 1 ∨ j = 1 ∨ j = 2 ∨ j = 3 := by omega
          rcases this with h' | rfl | rfl | rfl
          · exact h0 j hj h'
          · exact n1
          · exact n2
          · exact n3
        · exact hone
      · exact hone

/-- what stands in a token is ASCII, and a token does not pass the text's end -/
theorem inner_ascii (c : UInt8) (h : isInner c = true) : c.toNat < 128 := by
  simp [isInner, isLetter, isDigit] at h; omega
theorem digit_ascii (c : UInt8) (h : isDigit c = true) : c.toNat < 128 := by
  simp [isDigit] at h; omega
theorem letter_inner (c : UInt8) (h : isLetter c = true) : isInner c = true := by simp [isInner, h]
theorem runN_pos (p : UInt8 → Bool) (c : UInt8) (r : List UInt8) (h : p c = true) : 0 < runN p (c :: r) := by simp [runN, List.takeWhile_cons, h]
theorem ix_none (c : UInt8) : ∀ l : List UInt8, (∀ b ∈ l, b ≠ c) → Lib.indexByte l c = -1
  | [], _ => rfl
  | b :: l, h => by
    have e := ix_none c l (fun x hx => h x (List.mem_cons_of_mem _ hx))
    simp only [Lib.indexByte, e]
    rw [if_neg (by have := h b (by simp); simpa using this), if_pos (by decide)]
theorem sign_small : ∀ b ∈ signChars, b.toNat < 128 := by decide
theorem sign_ascii (c : UInt8) (h : 0 ≤ Lib.indexByte signChars c) : c.toNat < 128 := by
  by_cases e : c.toNat < 128
  · exact e
  · exfalso
    have := ix_none c signChars (fun b hb => by rintro rfl; exact e (sign_small _ hb))
    omega
theorem prefix_two (l : List UInt8) (a b : UInt8) (h : Lib.hasPrefix l [a, b] = true) : ∃ r, l = a :: b :: r := by
  match l, h with
  | [], h => simp [Lib.hasPrefix] at h
  | [x], h => simp [Lib.hasPrefix] at h
  | x :: y :: r, h =>
    simp only [Lib.hasPrefix, List.isPrefixOf, Bool.and_eq_true, beq_iff_eq] at h
    exact ⟨r, by rw [h.1, h.2.1]⟩
theorem signN_ascii (l : List UInt8) (j : Nat) (h : j < signN l) : ∃ hl : j < l.length, l[j].toNat < 128 := by
  unfold signN at h
  split at h
  · rename_i hp
    simp only [Bool.or_eq_true] at hp
    have : ∃ a b r, l = a :: b :: r ∧ a.toNat < 128 ∧ b.toNat < 128 := by
      rcases hp with (h | h) | h
      · obtain ⟨r, e⟩ := prefix_two _ _ _ h; exact ⟨_, _, r, e, by decide, by decide⟩
      · obtain ⟨r, e⟩ := prefix_two _ _ _ h; exact ⟨_, _, r, e, by decide, by decide⟩
      · obtain ⟨r, e⟩ := prefix_two _ _ _ h; exact ⟨_, _, r, e, by decide, by decide⟩
    obtain ⟨a, b, r, rfl, ha, hb⟩ := this
    match j, h with
    | 0, _ => exact ⟨by simp, ha⟩
    | 1, _ => exact ⟨by simp, hb⟩
  · cases l with
    | nil => simp at h
    | cons c r =>
      simp only at h
      split at h
      · rename_i hc
        obtain rfl : j = 0 := by omega
        exact ⟨by simp, sign_ascii c hc⟩
      · omega
theorem token_facts (l : List UInt8) : (tokenF l).2 ≤ l.length ∧ ∀ j, j < (tokenF l).2 → ∃ hl : j < l.length, l[j].toNat < 128 := by
  unfold tokenF
  split
  · simp
  · rename_i c r
    split
    · refine ⟨runN_le _ _, fun j hj => ?_⟩
      obtain ⟨hl, hp⟩ := runN_all _ _ _ hj
      exact ⟨hl, inner_ascii _ hp⟩
    · split
      · split
        · refine ⟨runN_le _ _, fun j hj => ?_⟩
          obtain ⟨hl, hp⟩ := runN_all _ _ _ hj
          exact ⟨hl, digit_ascii _ hp⟩
        · exact ⟨by simp, fun j hj => by simp at hj⟩
      · exact ⟨signN_le _, fun j hj => signN_ascii _ j hj⟩
theorem token_at (s : ByteArray) (p : Nat) (hp : p ≤ s.size) : p + (tokenF (s.data.toList.drop p)).2 ≤ s.size ∧ ∀ j (hj : j < s.size), p ≤ j → j < p + (tokenF (s.data.toList.drop p)).2 → s[j].toNat < 128 := by
  have h := token_facts (s.data.toList.drop p)
  have hl : (s.data.toList.drop p).length = s.size - p := by rw [List.length_drop, len_toList]
  refine ⟨by have := h.1; omega, fun j hj h1 h2 => ?_⟩
  obtain ⟨hk, hc⟩ := h.2 (j - p) (by omega)
  rw [List.getElem_drop] at hc
  have e : p + (j - p) = j := by omega
  simp only [e] at hc
  exact hc
theorem token_high (c : UInt8) (r : List UInt8) (h : 128 ≤ c.toNat) : (tokenF (c :: r)).2 = 0 := by
  have := token_facts (c :: r)
  by_cases e : (tokenF (c :: r)).2 = 0
  · exact e
  · obtain ⟨_, h0⟩ := this.2 0 (by omega)
    simp only [List.getElem_cons_zero] at h0; omega
end Go.Proofs.YtiabiflaecidoaaDoor
