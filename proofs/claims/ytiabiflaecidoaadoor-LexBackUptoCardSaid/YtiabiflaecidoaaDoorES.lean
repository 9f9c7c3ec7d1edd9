/-
  LexBack: the tokens of the text of a list are the list.
-/
import Derived.Test.YtiabiflaecidoaaDoorER
import Derived.Test.YtiabiflaecidoaaDoorEK
namespace Go.Proofs.YtiabiflaecidoaaDoor
open Go Go.RowKit Go.Proofs.YtiabiflaecidoaaDoor.Abs
set_option linter.all false

theorem scan_nls (R : List UInt8) : ∀ (k : Nat) (st : St), st.skip = 0 → st.wrong = false →
    scan (List.replicate (k + 1) 10 ++ R) st = scan R ⟨st.line + (k + 1), false, false, 0, (if st.full then st.toks ++ [⟨4, [], 0, st.line⟩] else st.toks), false⟩
  | 0, st, hs, hw => by
    show scan (10 :: R) st = _
    rw [scan, step_line 10 R st hs (by decide), if_neg (by simp [hw])]
    cases st; simp only at hs hw; subst hs; subst hw; rfl
  | k + 1, st, hs, hw => by
    show scan (10 :: (List.replicate (k + 1) 10 ++ R)) st = _
    rw [scan, step_line 10 _ st hs (by decide), if_neg (by simp [hw]), scan_nls R k _ (by simpa using hs) (by simpa using hw)]
    simp only [Bool.false_eq_true, if_false]
    congr 2
    omega
/-- what a checked token's place says -/
def HpP (p : Option Tok) (t : Tok) (last : Bool) : Prop :=
  match p with
  | none => t.kind ≠ 4 ∧ (t.kind = 0 → last = true) ∧ 1 ≤ t.line
  | some b => ¬(t.kind = 4 ∧ b.kind = 4) ∧ (t.kind = 0 → last = true ∧ b.kind = 4) ∧ (b.kind ≠ 4 → t.line = b.line) ∧ (b.kind = 4 → t.kind = 0 → b.line ≤ t.line) ∧ (b.kind = 4 → t.kind ≠ 0 → b.line < t.line)
theorem hp_of {p : Option Tok} {t : Tok} {last : Bool} (h : stepC p t last = 0) : HpP p t last := by
  cases p with
  | none => exact (stepC_zero h).2.2.2
  | some b => exact (stepC_zero h).2.2.2
open Lib in
/-- a token's text, read as a token -/
theorem word_token (t : Tok) (hf : formF t = true) (k1 : 1 ≤ t.kind) (k3 : t.kind ≤ 3) : ∃ c q, wordT t = c :: q ∧ tokenF (c :: q) = (⟨t.kind, t.text, t.n, 0⟩, (c :: q).length) ∧ (c.toNat ≠ 10 ∧ c.toNat ≠ 32 ∧ c.toNat ≠ 9 ∧ c.toNat ≠ 35) := by
  rw [← formedR_eq] at hf
  obtain ⟨kd, s, n, l⟩ := t
  simp only at k1 k3
  have hk : kd = 1 ∨ kd = 2 ∨ kd = 3 := by omega
  rcases hk with rfl | rfl | rfl
  · simp only [formedR, if_true, Bool.and_eq_true, decide_eq_true_eq] at hf
    obtain ⟨hw, rfl⟩ := hf
    rw [← wordB_eq] at hw
    cases s with
    | nil => cases hw
    | cons c q =>
      simp only [wordB, Bool.and_eq_true, beq_iff_eq] at hw
      refine ⟨c, q, rfl, ?_, ?_⟩
      · simp only [tokenF, hw.1, if_true, hw.2, List.take_length]
      · have := hw.1
        simp only [isLetter, Bool.and_eq_true, decide_eq_true_eq] at this
        omega
  · simp only [formedR, show ¬((2 : Int) = 1) by omega, if_false, if_true, Bool.and_eq_true, decide_eq_true_eq] at hf
    obtain ⟨⟨rfl, h0⟩, h1⟩ := hf
    have hnum := numF_itoa n (by omega) (by omega)
    rw [if_pos ⟨h0, h1⟩] at hnum
    have ha : (Lib.itoa n).all isDigit = true := by
      rw [itoa_pos n h0, ← isD_eq]; exact digits_all _ _ (Nat.le_refl _)
    obtain ⟨c, r, hcr, _⟩ := digits_head n.natAbs n.natAbs (Nat.le_refl _)
    rw [← itoa_pos n h0] at hcr
    have hw : wordT ⟨2, [], n, l⟩ = c :: r := hcr
    rw [hcr] at ha hnum
    have hr := run_all isDigit (c :: r) ha
    have hc : isDigit c = true := by simp at ha; exact ha.1
    have hb := isD_bounds (c := c) hc
    refine ⟨c, r, hw, ?_, by omega⟩
    simp only [tokenF, digit_not_letter hc, hc, Bool.false_eq_true, if_false, if_true, hr, List.take_length, hnum]
  · simp only [formedR, show ¬((3 : Int) = 1) by omega, show ¬((3 : Int) = 2) by omega, if_false, if_true, Bool.and_eq_true, decide_eq_true_eq] at hf
    obtain ⟨hw, rfl⟩ := hf
    cases s with
    | nil => cases hw
    | cons c q =>
      have hs := hw
      rw [← signN_len] at hs
      simp only [List.isEmpty_cons, Bool.not_false, Bool.true_and, decide_eq_true_eq] at hs
      obtain ⟨h1, h2⟩ := sign_head hw
      refine ⟨c, q, rfl, ?_, ?_⟩
      · simp only [tokenF, h1, h2, Bool.false_eq_true, if_false, hs, List.take_length]
      · simp only [isSign, signTexts, List.contains_cons, List.contains_nil, Bool.or_false, Bool.or_eq_true, beq_iff_eq, List.cons.injEq] at hw
        rcases hw with h | h | h | h | h | h | h | h | h | h | h | h | h | h | h | h <;> (rw [h.1]; decide)
theorem scan_word (t : Tok) (hf : formF t = true) (k1 : 1 ≤ t.kind) (k3 : t.kind ≤ 3) (st : St) (hs : st.skip = 0) (hc : st.comment = false) (hw : st.wrong = false) :
    scan (wordT t) st = ⟨st.line, true, false, 0, st.toks ++ [{ t with line := st.line }], false⟩ := by
  obtain ⟨c, q, e, ht, hb⟩ := word_token t hf k1 k3
  rw [e, scan, step_tok c q st hs hb hc (by rw [ht]; simp), if_neg (by simp [hw]), ht]
  have := scan_skip q.length q ⟨st.line, true, false, 0, st.toks ++ [{ t with line := st.line }], false⟩ (Nat.le_refl _) rfl
  rw [List.drop_length] at this
  obtain ⟨a1, a2, a3, a4, a5, a6⟩ := st
  simp only at hs hc hw
  subst hs; subst hc; subst hw
  exact this
/-- the scanner behind the text of a checked list's beginning -/
structure At (p : List Tok) (ln : Int) (st : St) : Prop where
  skip : st.skip = 0
  comment : st.comment = false
  wrong : st.wrong = false
  line : st.line = ln
  nil : p = [] → st.full = false ∧ st.toks = []
  four : ∀ b, p.getLast? = some b → b.kind = 4 → st.full = true ∧ st.toks ++ [⟨4, [], 0, ln⟩] = p
  word : ∀ b, p.getLast? = some b → b.kind ≠ 4 → st.full = true ∧ st.toks = p
theorem form_bare {t : Tok} (hf : formF t = true) (k1 : t.kind ≠ 1) (k2 : t.kind ≠ 2) (k3 : t.kind ≠ 3) : t = ⟨t.kind, [], 0, t.line⟩ := by
  unfold formF at hf
  rw [if_neg k1, if_neg k2, if_neg k3] at hf
  simp only [Bool.and_eq_true, decide_eq_true_eq, List.isEmpty_iff] at hf
  obtain ⟨k, s, n, l⟩ := t
  simp only at hf
  rw [hf.1, hf.2]
theorem scan_gap (out : List UInt8) (b : List UInt8) (st : St) (hS : scan out st0 = st) (hw : st.wrong = false) (hb : Apart b ∨ out = []) : scan (out ++ b) st0 = scan b st := by
  rcases hb with hb | rfl
  · have := (scan_app b hb out st0 (by simp [st0]) rfl).1
    rw [hS, hw, if_neg (by simp)] at this
    exact this
  · simp only [List.nil_append]
    rw [← hS]; rfl
theorem apart_nl (k : Nat) (R : List UInt8) : Apart (List.replicate (k + 1) 10 ++ R) := fun d r e => by
  rw [List.replicate_succ, List.cons_append] at e
  cases e; exact .inr rfl
theorem apart_sp (R : List UInt8) : Apart (32 :: R) := fun d r e => by cases e; exact .inl rfl
theorem at_step {p : List Tok} {t : Tok} {s : TS} {st : St} {last : Bool} (hA : At p s.line st) (hS : scan s.out st0 = st) (hk : Lk p.getLast? s) (hz : p = [] → s.out = []) (hs : stepC p.getLast? t last = 0) (h0 : ∀ b, p.getLast? = some b → b.kind ≠ 0) (ht0 : t.kind ≠ 0) :
    At (p ++ [t]) (textStep s t).line (scan (textStep s t).out st0) := by
  obtain ⟨a1, a2, a3⟩ := rText_step _ _ _ _ hk hs h0
  obtain ⟨z1, z2, hf, _⟩ := stepC_zero hs
  have hp := hp_of hs
  rw [a1]
  have hlast : (p ++ [t]).getLast? = some t := by simp
  by_cases hk4 : t.kind = 4
  · have hw := wordT_none hf (.inl hk4)
    have hgap : gapR p.getLast? t = false := by
      unfold gapR; split
      · rfl
      · simp [hk4]
    cases hpl : p.getLast? with
    | none => rw [hpl] at hp; simp only [HpP] at hp; exact absurd hk4 hp.1
    | some b =>
      rw [hpl] at hp hk
      simp only [HpP] at hp
      have hb4 : b.kind ≠ 4 := fun e => hp.1 ⟨hk4, e⟩
      have hl := hp.2.2.1 hb4
      have hbl := (hk.some b rfl).1
      have hz0 : (t.line - s.line).toNat = 0 := by omega
      rw [hpl] at hgap
      rw [hgap, hw, hz0]
      simp only [List.replicate_zero, List.append_nil, Bool.false_eq_true, if_false]
      rw [hS]
      have hln : (textStep s t).line = s.line := by rw [a2]; split <;> omega
      obtain ⟨w1, w2⟩ := hA.word b hpl hb4
      have hform := form_bare hf (by omega) (by omega) (by omega)
      refine ⟨hA.skip, hA.comment, hA.wrong, by rw [hln]; exact hA.line, fun e => by simp at e, fun b' hb' e4 => ?_, fun b' hb' e4 => ?_⟩
      · rw [hlast] at hb'; cases hb'
        refine ⟨w1, ?_⟩
        rw [w2, hln, hform, hk4, show t.line = s.line by omega]
      · rw [hlast] at hb'; cases hb'; exact absurd hk4 e4
  · have k1 : 1 ≤ t.kind := by omega
    have k3 : t.kind ≤ 3 := by omega
    have hfin : ∀ st', scan (s.out ++ List.replicate (t.line - s.line).toNat 10 ++ (if gapR p.getLast? t then [32] else []) ++ wordT t) st0 = ⟨t.line, true, false, 0, p ++ [t], false⟩ → st' = scan (s.out ++ List.replicate (t.line - s.line).toNat 10 ++ (if gapR p.getLast? t then [32] else []) ++ wordT t) st0 → (textStep s t).line = t.line → At (p ++ [t]) (textStep s t).line st' := by
      intro st' h1 h2 h3
      rw [h1] at h2
      subst h2
      refine ⟨rfl, rfl, rfl, h3.symm, fun e => by simp at e, fun b' hb' e4 => ?_, fun b' hb' e4 => ⟨rfl, rfl⟩⟩
      rw [hlast] at hb'; cases hb'; exact absurd e4 hk4
    refine hfin _ ?_ rfl ?_
    · cases hpl : p.getLast? with
      | none =>
        have hp0 : p = [] := by simpa using hpl
        subst hp0
        have hg : gapR none t = false := rfl
        rw [hg]
        simp only [Bool.false_eq_true, if_false, List.append_nil, List.nil_append]
        have ho := hz rfl
        obtain ⟨n1, n2⟩ := hA.nil rfl
        have hl1 := (hk.none rfl).2
        rw [hpl] at hp
        simp only [HpP] at hp
        rw [List.append_assoc, scan_gap s.out _ st hS hA.wrong (.inr ho)]
        rcases Nat.eq_zero_or_pos (t.line - s.line).toNat with h | h
        · rw [h, List.replicate_zero, List.nil_append, scan_word t hf k1 k3 st hA.skip hA.comment hA.wrong, n2, hA.line]
          have : s.line = t.line := by omega
          rw [this]; rfl
        · obtain ⟨k, hk'⟩ : ∃ k, (t.line - s.line).toNat = k + 1 := ⟨_, (Nat.succ_pred_eq_of_pos h).symm⟩
          rw [hk', scan_nls _ k st hA.skip hA.wrong, scan_word t hf k1 k3 _ rfl rfl rfl, n1, n2, hA.line]
          have : s.line + (k + 1) = t.line := by omega
          simp only [this, Bool.false_eq_true, if_false, List.nil_append]
      | some b =>
        rw [hpl] at hp hk
        simp only [HpP] at hp
        have hbl := (hk.some b rfl).1
        by_cases hb4 : b.kind = 4
        · have hlt := hp.2.2.2.2 hb4 ht0
          have hg : gapR (some b) t = false := by
            simp only [gapR, Bool.and_eq_false_iff, decide_eq_false_iff_not]; right; omega
          obtain ⟨w1, w2⟩ := hA.four b hpl hb4
          obtain ⟨k, hk'⟩ : ∃ k, (t.line - s.line).toNat = k + 1 := ⟨(t.line - s.line).toNat - 1, by omega⟩
          rw [hg, hk']
          simp only [Bool.false_eq_true, if_false, List.append_nil]
          rw [List.append_assoc, scan_gap s.out _ st hS hA.wrong (.inl (apart_nl k _)), scan_nls _ k st hA.skip hA.wrong, scan_word t hf k1 k3 _ rfl rfl rfl, w1, hA.line]
          have : s.line + (k + 1) = t.line := by omega
          simp only [this, if_true, w2]
        · have hl := hp.2.2.1 hb4
          have hg : gapR (some b) t = true := by
            simp only [gapR, Bool.and_eq_true, decide_eq_true_eq]; exact ⟨⟨hk4, ht0⟩, by omega⟩
          have hz0 : (t.line - s.line).toNat = 0 := by omega
          obtain ⟨w1, w2⟩ := hA.word b hpl hb4
          rw [hg, hz0]
          simp only [if_true, List.replicate_zero, List.append_nil]
          rw [List.append_assoc, show ([32] : List UInt8) ++ wordT t = 32 :: wordT t from rfl, scan_gap s.out _ st hS hA.wrong (.inl (apart_sp _))]
          rw [scan, step_pass 32 _ st hA.skip (by decide) (.inr (.inl (by decide))), if_neg (by rw [hA.wrong]; simp), scan_word t hf k1 k3 st hA.skip hA.comment hA.wrong, w2, hA.line]
          have : s.line = t.line := by omega
          rw [this]
    · rw [a2]
      cases hpl : p.getLast? with
      | none =>
        rw [hpl] at hp hk
        have := (hk.none rfl).2; simp only [HpP] at hp
        split <;> omega
      | some b =>
        rw [hpl] at hp hk
        have hbl := (hk.some b rfl).1
        simp only [HpP] at hp
        by_cases hb4 : b.kind = 4
        · have hlt := hp.2.2.2.2 hb4 ht0
          rw [if_pos (by omega)]
        · have hl := hp.2.2.1 hb4
          split <;> omega
theorem at_all {ts : List Tok} (hg : Good ts) : ∀ (k : Nat), k < ts.length → At (ts.take k) (textSt (ts.take k)).line (scan (textSt (ts.take k)).out st0) ∧ Lk (prevT ts k) (textSt (ts.take k))
  | 0, _ => by
    refine ⟨⟨rfl, rfl, rfl, rfl, fun _ => ⟨rfl, rfl⟩, fun b h => by simp at h, fun b h => by simp at h⟩, ⟨fun _ => ⟨rfl, rfl⟩, fun b e => by cases e⟩⟩
  | k + 1, hk => by
    obtain ⟨ih, il⟩ := at_all hg k (by omega)
    have hs := hg.step k (by omega)
    have hprev : prevT ts k = (ts.take k).getLast? := by
      unfold prevT
      by_cases h : k = 0
      · simp [h]
      · rw [if_neg h, List.getLast?_eq_getElem?, List.length_take, Nat.min_eq_left (by omega), List.getElem?_take_of_lt (by omega)]
    have h0 : ∀ b, prevT ts k = some b → b.kind ≠ 0 := by
      intro b hb e0
      unfold prevT at hb
      split at hb
      · cases hb
      · rename_i hne
        have hlt : k - 1 < ts.length := by omega
        rw [List.getElem?_eq_getElem hlt] at hb
        have hb3 := Option.some.inj hb
        have := hg.step (k - 1) hlt
        rw [hb3] at this
        have hd : decide (k - 1 + 1 = ts.length) = false := by rw [decide_eq_false_iff_not]; omega
        have hpv : ∀ q, q = prevT ts (k - 1) → False := fun q hq0 => by
          rw [← hq0] at this
          obtain ⟨_, _, _, hq⟩ := stepC_zero this
          cases q with
          | none => simp only at hq; exact absurd (hq.2.1 e0) (by rw [hd]; simp)
          | some b' => simp only at hq; exact absurd (hq.2.1 e0).1 (by rw [hd]; simp)
        exact hpv _ rfl
    have ht0 : (ts[k]'(by omega)).kind ≠ 0 := by
      intro e0
      have hd : decide (k + 1 = ts.length) = false := by rw [decide_eq_false_iff_not]; omega
      have hpv : ∀ q, q = prevT ts k → False := fun q hq0 => by
        rw [← hq0] at hs
        obtain ⟨_, _, _, hq⟩ := stepC_zero hs
        cases q with
        | none => simp only at hq; exact absurd (hq.2.1 e0) (by rw [hd]; simp)
        | some b' => simp only at hq; exact absurd (hq.2.1 e0).1 (by rw [hd]; simp)
      exact hpv _ rfl
    have e1 : ts.take (k + 1) = ts.take k ++ [ts[k]'(by omega)] := List.take_succ_eq_append_getElem (by omega)
    have e2 : textSt (ts.take (k + 1)) = textStep (textSt (ts.take k)) (ts[k]'(by omega)) := textSt_step ts k (by omega)
    have il' := il
    have hs' := hs
    rw [hprev] at il' hs' h0
    have e3 : prevT ts (k + 1) = some (ts[k]'(by omega)) := by simp [prevT]
    rw [e2, e1, e3]
    exact ⟨at_step ih rfl il' (fun e => by rw [e]; rfl) hs' h0 ht0, (rText_step _ _ _ _ il hs (by rw [hprev]; exact h0)).2.2⟩
theorem tokens_back {ts : List Tok} (h : (textF ts).2 = 0) : tokensF (textF ts).1 = (ts, 0, 0) := by
  unfold textF at h ⊢
  split at h
  · rename_i hc; exact absurd h hc
  · rename_i hc
    rw [if_neg hc]
    split at h
    · cases h
    · rename_i hl
      rw [if_neg hl]
      split at h
      · cases h
      · rename_i ho
        rw [if_neg ho]
        have hg := good_of (ts := ts) (by omega)
        obtain ⟨hpos, hz⟩ := hg.last
        obtain ⟨hA, hk⟩ := at_all hg (ts.length - 1) (by omega)
        have hs := hg.step (ts.length - 1) (by omega)
        have hprev : prevT ts (ts.length - 1) = (ts.take (ts.length - 1)).getLast? := by
          unfold prevT
          by_cases h : ts.length - 1 = 0
          · simp [h]
          · rw [if_neg h, List.getLast?_eq_getElem?, List.length_take, Nat.min_eq_left (by omega), List.getElem?_take_of_lt (by omega)]
        have ets : ts = ts.take (ts.length - 1) ++ [ts[ts.length - 1]'(by omega)] := by
          have := List.take_succ_eq_append_getElem (l := ts) (i := ts.length - 1) (by omega)
          rw [← this, show ts.length - 1 + 1 = ts.length by omega, List.take_length]
        have e2 : textSt ts = textStep (textSt (ts.take (ts.length - 1))) (ts[ts.length - 1]'(by omega)) := by
          have := textSt_step ts (ts.length - 1) (by omega)
          rwa [show ts.length - 1 + 1 = ts.length by omega, List.take_length] at this
        generalize ts.take (ts.length - 1) = p at *
        generalize ts[ts.length - 1]'(by omega) = t at *
        rw [hprev] at hs hk
        obtain ⟨z1, z2, hf, _⟩ := stepC_zero hs
        have hp := hp_of hs
        have hform := form_bare hf (by omega) (by omega) (by omega)
        have hw := wordT_none hf (.inr hz)
        have hout : (textSt ts).out = (textSt p).out ++ List.replicate (t.line - (textSt p).line).toNat 10 := by
          rw [e2]
          show (tokStep (lineStep (textSt p) t.line) t).out = _
          unfold tokStep
          rw [if_pos (.inr hz), lineStep_out]
        rw [tokensF_endV C8_L, if_neg ho, hout]
        generalize hst : scan (textSt p).out st0 = st at hA
        have fin : ∀ st' : St, endV st' = (ts, 0, 0) → scan ((textSt p).out ++ List.replicate (t.line - (textSt p).line).toNat 10) st0 = st' → endV (scan ((textSt p).out ++ List.replicate (t.line - (textSt p).line).toNat 10) st0) = (ts, 0, 0) := fun st' h1 h2 => by rw [h2]; exact h1
        have hst0 : st = ⟨st.line, st.full, false, 0, st.toks, false⟩ := by
          obtain ⟨a1, a2, a3, a4, a5, a6⟩ := st
          have q1 := hA.skip; have q2 := hA.comment; have q3 := hA.wrong
          simp only at q1 q2 q3
          subst q1; subst q2; subst q3; rfl
        have htl : t = ⟨0, [], 0, t.line⟩ := by rw [hz] at hform; exact hform
        have hge : (textSt p).line ≤ t.line := by
          cases hpl : p.getLast? with
          | none => rw [hpl] at hp hk; have := (hk.none rfl).2; simp only [HpP] at hp; omega
          | some b =>
            rw [hpl] at hp hk
            have hbl := (hk.some b rfl).1
            simp only [HpP] at hp
            have := hp.2.2.2.1 (hp.2.1 hz).2 hz
            omega
        rcases Nat.eq_zero_or_pos (t.line - (textSt p).line).toNat with h | h
        · refine fin st ?_ (by rw [h, List.replicate_zero, List.append_nil]; exact hst)
          have hl : (textSt p).line = t.line := by omega
          rw [hst0]
          cases hpl : p.getLast? with
          | none =>
            have hp0 : p = [] := by simpa using hpl
            obtain ⟨n1, n2⟩ := hA.nil hp0
            simp only [endV, n1, n2, hA.line, hl, Bool.false_eq_true, if_false, List.nil_append]
            rw [ets, hp0, List.nil_append, ← htl]
          | some b =>
            rw [hpl] at hp
            simp only [HpP] at hp
            obtain ⟨w1, w2⟩ := hA.four b hpl (hp.2.1 hz).2
            simp only [endV, w1, hA.line, Bool.false_eq_true, if_false, if_true, w2]
            rw [hl, ← htl, ← ets]
        · obtain ⟨k, hk'⟩ : ∃ k, (t.line - (textSt p).line).toNat = k + 1 := ⟨_, (Nat.succ_pred_eq_of_pos h).symm⟩
          have e := scan_gap (textSt p).out (List.replicate (t.line - (textSt p).line).toNat 10) st hst hA.wrong (.inl (by rw [hk']; have := apart_nl k []; rwa [List.append_nil] at this))
          have e' := scan_nls [] k st hA.skip hA.wrong
          rw [List.append_nil] at e'
          refine fin _ ?_ (by rw [e, hk', e'])
          have hl : st.line + (k + 1) = t.line := by rw [hA.line]; omega
          cases hpl : p.getLast? with
          | none =>
            have hp0 : p = [] := by simpa using hpl
            obtain ⟨n1, n2⟩ := hA.nil hp0
            simp only [endV, scan, n1, n2, hl, Bool.false_eq_true, if_false, List.nil_append]
            rw [ets, hp0, List.nil_append, ← htl]
          | some b =>
            rw [hpl] at hp
            simp only [HpP] at hp
            obtain ⟨w1, w2⟩ := hA.four b hpl (hp.2.1 hz).2
            have hl2 : (textSt p).line + ((k : Int) + 1) = t.line := by rw [← hA.line]; exact hl
            simp only [endV, scan, w1, hA.line, Bool.false_eq_true, if_false, if_true, w2]
            rw [hl2, ← htl, ← ets]
theorem x_back (ts : List Tok) (hlen : ts.length ≤ 281474976710656) (ht : ∀ t ∈ ts, t.text.length ≤ 281474976710656) (hb : bnd ts ≤ 70368744177664) :
    evalCall C8 6 F_law08_LexBack [.lst 4 (tokRows ts)] [] = some (.bool true, [], none) := by
  refine law08_LexBack_run (by rfl) ?_
  have hl : ((tokRows ts).length : Int) = ts.length := by simp [tokRows]
  by_cases h : (200 : Int) < ts.length
  · simp only [d_law08_LexBack, optK_s, opt2_s, opt3_s, ifK_b, guardK_t, guardK_f, guardB_bt, guardB_bf, pickV_t, pickV_f, gif_t, guardK_pure, ro_gif, pick_and, pick_or', grp_and, grp_or, grp_tt, grp_ft, grp_tf, grp_ff, letK_e, ro_bool, ro_int, ro_str, ro_lst, ro_own, ro_agg, ro_tup, ro_ptr, ro_map, ro_ref, ro_fn, ro_undef, nm_bool, nm_int, nm_str, nm_lst, nm_own, nm_agg, nm_ptr, nm_map, nm_fn, b_add, b_sub, b_mul, b_eq, b_ne, b_lt, b_le, b_gt, b_ge, s_eq, s_ne, q_int, q_str, q_bool, q_nil, q_if, b_eqS, b_neS, b_eqB, b_neB, Option.map_some, u_not, u_neg, l_str, l_lst, c_int, x_tup, after_none, fin_bool, fin_int, fin_str, fin_lst, fin_own, fin_tup, frz2_int, frz2_str, frz2_bool, frz2_lst, fa_ref, fa_ptr, ldc_ref, hl, h, decide_true, if_true, o_awake]
  · have hok : okToks ts := ⟨hlen, ht⟩
    have t1 := o_text 4 ts [] hok hb
    by_cases h0 : (textF ts).2 = 0
    · have hlen2 : (textF ts).1.length ≤ 281474976710656 := by
        unfold textF
        split
        · simp
        · split
          · simp
          · split
            · simp
            · simp only; omega
      have t2 := o_tokens 4 (textF ts).1 [] hlen2
      rw [tokens_back h0] at t2
      have t3 := e_same C8_L 4 ts ts [] (by omega)
      rw [sameT_refl] at t3
      simp only [d_law08_LexBack, optK_s, opt2_s, opt3_s, ifK_b, guardK_t, guardK_f, guardB_bt, guardB_bf, pickV_t, pickV_f, gif_t, guardK_pure, ro_gif, pick_and, pick_or', grp_and, grp_or, grp_tt, grp_ft, grp_tf, grp_ff, letK_e, ro_bool, ro_int, ro_str, ro_lst, ro_own, ro_agg, ro_tup, ro_ptr, ro_map, ro_ref, ro_fn, ro_undef, nm_bool, nm_int, nm_str, nm_lst, nm_own, nm_agg, nm_ptr, nm_map, nm_fn, b_add, b_sub, b_mul, b_eq, b_ne, b_lt, b_le, b_gt, b_ge, s_eq, s_ne, q_int, q_str, q_bool, q_nil, q_if, b_eqS, b_neS, b_eqB, b_neB, Option.map_some, u_not, u_neg, l_str, l_lst, c_int, x_tup, after_none, fin_bool, fin_int, fin_str, fin_lst, fin_own, fin_tup, frz2_int, frz2_str, frz2_bool, frz2_lst, fa_ref, fa_ptr, ldc_ref, hl, h, h0, decide_false, Bool.false_eq_true, if_false, t1, t2, vT, List.getElem?_cons_zero, List.getElem?_cons_succ, ne_eq, not_true_eq_false, decide_true, Bool.true_and, t3, o_awake]
    · simp only [d_law08_LexBack, optK_s, opt2_s, opt3_s, ifK_b, guardK_t, guardK_f, guardB_bt, guardB_bf, pickV_t, pickV_f, gif_t, guardK_pure, ro_gif, pick_and, pick_or', grp_and, grp_or, grp_tt, grp_ft, grp_tf, grp_ff, letK_e, ro_bool, ro_int, ro_str, ro_lst, ro_own, ro_agg, ro_tup, ro_ptr, ro_map, ro_ref, ro_fn, ro_undef, nm_bool, nm_int, nm_str, nm_lst, nm_own, nm_agg, nm_ptr, nm_map, nm_fn, b_add, b_sub, b_mul, b_eq, b_ne, b_lt, b_le, b_gt, b_ge, s_eq, s_ne, q_int, q_str, q_bool, q_nil, q_if, b_eqS, b_neS, b_eqB, b_neB, Option.map_some, u_not, u_neg, l_str, l_lst, c_int, x_tup, after_none, fin_bool, fin_int, fin_str, fin_lst, fin_own, fin_tup, frz2_int, frz2_str, frz2_bool, frz2_lst, fa_ref, fa_ptr, ldc_ref, hl, h, decide_false, Bool.false_eq_true, if_false, t1, List.getElem?_cons_zero, List.getElem?_cons_succ, ne_eq, h0, not_false_eq_true, decide_true, if_true, o_awake]
theorem c_back {H : Type} {n : Nat} {rows : List (List AV)} {d : DataW H} (hs : Shp Tryd.prog (n + 3) 23 [.lst 4 rows] d) (hb : Rows.uptoBulkAll [d] ≤ 1048576) (v : Value) (w : World) (hr : Rep still w (.lst 4 rows) v) (hL : Laid w) :
    Calls Tryd.prog F_law08_LexBack #[v] w fun e w' => e = .returned (.bool true) ∧ Below w.heap.size w w' := by
  obtain ⟨ts, rfl, h1, h2, h3⟩ := toks_of_shp (n := n) hs
  have hb' : Rows.uptoBulk d ≤ 1048576 := by simpa [Rows.uptoBulkAll] using hb
  exact law_of (C8_ok hL) (x_back ts (by omega) (fun t ht => by have := (h2 t ht).1; omega) (by omega)) rfl fun j x hx => by
    match j, hx with
    | 0, hx => cases hx; exact ⟨hr, fun k r e => by cases e⟩
    | j + 1, hx => simp at hx
end Go.Proofs.YtiabiflaecidoaaDoor
