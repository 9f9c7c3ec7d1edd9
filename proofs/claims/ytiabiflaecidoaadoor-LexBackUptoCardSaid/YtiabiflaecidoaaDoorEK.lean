/-
  LexBlanks.
-/
import Derived.Test.YtiabiflaecidoaaDoorQ5
namespace Go.Proofs.YtiabiflaecidoaaDoor
open Go Go.RowKit Go.Proofs.YtiabiflaecidoaaDoor.Abs
set_option linter.all false

/-- what begins so does not belong to a token ahead of it -/
def Apart (b : List UInt8) : Prop := ∀ d r, b = d :: r → d = 32 ∨ d = 10
theorem runN_app (p : UInt8 → Bool) (b : List UInt8) (hb : ∀ d r, b = d :: r → p d = false) : ∀ l : List UInt8, runN p (l ++ b) = runN p l
  | [] => by
    cases b with
    | nil => rfl
    | cons d r => simp [runN, List.takeWhile_cons, hb d r rfl]
  | c :: r => by
    have ih := runN_app p b hb r
    simp only [runN] at ih ⊢
    by_cases hc : p c = true
    · simp [List.takeWhile_cons, hc, ih]
    · simp [List.takeWhile_cons, hc]
theorem tokenF_app (c : UInt8) (q b : List UInt8) (hb : Apart b) : tokenF (c :: q ++ b) = tokenF (c :: q) := by
  have h1 : runN isInner (c :: q ++ b) = runN isInner (c :: q) := runN_app _ b (fun d r e => by rcases hb d r e with h | h <;> (subst h; decide)) _
  have h2 : runN isDigit (c :: q ++ b) = runN isDigit (c :: q) := runN_app _ b (fun d r e => by rcases hb d r e with h | h <;> (subst h; decide)) _
  have h3 : signN (c :: q ++ b) = signN (c :: q) := by
    cases q with
    | cons e q' => show signN (c :: e :: (q' ++ b)) = _; rw [signN_cons2, signN_cons2]
    | nil =>
      cases b with
      | nil => rfl
      | cons d r =>
        show signN (c :: d :: r) = _
        rw [signN_cons2, signN_cons1]
        have : isSign [c, d] = false := by
          cases hs : isSign [c, d] with
          | false => rfl
          | true =>
            rw [sign_two] at hs
            rcases hb d r rfl with h | h <;> (subst h; simp at hs)
        rw [this]; simp
  have t : ∀ n, n ≤ (c :: q).length → (c :: q ++ b).take n = (c :: q).take n := fun n hn => List.take_append_of_le_length hn
  have e : c :: q ++ b = c :: (q ++ b) := rfl
  rw [e] at h1 h2 h3 t ⊢
  simp only [tokenF, h1, h2, h3, t _ (runN_le _ _), t _ (signN_le _)]
theorem step_app (st : St) (c : UInt8) (q b : List UInt8) (hb : Apart b) : stepT st (c :: q ++ b) = stepT st (c :: q) := by
  have h := tokenF_app c q b hb
  have e : c :: q ++ b = c :: (q ++ b) := rfl
  rw [e] at h ⊢
  simp only [stepT, h]
theorem step_skip_le (st : St) (c : UInt8) (q : List UInt8) (h : st.skip ≤ (c :: q).length) : (stepT st (c :: q)).skip ≤ q.length := by
  have ht := (token_facts (c :: q)).1
  simp only [List.length_cons] at h ht
  unfold stepT
  simp only
  repeat' split
  all_goals try simp only
  all_goals omega
theorem scan_app (b : List UInt8) (hb : Apart b) : ∀ (l : List UInt8) (st : St), st.skip ≤ l.length → st.wrong = false →
    scan (l ++ b) st = (if (scan l st).wrong = true then scan l st else scan b (scan l st)) ∧ ((scan l st).wrong = false → (scan l st).skip = 0)
  | [], st, hs, hw => by
    refine ⟨?_, fun _ => by show st.skip = 0; simpa using hs⟩
    show scan b st = if st.wrong = true then st else scan b st
    rw [hw]; simp
  | c :: r, st, hs, hw => by
    have e : c :: r ++ b = c :: (r ++ b) := rfl
    have hstep : stepT st (c :: (r ++ b)) = stepT st (c :: r) := step_app st c r b hb
    rw [e, scan, scan, hstep]
    by_cases h : (stepT st (c :: r)).wrong = true
    · rw [if_pos h, if_pos h, if_pos h]
      exact ⟨rfl, fun h' => by rw [h] at h'; cases h'⟩
    · rw [if_neg h, if_neg h]
      exact scan_app b hb r _ (step_skip_le st c r hs) (by simpa using h)
theorem scan_note : ∀ (note : List UInt8) (st : St), st.comment = true → st.skip = 0 → st.wrong = false → (∀ c ∈ note, c.toNat ≠ 10) → scan note st = st
  | [], st, _, _, _, _ => rfl
  | c :: r, st, hc, hs, hw, hn => by
    rw [scan, step_pass c r st hs (hn c (.head _)) (.inl hc), if_neg (by rw [hw]; simp)]
    exact scan_note r st hc hs hw fun d hd => hn d (.tail _ hd)
theorem blank_end (st : St) (g : UInt8) (hg : g = 32 ∨ g = 9) (note : List UInt8) (hs : st.skip = 0) (hw : st.wrong = false) (hn : ∀ c ∈ note, c.toNat ≠ 10) :
    endV (scan (32 :: g :: 35 :: note) st) = endV st := by
  have hg' : g.toNat ≠ 10 ∧ (g.toNat = 32 ∨ g.toNat = 9) := by rcases hg with h | h <;> (subst h; decide)
  rw [scan, step_pass 32 _ st hs (by decide) (.inr (.inl (by decide))), if_neg (by rw [hw]; simp), scan, step_pass g _ st hs hg'.1 (.inr hg'.2), if_neg (by rw [hw]; simp), scan]
  by_cases hc : st.comment = true
  · rw [step_pass 35 _ st hs (by decide) (.inl hc), if_neg (by rw [hw]; simp), scan_note note st hc hs hw hn]
  · rw [step_hash 35 _ st hs (by simpa using hc) (by decide), if_neg (by simp [hw]), scan_note note { st with comment := true } rfl hs hw hn]
    rfl
theorem line_end (st : St) (hs : st.skip = 0) (hw : st.wrong = false) :
    endV (scan [10] st) = ((if st.full then st.toks ++ [⟨4, [], 0, st.line⟩] else st.toks) ++ [⟨0, [], 0, st.line + 1⟩], 0, 0) := by
  rw [scan, step_line 10 [] st hs (by decide), if_neg (by simp [hw])]
  simp [scan, endV, hw]
theorem scan_line : ∀ (l : List UInt8) (st : St), st.line ≤ (scan l st).line ∧ (scan l st).line ≤ st.line + l.length
  | [], st => by simp [scan]
  | c :: r, st => by
    have hstep : st.line ≤ (stepT st (c :: r)).line ∧ (stepT st (c :: r)).line ≤ st.line + 1 := by
      unfold stepT
      simp only
      repeat' split
      all_goals try simp only
      all_goals omega
    rw [scan]
    split
    · simp only [List.length_cons]; omega
    · have := scan_line r (stepT st (c :: r))
      simp only [List.length_cons]; omega

theorem b_ltI (a b : Nat) : decide ((a : Int) < (b : Int)) = decide (a < b) := by
  by_cases h : a < b
  · have : (a : Int) < b := by omega
    simp [h, this]
  · have : ¬ (a : Int) < b := by omega
    simp [h, this]
theorem blanks_loop (L : Nat) (K : FuncId → List AV → List AObj → KR) (k2 : List AObj → Eff → KR) (T : List Tok) (a b : Tok) (hab : b.line = a.line + 1) (hbd : 0 ≤ a.line ∧ a.line ≤ 100000) (hT : T.length ≤ 100000) : ∀ (m i : Nat), i ≤ T.length + 1 → T.length + 1 - i < m →
    d_law08_LexBlanks_l3 C8.G K L [] k2 m (.lst 4 (tokRows (T ++ [a]))) (.lst 4 (tokRows (T ++ [b]))) (.int .i64 i) [] none = k2 [] none
  | 0, _, _, h => by omega
  | m + 1, i, hi, hm => by
    have ihn := fun h1 h2 => blanks_loop L K k2 T a b hab hbd hT m (i + 1) h1 h2
    have hlen : ((tokRows (T ++ [a])).length : Int) = T.length + 1 := by simp [tokRows]
    have hw1 : IntKind.i64.wrap ((T.length : Int) + 1 - 1) = T.length := by rw [i64_in (by omega) (by omega)]; omega
    have hwl : IntKind.i64.wrap (a.line + 1) = a.line + 1 := i64_in (by omega) (by omega)
    by_cases h1 : i < T.length
    · have g1 : (tokRows (T ++ [a]))[i]? = some (tokRow T[i]) := by simp [tokRows, h1, List.getElem?_append_left]
      have g2 : (tokRows (T ++ [b]))[i]? = some (tokRow T[i]) := by simp [tokRows, h1, List.getElem?_append_left]
      have e1 : (i : Int) < T.length + 1 := by omega
      have e2 : (i : Int) < T.length := by omega
      have e3 : ¬ (i : Int) = T.length := by omega
      simp only [d_law08_LexBlanks_l3, optK_s, opt2_s, opt3_s, ifK_b, guardK_t, guardK_f, guardB_bt, guardB_bf, pickV_t, pickV_f, gif_t, guardK_pure, ro_gif, pick_and, pick_or', grp_and, grp_or, grp_tt, grp_ft, grp_tf, grp_ff, letK_e, ro_bool, ro_int, ro_str, ro_lst, ro_own, ro_agg, ro_tup, ro_ptr, ro_map, ro_ref, ro_fn, ro_undef, nm_bool, nm_int, nm_str, nm_lst, nm_own, nm_agg, nm_ptr, nm_map, nm_fn, b_add, b_sub, b_mul, b_eq, b_ne, b_lt, b_le, b_gt, b_ge, s_eq, s_ne, q_int, q_str, q_bool, q_nil, q_if, b_eqS, b_neS, b_eqB, b_neB, Option.map_some, u_not, u_neg, l_str, l_lst, c_int, x_tup, after_none, fin_bool, fin_int, fin_str, fin_lst, fin_own, fin_tup, frz2_int, frz2_str, frz2_bool, frz2_lst, fa_ref, fa_ptr, ldc_ref, hlen, hw1, e1, e2, eq_false_of e3, decide_true, if_true, ia_lst, g1, g2, lda_ref _ _ _ (Nat.le_of_eq (tokRow_len _).symm), tokRow_take, tokRow_ro, q_tok, wrap_nat i (by omega)]
      have : tokEq T[i] T[i] = true := (tokEq_iff _ _).2 rfl
      simp only [this, optK_s, opt2_s, opt3_s, ifK_b, guardK_t, guardK_f, guardB_bt, guardB_bf, pickV_t, pickV_f, gif_t, guardK_pure, ro_gif, pick_and, pick_or', grp_and, grp_or, grp_tt, grp_ft, grp_tf, grp_ff, letK_e, ro_bool, ro_int, ro_str, ro_lst, ro_own, ro_agg, ro_tup, ro_ptr, ro_map, ro_ref, ro_fn, ro_undef, nm_bool, nm_int, nm_str, nm_lst, nm_own, nm_agg, nm_ptr, nm_map, nm_fn, b_add, b_sub, b_mul, b_eq, b_ne, b_lt, b_le, b_gt, b_ge, s_eq, s_ne, q_int, q_str, q_bool, q_nil, q_if, b_eqS, b_neS, b_eqB, b_neB, Option.map_some, u_not, u_neg, l_str, l_lst, c_int, x_tup, after_none, fin_bool, fin_int, fin_str, fin_lst, fin_own, fin_tup, frz2_int, frz2_str, frz2_bool, frz2_lst, fa_ref, fa_ptr, ldc_ref, Bool.not_true, Bool.false_eq_true, if_false, Bool.or_self]
      exact ihn (by omega) (by omega)
    · by_cases h2 : i = T.length
      · subst h2
        have g1 : (tokRows (T ++ [a]))[T.length]? = some (tokRow a) := by simp [tokRows]
        have g2 : (tokRows (T ++ [b]))[T.length]? = some (tokRow b) := by simp [tokRows]
        have e1 : (T.length : Int) < T.length + 1 := by omega
        have e2 : ¬ (T.length : Int) < T.length := by omega
        have f1 : faVal 3 (.ref (tokRow a)) = some (.ref [.int .i64 a.line]) := rfl
        have f2 : faVal 3 (.ref (tokRow b)) = some (.ref [.int .i64 b.line]) := rfl
        simp only [d_law08_LexBlanks_l3, optK_s, hlen, hw1, e1, e2, decide_true, decide_false, if_true, ia_lst, g1, g2, f1, f2, Option.map_some, l_lst, b_lt, b_sub, b_eq, b_ne, b_add, ifK_b, grp_ft, ldc_ref, ro_int, grp_ff, grp_tt, opt3_s, ro_bool, hwl, hab, ne_eq, not_true_eq_false, Bool.false_eq_true, if_false, wrap_nat T.length (by omega)]
        exact ihn (by omega) (by omega)
      · have e1 : ¬ (i : Int) < T.length + 1 := by omega
        simp only [d_law08_LexBlanks_l3, optK_s, opt2_s, opt3_s, ifK_b, guardK_t, guardK_f, guardB_bt, guardB_bf, pickV_t, pickV_f, gif_t, guardK_pure, ro_gif, pick_and, pick_or', grp_and, grp_or, grp_tt, grp_ft, grp_tf, grp_ff, letK_e, ro_bool, ro_int, ro_str, ro_lst, ro_own, ro_agg, ro_tup, ro_ptr, ro_map, ro_ref, ro_fn, ro_undef, nm_bool, nm_int, nm_str, nm_lst, nm_own, nm_agg, nm_ptr, nm_map, nm_fn, b_add, b_sub, b_mul, b_eq, b_ne, b_lt, b_le, b_gt, b_ge, s_eq, s_ne, q_int, q_str, q_bool, q_nil, q_if, b_eqS, b_neS, b_eqB, b_neB, Option.map_some, u_not, u_neg, l_str, l_lst, c_int, x_tup, after_none, fin_bool, fin_int, fin_str, fin_lst, fin_own, fin_tup, frz2_int, frz2_str, frz2_bool, frz2_lst, fa_ref, fa_ptr, ldc_ref, hlen, e1, decide_false, Bool.false_eq_true, if_false]
theorem note_loop (L : Nat) (K : FuncId → List AV → List AObj → KR) (k0 : AV → AV → AV → List AObj → Eff → KR) (hK : ∀ hp, K F_law08_awake [] hp = some (.bool true, hp, none)) (x0 x2 : AV) (s : List UInt8) (hs : s.length ≤ 100000) : ∀ (r p : List UInt8) (m : Nat), s = p ++ r → r.length < m →
    d_law08_LexBlanks_l0 C8.G K L [] k0 m x0 (.str s) x2 (.int .i64 p.length) [] none = if r.all (fun c => decide (c.toNat ≠ 10)) then k0 x0 (.str s) x2 [] none else some (.bool true, [], none)
  | _, _, 0, _, h => by omega
  | [], p, m + 1, hp, _ => by
    have : ¬ ((p.length : Int) < s.length) := by rw [hp]; simp
    simp [d_law08_LexBlanks_l0, optK_s, opt2_s, opt3_s, ifK_b, guardK_t, guardK_f, guardB_bt, guardB_bf, pickV_t, pickV_f, gif_t, guardK_pure, ro_gif, pick_and, pick_or', grp_and, grp_or, grp_tt, grp_ft, grp_tf, grp_ff, letK_e, ro_bool, ro_int, ro_str, ro_lst, ro_own, ro_agg, ro_tup, ro_ptr, ro_map, ro_ref, ro_fn, ro_undef, nm_bool, nm_int, nm_str, nm_lst, nm_own, nm_agg, nm_ptr, nm_map, nm_fn, b_add, b_sub, b_mul, b_eq, b_ne, b_lt, b_le, b_gt, b_ge, s_eq, s_ne, q_int, q_str, q_bool, q_nil, q_if, b_eqS, b_neS, b_eqB, b_neB, Option.map_some, u_not, u_neg, l_str, l_lst, c_int, x_tup, after_none, fin_bool, fin_int, fin_str, fin_lst, fin_own, fin_tup, frz2_int, frz2_str, frz2_bool, frz2_lst, fa_ref, fa_ptr, ldc_ref, this]
  | c :: r, p, m + 1, hp, hm => by
    have hlt : p.length < s.length := by rw [hp]; simp
    have hlt' : (p.length : Int) < s.length := by omega
    have hg : s[p.length] = c := by simp [hp]
    have ih := note_loop L K k0 hK x0 x2 s hs r (p ++ [c]) m (by rw [hp]; simp) (by simpa using hm)
    simp only [List.length_append, List.length_cons, List.length_nil, Nat.zero_add] at ih
    by_cases hc : c.toNat = 10
    · have hc' : (c.toNat : Int) = 10 := by omega
      simp [d_law08_LexBlanks_l0, optK_s, opt2_s, opt3_s, ifK_b, guardK_t, guardK_f, guardB_bt, guardB_bf, pickV_t, pickV_f, gif_t, guardK_pure, ro_gif, pick_and, pick_or', grp_and, grp_or, grp_tt, grp_ft, grp_tf, grp_ff, letK_e, ro_bool, ro_int, ro_str, ro_lst, ro_own, ro_agg, ro_tup, ro_ptr, ro_map, ro_ref, ro_fn, ro_undef, nm_bool, nm_int, nm_str, nm_lst, nm_own, nm_agg, nm_ptr, nm_map, nm_fn, b_add, b_sub, b_mul, b_eq, b_ne, b_lt, b_le, b_gt, b_ge, s_eq, s_ne, q_int, q_str, q_bool, q_nil, q_if, b_eqS, b_neS, b_eqB, b_neB, Option.map_some, u_not, u_neg, l_str, l_lst, c_int, x_tup, after_none, fin_bool, fin_int, fin_str, fin_lst, fin_own, fin_tup, frz2_int, frz2_str, frz2_bool, frz2_lst, fa_ref, fa_ptr, ldc_ref, hlt', idx_str s p.length hlt, hg, hc', hK, hc]
    · have hc' : ¬ (c.toNat : Int) = 10 := by omega
      simp only [d_law08_LexBlanks_l0, optK_s, opt2_s, opt3_s, ifK_b, guardK_t, guardK_f, guardB_bt, guardB_bf, pickV_t, pickV_f, gif_t, guardK_pure, ro_gif, pick_and, pick_or', grp_and, grp_or, grp_tt, grp_ft, grp_tf, grp_ff, letK_e, ro_bool, ro_int, ro_str, ro_lst, ro_own, ro_agg, ro_tup, ro_ptr, ro_map, ro_ref, ro_fn, ro_undef, nm_bool, nm_int, nm_str, nm_lst, nm_own, nm_agg, nm_ptr, nm_map, nm_fn, b_add, b_sub, b_mul, b_eq, b_ne, b_lt, b_le, b_gt, b_ge, s_eq, s_ne, q_int, q_str, q_bool, q_nil, q_if, b_eqS, b_neS, b_eqB, b_neB, Option.map_some, u_not, u_neg, l_str, l_lst, c_int, x_tup, after_none, fin_bool, fin_int, fin_str, fin_lst, fin_own, fin_tup, frz2_int, frz2_str, frz2_bool, frz2_lst, fa_ref, fa_ptr, ldc_ref, hlt', idx_str s p.length hlt, hg, eq_false_of hc', decide_true, if_true, Bool.false_eq_true, if_false, wrap_nat p.length (by omega), ih]
      simp [hc]
theorem tokens_gap (s note : List UInt8) (g : UInt8) (hg : g = 32 ∨ g = 9) (hs : s.length ≤ 300) (hn : note.length ≤ 100) (hc : ∀ c ∈ note, c.toNat ≠ 10) : tokensF (s ++ [32, g] ++ [35] ++ note) = tokensF s := by
  rw [tokensF_endV C8_L, tokensF_endV C8_L, if_neg (by simp; omega), if_neg (by omega)]
  have e : s ++ [32, g] ++ [35] ++ note = s ++ (32 :: g :: 35 :: note) := by simp
  obtain ⟨h1, h2⟩ := scan_app (32 :: g :: 35 :: note) (fun d r e => .inl (by cases e; rfl)) s st0 (Nat.zero_le _) rfl
  rw [e, h1]
  by_cases hw : (scan s st0).wrong = true
  · rw [if_pos hw]
  · have hw' : (scan s st0).wrong = false := by simpa using hw
    rw [if_neg hw, blank_end _ g hg note (h2 hw') hw' hc]
theorem tokens_line (s : List UInt8) (hs : s.length ≤ 300) : (tokensF s = ([], (scan s st0).line, 8) ∧ tokensF (s ++ [10]) = ([], (scan s st0).line, 8)) ∨
    ∃ T line, tokensF s = (T ++ [⟨0, [], 0, line⟩], 0, 0) ∧ tokensF (s ++ [10]) = (T ++ [⟨0, [], 0, line + 1⟩], 0, 0) ∧ 0 ≤ line ∧ line ≤ 100000 := by
  rw [tokensF_endV C8_L, tokensF_endV C8_L, if_neg (by omega), if_neg (by simp; omega)]
  obtain ⟨h1, h2⟩ := scan_app [10] (fun d r e => .inr (by cases e; rfl)) s st0 (Nat.zero_le _) rfl
  have hl := scan_line s st0
  have h0 : st0.line = 1 := rfl
  rw [h1]
  by_cases hw : (scan s st0).wrong = true
  · left
    rw [if_pos hw]
    simp [endV, hw]
  · right
    have hw' : (scan s st0).wrong = false := by simpa using hw
    rw [if_neg hw, line_end _ (h2 hw') hw']
    refine ⟨_, (scan s st0).line, ?_, rfl, by omega, by omega⟩
    simp [endV, hw']
theorem x_blanks (s note : List UInt8) (tabs : Bool) : evalCall C8 6 F_law08_LexBlanks [.str s, .str note, .bool tabs] [] = some (.bool true, [], none) := by
  refine law08_LexBlanks_run (by rfl) ?_
  have hLb := C8_L.L
  generalize C8.L = L at *
  by_cases hs : 300 < s.length
  · have hs' : (300 : Int) < s.length := by omega
    simp [d_law08_LexBlanks, optK_s, opt2_s, opt3_s, ifK_b, guardK_t, guardK_f, guardB_bt, guardB_bf, pickV_t, pickV_f, gif_t, guardK_pure, ro_gif, pick_and, pick_or', grp_and, grp_or, grp_tt, grp_ft, grp_tf, grp_ff, letK_e, ro_bool, ro_int, ro_str, ro_lst, ro_own, ro_agg, ro_tup, ro_ptr, ro_map, ro_ref, ro_fn, ro_undef, nm_bool, nm_int, nm_str, nm_lst, nm_own, nm_agg, nm_ptr, nm_map, nm_fn, b_add, b_sub, b_mul, b_eq, b_ne, b_lt, b_le, b_gt, b_ge, s_eq, s_ne, q_int, q_str, q_bool, q_nil, q_if, b_eqS, b_neS, b_eqB, b_neB, Option.map_some, u_not, u_neg, l_str, l_lst, c_int, x_tup, after_none, fin_bool, fin_int, fin_str, fin_lst, fin_own, fin_tup, frz2_int, frz2_str, frz2_bool, frz2_lst, fa_ref, fa_ptr, ldc_ref, hs', o_awake]
  by_cases hn : 100 < note.length
  · have hs' : ¬ (300 : Int) < s.length := by omega
    have hn' : (100 : Int) < note.length := by omega
    simp [d_law08_LexBlanks, optK_s, opt2_s, opt3_s, ifK_b, guardK_t, guardK_f, guardB_bt, guardB_bf, pickV_t, pickV_f, gif_t, guardK_pure, ro_gif, pick_and, pick_or', grp_and, grp_or, grp_tt, grp_ft, grp_tf, grp_ff, letK_e, ro_bool, ro_int, ro_str, ro_lst, ro_own, ro_agg, ro_tup, ro_ptr, ro_map, ro_ref, ro_fn, ro_undef, nm_bool, nm_int, nm_str, nm_lst, nm_own, nm_agg, nm_ptr, nm_map, nm_fn, b_add, b_sub, b_mul, b_eq, b_ne, b_lt, b_le, b_gt, b_ge, s_eq, s_ne, q_int, q_str, q_bool, q_nil, q_if, b_eqS, b_neS, b_eqB, b_neB, Option.map_some, u_not, u_neg, l_str, l_lst, c_int, x_tup, after_none, fin_bool, fin_int, fin_str, fin_lst, fin_own, fin_tup, frz2_int, frz2_str, frz2_bool, frz2_lst, fa_ref, fa_ptr, ldc_ref, hs', hn', o_awake]
  have hs' : ¬ (300 : Int) < s.length := by omega
  have hn' : ¬ (100 : Int) < note.length := by omega
  have hloop := fun k0 => note_loop L (evalCall C8 5) k0 (fun hp => o_awake 4 hp) (.str s) (.bool tabs) note (by omega) note [] L rfl (by omega)
  simp only [List.length_nil, Int.ofNat_zero] at hloop
  simp only [d_law08_LexBlanks, optK_s, opt2_s, opt3_s, ifK_b, guardK_t, guardK_f, guardB_bt, guardB_bf, pickV_t, pickV_f, gif_t, guardK_pure, ro_gif, pick_and, pick_or', grp_and, grp_or, grp_tt, grp_ft, grp_tf, grp_ff, letK_e, ro_bool, ro_int, ro_str, ro_lst, ro_own, ro_agg, ro_tup, ro_ptr, ro_map, ro_ref, ro_fn, ro_undef, nm_bool, nm_int, nm_str, nm_lst, nm_own, nm_agg, nm_ptr, nm_map, nm_fn, b_add, b_sub, b_mul, b_eq, b_ne, b_lt, b_le, b_gt, b_ge, s_eq, s_ne, q_int, q_str, q_bool, q_nil, q_if, b_eqS, b_neS, b_eqB, b_neB, Option.map_some, u_not, u_neg, l_str, l_lst, c_int, x_tup, after_none, fin_bool, fin_int, fin_str, fin_lst, fin_own, fin_tup, frz2_int, frz2_str, frz2_bool, frz2_lst, fa_ref, fa_ptr, ldc_ref, hs', hn', decide_false, Bool.or_self, Bool.false_eq_true, if_false]
  refine Eq.trans (hloop _) ?_
  by_cases ha : note.all (fun c => decide (c.toNat ≠ 10)) = true
  · rw [if_pos ha]
    have hc : ∀ c ∈ note, c.toNat ≠ 10 := by simpa using ha
    have main : ∀ g, g = 32 ∨ g = 9 → d_law08_LexBlanks_j2 C8.G (evalCall C8 5) L [] (.str s) (.str note) (.str [32, g]) [] none = some (.bool true, [], none) := by
      intro g hg
      have t1 := tokens_gap s note g hg (by omega) (by omega) hc
      have a1 := s_add s [32, g] (by simp only [List.length_append, List.length_cons, List.length_nil]; omega)
      have a2 := s_add (s ++ [32, g]) [35] (by simp only [List.length_append, List.length_cons, List.length_nil]; omega)
      have a3 := s_add (s ++ [32, g] ++ [35]) note (by simp only [List.length_append, List.length_cons, List.length_nil]; omega)
      have a4 := s_add s [10] (by simp only [List.length_append, List.length_cons, List.length_nil]; omega)
      have hlen := tokensF_len s
      have o1 := o_tokens 4 s [] (by omega)
      have o2 := o_tokens 4 (s ++ [32, g] ++ [35] ++ note) [] (by simp only [List.length_append, List.length_cons, List.length_nil]; omega)
      have o3 := o_tokens 4 (s ++ [10]) [] (by simp only [List.length_append, List.length_cons, List.length_nil]; omega)
      rw [t1] at o2
      have es := e_same C8_L 4 (tokensF s).1 (tokensF s).1 [] (by omega)
      rw [sameT_refl] at es
      have hline := tokens_line s (by omega)
      clear t1
      generalize tokensF s = A at *
      generalize tokensF (s ++ [10]) = B at *
      generalize s ++ [32, g] ++ [35] ++ note = s2 at *
      generalize s ++ [10] = s3 at *
      obtain ⟨A1, A2, A3⟩ := A
      obtain ⟨B1, B2, B3⟩ := B
      simp only [vT] at o1 o2 o3 es
      simp only [d_law08_LexBlanks_j2, optK_s, opt3_s, ro_tup, x_tup, after_none, List.getElem?_cons_zero, List.getElem?_cons_succ, Option.map_some, ro_lst, ro_int, o1]
      rw [a1, optK_s, a2, optK_s, a3, optK_s, o2, opt3_s]
      simp only [optK_s, opt3_s, ro_tup, x_tup, after_none, List.getElem?_cons_zero, List.getElem?_cons_succ, Option.map_some, ro_lst, ro_int]
      rw [a4, optK_s, o3, opt3_s]
      simp only [optK_s, opt2_s, opt3_s, ifK_b, guardK_t, guardK_f, guardB_bt, guardB_bf, pickV_t, pickV_f, gif_t, guardK_pure, ro_gif, pick_and, pick_or', grp_and, grp_or, grp_tt, grp_ft, grp_tf, grp_ff, letK_e, ro_bool, ro_int, ro_str, ro_lst, ro_own, ro_agg, ro_tup, ro_ptr, ro_map, ro_ref, ro_fn, ro_undef, nm_bool, nm_int, nm_str, nm_lst, nm_own, nm_agg, nm_ptr, nm_map, nm_fn, b_add, b_sub, b_mul, b_eq, b_ne, b_lt, b_le, b_gt, b_ge, s_eq, s_ne, q_int, q_str, q_bool, q_nil, q_if, b_eqS, b_neS, b_eqB, b_neB, Option.map_some, u_not, u_neg, l_str, l_lst, c_int, x_tup, after_none, fin_bool, fin_int, fin_str, fin_lst, fin_own, fin_tup, frz2_int, frz2_str, frz2_bool, frz2_lst, fa_ref, fa_ptr, ldc_ref, List.getElem?_cons_zero, List.getElem?_cons_succ, es, ne_eq, not_true_eq_false, decide_false, Bool.not_true, Bool.false_or]
      rcases hline with ⟨h1, h2⟩ | ⟨T, line, h1, h2, h3, h4⟩
      · cases h1
        cases h2
        obtain ⟨k, hk⟩ : ∃ k, L = k + 1 := ⟨L - 1, by omega⟩
        simp [tokRows, hk, d_law08_LexBlanks_l3, d_law08_LexBlanks_j4, optK_s, opt2_s, opt3_s, ifK_b, guardK_t, guardK_f, guardB_bt, guardB_bf, pickV_t, pickV_f, gif_t, guardK_pure, ro_gif, pick_and, pick_or', grp_and, grp_or, grp_tt, grp_ft, grp_tf, grp_ff, letK_e, ro_bool, ro_int, ro_str, ro_lst, ro_own, ro_agg, ro_tup, ro_ptr, ro_map, ro_ref, ro_fn, ro_undef, nm_bool, nm_int, nm_str, nm_lst, nm_own, nm_agg, nm_ptr, nm_map, nm_fn, b_add, b_sub, b_mul, b_eq, b_ne, b_lt, b_le, b_gt, b_ge, s_eq, s_ne, q_int, q_str, q_bool, q_nil, q_if, b_eqS, b_neS, b_eqB, b_neB, Option.map_some, u_not, u_neg, l_str, l_lst, c_int, x_tup, after_none, fin_bool, fin_int, fin_str, fin_lst, fin_own, fin_tup, frz2_int, frz2_str, frz2_bool, frz2_lst, fa_ref, fa_ptr, ldc_ref, o_awake]
      · cases h1
        cases h2
        have hT : T.length ≤ 100000 := by simp at hlen; omega
        have hl3 := blanks_loop L (evalCall C8 5) (d_law08_LexBlanks_j4 C8.G (evalCall C8 5) L []) T ⟨0, [], 0, line⟩ ⟨0, [], 0, line + 1⟩ rfl ⟨h3, h4⟩ hT L 0 (by omega) (by omega)
        simp only [tokRows, List.length_map, List.length_append, List.length_cons, List.length_nil, ne_eq, not_true_eq_false, decide_false, Bool.false_eq_true, if_false, Bool.or_self] at hl3 ⊢
        refine Eq.trans hl3 ?_
        simp [d_law08_LexBlanks_j4, optK_s, opt2_s, opt3_s, ifK_b, guardK_t, guardK_f, guardB_bt, guardB_bf, pickV_t, pickV_f, gif_t, guardK_pure, ro_gif, pick_and, pick_or', grp_and, grp_or, grp_tt, grp_ft, grp_tf, grp_ff, letK_e, ro_bool, ro_int, ro_str, ro_lst, ro_own, ro_agg, ro_tup, ro_ptr, ro_map, ro_ref, ro_fn, ro_undef, nm_bool, nm_int, nm_str, nm_lst, nm_own, nm_agg, nm_ptr, nm_map, nm_fn, b_add, b_sub, b_mul, b_eq, b_ne, b_lt, b_le, b_gt, b_ge, s_eq, s_ne, q_int, q_str, q_bool, q_nil, q_if, b_eqS, b_neS, b_eqB, b_neB, Option.map_some, u_not, u_neg, l_str, l_lst, c_int, x_tup, after_none, fin_bool, fin_int, fin_str, fin_lst, fin_own, fin_tup, frz2_int, frz2_str, frz2_bool, frz2_lst, fa_ref, fa_ptr, ldc_ref, o_awake]
    simp only [d_law08_LexBlanks_j1, optK_s, opt2_s, opt3_s, ifK_b, guardK_t, guardK_f, guardB_bt, guardB_bf, pickV_t, pickV_f, gif_t, guardK_pure, ro_gif, pick_and, pick_or', grp_and, grp_or, grp_tt, grp_ft, grp_tf, grp_ff, letK_e, ro_bool, ro_int, ro_str, ro_lst, ro_own, ro_agg, ro_tup, ro_ptr, ro_map, ro_ref, ro_fn, ro_undef, nm_bool, nm_int, nm_str, nm_lst, nm_own, nm_agg, nm_ptr, nm_map, nm_fn, b_add, b_sub, b_mul, b_eq, b_ne, b_lt, b_le, b_gt, b_ge, s_eq, s_ne, q_int, q_str, q_bool, q_nil, q_if, b_eqS, b_neS, b_eqB, b_neB, Option.map_some, u_not, u_neg, l_str, l_lst, c_int, x_tup, after_none, fin_bool, fin_int, fin_str, fin_lst, fin_own, fin_tup, frz2_int, frz2_str, frz2_bool, frz2_lst, fa_ref, fa_ptr, ldc_ref]
    cases tabs with
    | true => exact main 9 (.inr rfl)
    | false => exact main 32 (.inl rfl)
  · rw [if_neg ha]
theorem c_blanks (s note : ByteArray) (tabs : Bool) (w : World) (hL : Laid w) :
    Calls Tryd.prog 8 #[.string s, .string note, .bool tabs] w fun e w' => e = .returned (.bool true) ∧ Below w.heap.size w w' :=
  law_of (C8_ok hL) (x_blanks s.data.toList note.data.toList tabs) rfl fun j x hx => by
    match j, hx with
    | 0, hx => cases hx; exact ⟨by show Rep _ _ _ (.string s); exact .str s.data.toList, fun k r e => by cases e⟩
    | 1, hx => cases hx; exact ⟨by show Rep _ _ _ (.string note); exact .str note.data.toList, fun k r e => by cases e⟩
    | 2, hx => cases hx; exact ⟨.bool _, fun k r e => by cases e⟩
    | j + 3, hx => simp at hx
end Go.Proofs.YtiabiflaecidoaaDoor
