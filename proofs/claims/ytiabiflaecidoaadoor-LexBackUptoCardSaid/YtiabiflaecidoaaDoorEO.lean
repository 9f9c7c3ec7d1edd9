/-
  The reference's Text is the program's, on lists.
-/
import Derived.Test.YtiabiflaecidoaaDoorEN
namespace Go.Proofs.YtiabiflaecidoaaDoor
open Go Go.RowKit Go.Proofs.YtiabiflaecidoaaDoor.Abs
set_option linter.all false

theorem textStep_le (st : TS) (t : Tok) : st.out.length ≤ (textStep st t).out.length := by
  have h1 : st.out.length ≤ (lineStep st t.line).out.length := by
    unfold lineStep; split
    · simp
    · exact Nat.le_refl _
  have h2 : (lineStep st t.line).out.length ≤ (tokStep (lineStep st t.line) t).out.length := by
    unfold tokStep; split
    · exact Nat.le_refl _
    · simp only [List.length_append]; split
      · simp; omega
      · omega
  exact Nat.le_trans h1 h2
theorem foldl_le : ∀ (ts : List Tok) (st : TS), st.out.length ≤ (ts.foldl textStep st).out.length
  | [], _ => Nat.le_refl _
  | t :: r, st => Nat.le_trans (textStep_le st t) (foldl_le r _)

theorem wordT_none {t : Tok} (hf : formF t = true) (hk : t.kind = 4 ∨ t.kind = 0) : wordT t = [] := by
  have h1 : formF t = true := hf
  unfold formF at h1
  unfold wordT
  rcases hk with hk | hk
  · rw [if_neg (by omega)]
    rw [if_neg (by omega), if_neg (by omega), if_neg (by omega)] at h1
    simp at h1
    exact h1.2
  · rw [if_neg (by omega)]
    rw [if_neg (by omega), if_neg (by omega), if_neg (by omega)] at h1
    simp at h1
    exact h1.2
structure Lk (prev : Option Tok) (st : TS) : Prop where
  none : prev = none → st.full = false ∧ st.line = 1
  some : ∀ b, prev = some b → b.line = st.line ∧ (b.kind ≠ 4 → b.kind ≠ 0 → st.full = true)
theorem repeat_one (m : Nat) : Lib.repeatL [(10 : UInt8)] m = List.replicate m 10 := by
  have := Lib.repeatL_replicate 10 1 m
  rwa [Nat.mul_one] at this
theorem lineStep_out (st : TS) (l : Int) : (lineStep st l).out = st.out ++ List.replicate (l - st.line).toNat 10 := by
  unfold lineStep; split
  · show st.out ++ Lib.repeatL [10] (l - st.line).toNat = _
    rw [repeat_one]
  · have : (l - st.line).toNat = 0 := by omega
    rw [this]; simp
theorem rText_step (prev : Option Tok) (st : TS) (t : Tok) (last : Bool) (h : Lk prev st) (hs : stepC prev t last = 0) (h0 : ∀ b, prev = some b → b.kind ≠ 0) :
    (textStep st t).out = st.out ++ List.replicate (t.line - st.line).toNat 10 ++ (if gapR prev t then [32] else []) ++ wordT t ∧ (textStep st t).line = (if st.line < t.line then t.line else st.line) ∧ Lk (some t) (textStep st t) := by
  obtain ⟨z1, z2, hf, hp⟩ := stepC_zero hs
  have hln : (textStep st t).line = (if st.line < t.line then t.line else st.line) := by
    have e : (textStep st t).line = (lineStep st t.line).line := by unfold textStep tokStep; split <;> rfl
    rw [e]; unfold lineStep
    by_cases hc : st.line < t.line
    · rw [if_pos (by omega), if_pos hc]
    · rw [if_neg (by omega), if_neg hc]
  have hge : st.line ≤ t.line := by
    cases prev with
    | none => have := (h.none rfl).2; simp only at hp; omega
    | some b =>
      have hb := h.some b rfl
      simp only at hp
      obtain ⟨_, _, q1, q2, q3⟩ := hp
      by_cases e4 : b.kind = 4
      · by_cases e0 : t.kind = 0
        · have := q2 e4 e0; omega
        · have := q3 e4 e0; omega
      · have := q1 e4; omega
  have hfull : t.kind ≠ 4 → t.kind ≠ 0 → (lineStep st t.line).full = gapR prev t := by
    intro e4 e0
    unfold lineStep
    cases prev with
    | none =>
      have := h.none rfl
      split
      · rfl
      · exact this.1
    | some b =>
      have hb := h.some b rfl
      simp only at hp
      obtain ⟨_, _, q1, q2, q3⟩ := hp
      simp only [gapR, e4, e0, ne_eq, not_false_eq_true, decide_true, Bool.true_and]
      by_cases c : 0 < t.line - st.line
      · rw [if_pos c]; simp only; symm; rw [decide_eq_false_iff_not]; omega
      · rw [if_neg c]
        have hbk : b.kind ≠ 4 := fun e => by have := q3 e e0; omega
        rw [hb.2 hbk (h0 b rfl)]; symm; rw [decide_eq_true_eq]; omega
  refine ⟨?_, hln, ⟨fun e => (by cases e), fun b e => ?_⟩⟩
  · unfold textStep tokStep
    by_cases hk : t.kind = 4 ∨ t.kind = 0
    · rw [if_pos hk, wordT_none hf hk, lineStep_out]
      have : gapR prev t = false := by
        unfold gapR; split
        · rfl
        · rcases hk with e | e <;> simp [e]
      rw [this]; simp
    · rw [if_neg hk]
      simp only
      rw [hfull (fun e => hk (.inl e)) (fun e => hk (.inr e)), lineStep_out]
      cases gapR prev t <;> simp
  · cases e
    refine ⟨by rw [hln]; split <;> omega, fun e4 e0 => ?_⟩
    unfold textStep tokStep
    rw [if_neg (by rintro (e | e) <;> contradiction)]
theorem rText_go {ts : List Tok} (hg : Good ts) : ∀ (r p : List Tok), ts = p ++ r → Lk (prevT ts p.length) (textSt p) → (textSt p).out.length ≤ 20000 →
    rTextGo (prevT ts p.length) (textSt p).out (textSt p).line r = if 20000 < (textSt ts).out.length then none else some (textSt ts).out
  | [], p, hs, _, hle => by
    have : ts = p := by simpa using hs
    subst this
    rw [rTextGo, if_neg (by omega)]
  | t :: r, p, hs, hk, hle => by
    have hpl : p.length < ts.length := by rw [hs]; simp
    have hget : ts[p.length] = t := by simp [hs]
    have hs1 := hg.step p.length hpl
    rw [hget] at hs1
    have h0 : ∀ b, prevT ts p.length = some b → b.kind ≠ 0 := by
      intro b hb e0
      unfold prevT at hb
      split at hb
      · cases hb
      · rename_i hne
        have hb2 : ts[p.length - 1]? = some b := hb
        have hlt : p.length - 1 < ts.length := by omega
        rw [List.getElem?_eq_getElem hlt] at hb2
        have hb3 := Option.some.inj hb2
        have := hg.step (p.length - 1) hlt
        rw [hb3] at this
        have hd : decide (p.length - 1 + 1 = ts.length) = false := by rw [decide_eq_false_iff_not]; omega
        have hpv : ∀ q, q = prevT ts (p.length - 1) → False := fun q hq0 => by
          rw [← hq0] at this
          obtain ⟨_, _, _, hq⟩ := stepC_zero this
          cases q with
          | none => simp only at hq; exact absurd (hq.2.1 e0) (by rw [hd]; simp)
          | some b' => simp only at hq; exact absurd (hq.2.1 e0).1 (by rw [hd]; simp)
        exact hpv _ rfl
    obtain ⟨a1, a2, a3⟩ := rText_step _ _ _ _ hk hs1 h0
    have hst : textStep (textSt p) t = textSt (p ++ [t]) := by simp [textSt, List.foldl_append]
    rw [hst] at a1 a2 a3
    have hmono : (textSt (p ++ [t])).out.length ≤ (textSt ts).out.length := by
      have e : textSt ts = r.foldl textStep (textSt (p ++ [t])) := by rw [hs]; simp [textSt, List.foldl_append]
      rw [e]; exact foldl_le _ _
    have hprev : prevT ts (p ++ [t]).length = some t := by
      simp [prevT, hs]
    rw [rTextGo, ← a1, ← a2]
    by_cases hc : 20000 < (textSt (p ++ [t])).out.length
    · rw [if_pos hc, if_pos (by omega)]
    · rw [if_neg hc]
      have ih := rText_go hg r (p ++ [t]) (by rw [hs]; simp) (by rw [hprev]; exact a3) (by omega)
      rw [hprev] at ih
      exact ih
theorem rText_eq {ts : List Tok} (hg : Good ts) : rTextGo none [] 1 ts = if 20000 < (textSt ts).out.length then none else some (textSt ts).out :=
  rText_go hg ts [] rfl ⟨fun _ => ⟨rfl, rfl⟩, fun b e => (by cases e)⟩ (by simp [textSt])

theorem good_lines {ts : List Tok} (hg : Good ts) (hl : lastLine ts ≤ 20001) : ∀ t ∈ ts, t.line ≤ 20001 := by
  intro t ht
  obtain ⟨k, hk, rfl⟩ := List.mem_iff_getElem.1 ht
  have := hg.mono k (ts.length - 1 - k) (by omega)
  have e : k + (ts.length - 1 - k) = ts.length - 1 := by omega
  simp only [e] at this
  have hlast : lastLine ts = (ts[ts.length - 1]'(by omega)).line := by
    unfold lastLine
    rw [List.getLast?_eq_getElem?, List.getElem?_eq_getElem (by omega)]
  omega
theorem e_rtext (n : Nat) (l : List Tok) (hp : List AObj) (hl : l.length ≤ 1000000) (ht : ∀ t ∈ l, t.text.length ≤ 1000000 ∧ -9223372036854775808 ≤ t.n ∧ t.n ≤ 9223372036854775807) :
    evalCall C8 (n + 5) F_r08_Text [.lst 4 (tokRows l)] hp = some (.tup [.str (textF l).1, .int .i64 (textF l).2], hp, none) := by
  refine r08_Text_run (by rfl) ?_
  have hck := e_rcheck C8_L n l hp hl (fun t h => by have := (ht t h).1; omega)
  rw [checkR_eq] at hck
  by_cases h0 : checkF l = 0
  · have hg := good_of h0
    obtain ⟨hpos, hlk⟩ := hg.last
    have hi : (tokRows l)[l.length - 1]? = some (tokRow (l[l.length - 1]'(by omega))) := by rw [tokRows, List.getElem?_map, List.getElem?_eq_getElem (by omega)]; rfl
    have f3 : ∀ u : Tok, faVal 3 (.ref (tokRow u)) = some (.ref [.int .i64 u.line]) := fun u => rfl
    have hlast : lastLine l = (l[l.length - 1]'(by omega)).line := by
      unfold lastLine
      rw [List.getLast?_eq_getElem?, List.getElem?_eq_getElem (by omega)]
    have hlen : ((tokRows l).length : Int) = l.length := by simp [tokRows]
    have hw : IntKind.i64.wrap ((l.length : Int) - 1) = ((l.length - 1 : Nat) : Int) := by rw [i64_in (by omega) (by omega)]; omega
    generalize l[l.length - 1]'(by omega) = z at *
    by_cases hz : 20001 < lastLine l
    · have hz' : (20001 : Int) < z.line := by omega
      simp only [d_r08_Text, optK_s, opt2_s, opt3_s, ifK_b, guardK_t, guardK_f, guardB_bt, guardB_bf, pickV_t, pickV_f, gif_t, guardK_pure, ro_gif, pick_and, pick_or', grp_and, grp_or, grp_tt, grp_ft, grp_tf, grp_ff, letK_e, ro_bool, ro_int, ro_str, ro_lst, ro_own, ro_agg, ro_tup, ro_ptr, ro_map, ro_ref, ro_fn, ro_undef, nm_bool, nm_int, nm_str, nm_lst, nm_own, nm_agg, nm_ptr, nm_map, nm_fn, b_add, b_sub, b_mul, b_eq, b_ne, b_lt, b_le, b_gt, b_ge, s_eq, s_ne, q_int, q_str, q_bool, q_nil, q_if, b_eqS, b_neS, b_eqB, b_neB, Option.map_some, u_not, u_neg, l_str, l_lst, c_int, x_tup, after_none, fin_bool, fin_int, fin_str, fin_lst, fin_own, fin_tup, frz2_int, frz2_str, frz2_bool, frz2_lst, fa_ref, fa_ptr, ldc_ref, hck, h0, ne_eq, not_true_eq_false, decide_false, Bool.false_eq_true, if_false, hlen, hw, ia_lst, hi, f3, ldc_ref, hz', decide_true, if_true]
      simp [textF, h0, hz]
      rfl
    · have hz' : ¬ (20001 : Int) < z.line := by omega
      have hln := good_lines hg (by omega)
      have hloop := e_rtext_loop (n + 3) C8.L (Nat.le_refl _) hp (d_r08_Text_j6 C8.G (evalCall C8 (n + 3 + 1)) C8.L hp) l hl (fun t h => ⟨(ht t h).1, by have := hln t h; omega, (ht t h).2⟩) l [] C8.L [] 1 hp rfl (by have : C8.L = 9223372036854775808 := rfl; omega) (by simp) (by omega) (by omega)
      have hpr : prevT l ([] : List Tok).length = none := rfl
      rw [hpr, rText_eq hg] at hloop
      simp only [d_r08_Text, optK_s, opt2_s, opt3_s, ifK_b, guardK_t, guardK_f, guardB_bt, guardB_bf, pickV_t, pickV_f, gif_t, guardK_pure, ro_gif, pick_and, pick_or', grp_and, grp_or, grp_tt, grp_ft, grp_tf, grp_ff, letK_e, ro_bool, ro_int, ro_str, ro_lst, ro_own, ro_agg, ro_tup, ro_ptr, ro_map, ro_ref, ro_fn, ro_undef, nm_bool, nm_int, nm_str, nm_lst, nm_own, nm_agg, nm_ptr, nm_map, nm_fn, b_add, b_sub, b_mul, b_eq, b_ne, b_lt, b_le, b_gt, b_ge, s_eq, s_ne, q_int, q_str, q_bool, q_nil, q_if, b_eqS, b_neS, b_eqB, b_neB, Option.map_some, u_not, u_neg, l_str, l_lst, c_int, x_tup, after_none, fin_bool, fin_int, fin_str, fin_lst, fin_own, fin_tup, frz2_int, frz2_str, frz2_bool, frz2_lst, fa_ref, fa_ptr, ldc_ref, hck, h0, ne_eq, not_true_eq_false, decide_false, Bool.false_eq_true, if_false, hlen, hw, ia_lst, hi, f3, ldc_ref, hz']
      refine Eq.trans hloop ?_
      by_cases hb : 20000 < (textSt l).out.length
      · rw [if_pos hb]; simp [textF, h0, hz, hb]
      · rw [if_neg hb]; simp [textF, h0, hz, hb, d_r08_Text_j6]; rfl
  · simp only [d_r08_Text, optK_s, opt2_s, opt3_s, ifK_b, guardK_t, guardK_f, guardB_bt, guardB_bf, pickV_t, pickV_f, gif_t, guardK_pure, ro_gif, pick_and, pick_or', grp_and, grp_or, grp_tt, grp_ft, grp_tf, grp_ff, letK_e, ro_bool, ro_int, ro_str, ro_lst, ro_own, ro_agg, ro_tup, ro_ptr, ro_map, ro_ref, ro_fn, ro_undef, nm_bool, nm_int, nm_str, nm_lst, nm_own, nm_agg, nm_ptr, nm_map, nm_fn, b_add, b_sub, b_mul, b_eq, b_ne, b_lt, b_le, b_gt, b_ge, s_eq, s_ne, q_int, q_str, q_bool, q_nil, q_if, b_eqS, b_neS, b_eqB, b_neB, Option.map_some, u_not, u_neg, l_str, l_lst, c_int, x_tup, after_none, fin_bool, fin_int, fin_str, fin_lst, fin_own, fin_tup, frz2_int, frz2_str, frz2_bool, frz2_lst, fa_ref, fa_ptr, ldc_ref, hck, h0, ne_eq, not_false_eq_true, decide_true, if_true]
    simp [textF, h0]
    rfl
end Go.Proofs.YtiabiflaecidoaaDoor
