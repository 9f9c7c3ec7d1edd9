/-
  LexChecks.
-/
import Derived.Test.YtiabiflaecidoaaDoorEO
namespace Go.Proofs.YtiabiflaecidoaaDoor
open Go Go.RowKit Go.Proofs.YtiabiflaecidoaaDoor.Abs
set_option linter.all false

def smallT (t : Tok) : Bool := !(decide (40 < (t.text.length : Int)) || decide (30000 < t.line))
theorem bnd_small : ∀ ts : List Tok, ts.all smallT = true → bnd ts ≤ 55 * ts.length
  | [], _ => by simp [bnd]
  | t :: r, h => by
    simp only [List.all_cons, Bool.and_eq_true] at h
    have := bnd_small r h.2
    have h1 := h.1
    simp only [smallT, Bool.not_eq_true', Bool.or_eq_false_iff, decide_eq_false_iff_not] at h1
    simp only [bnd, List.map_cons, List.sum_cons, List.length_cons] at this ⊢
    omega
theorem e_lc_loop (n : Nat) (L : Nat) (k0 : AV → List AObj → Eff → KR) (l : List Tok) (hl : l.length ≤ 60) (ht : ∀ t ∈ l, t.text.length ≤ 281474976710656) :
    ∀ (r p : List Tok) (m : Nat), l = p ++ r → r.length < m →
    d_law08_LexChecks_l0 C8.G (evalCall C8 (n + 1)) L [] k0 m (.lst 4 (tokRows l)) (.int .i64 p.length) [] none =
      if r.all smallT = true then k0 (.lst 4 (tokRows l)) [] none else some (.bool true, [], none)
  | _, _, 0, _, h => by omega
  | [], p, m + 1, hs, _ => by
    have hlen : ((tokRows l).length : Int) = p.length := by rw [hs]; simp [tokRows]
    simp only [d_law08_LexChecks_l0, optK_s, opt2_s, opt3_s, ifK_b, guardK_t, guardK_f, guardB_bt, guardB_bf, pickV_t, pickV_f, gif_t, guardK_pure, ro_gif, pick_and, pick_or', grp_and, grp_or, grp_tt, grp_ft, grp_tf, grp_ff, letK_e, ro_bool, ro_int, ro_str, ro_lst, ro_own, ro_agg, ro_tup, ro_ptr, ro_map, ro_ref, ro_fn, ro_undef, nm_bool, nm_int, nm_str, nm_lst, nm_own, nm_agg, nm_ptr, nm_map, nm_fn, b_add, b_sub, b_mul, b_eq, b_ne, b_lt, b_le, b_gt, b_ge, s_eq, s_ne, q_int, q_str, q_bool, q_nil, q_if, b_eqS, b_neS, b_eqB, b_neB, Option.map_some, u_not, u_neg, l_str, l_lst, c_int, x_tup, after_none, fin_bool, fin_int, fin_str, fin_lst, fin_own, fin_tup, frz2_int, frz2_str, frz2_bool, frz2_lst, fa_ref, fa_ptr, ldc_ref, hlen, Int.lt_irrefl, decide_false, Bool.false_eq_true, if_false, List.all_nil, if_true]
  | t :: r, p, m + 1, hs, hm => by
    have hlen : ((tokRows l).length : Int) = p.length + (r.length + 1) := by rw [hs]; simp [tokRows]
    have hlt : (p.length : Int) < p.length + (r.length + 1) := by omega
    have hpl : p.length + (r.length + 1) ≤ 60 := by rw [hs] at hl; simpa using hl
    have hi : l[p.length]? = some t := by rw [hs]; simp
    have hg : (tokRows l)[p.length]? = some (tokRow t) := by simp [tokRows, hi]
    have f1 : faVal 1 (.ref (tokRow t)) = some (.ref [.str t.text, .int .i64 t.n, .int .i64 t.line]) := rfl
    have f3 : faVal 3 (.ref (tokRow t)) = some (.ref [.int .i64 t.line]) := rfl
    have ih := e_lc_loop n L k0 l hl ht r (p ++ [t]) m (by rw [hs]; simp) (by simpa using hm)
    simp only [List.length_append, List.length_cons, List.length_nil, Nat.zero_add] at ih
    rw [List.all_cons]
    by_cases h1 : (40 : Int) < (t.text.length : Int)
    · have hs1 : smallT t = false := by simp [smallT, h1]
      simp only [d_law08_LexChecks_l0, optK_s, opt2_s, opt3_s, ifK_b, guardK_t, guardK_f, guardB_bt, guardB_bf, pickV_t, pickV_f, gif_t, guardK_pure, ro_gif, pick_and, pick_or', grp_and, grp_or, grp_tt, grp_ft, grp_tf, grp_ff, letK_e, ro_bool, ro_int, ro_str, ro_lst, ro_own, ro_agg, ro_tup, ro_ptr, ro_map, ro_ref, ro_fn, ro_undef, nm_bool, nm_int, nm_str, nm_lst, nm_own, nm_agg, nm_ptr, nm_map, nm_fn, b_add, b_sub, b_mul, b_eq, b_ne, b_lt, b_le, b_gt, b_ge, s_eq, s_ne, q_int, q_str, q_bool, q_nil, q_if, b_eqS, b_neS, b_eqB, b_neB, Option.map_some, u_not, u_neg, l_str, l_lst, c_int, x_tup, after_none, fin_bool, fin_int, fin_str, fin_lst, fin_own, fin_tup, frz2_int, frz2_str, frz2_bool, frz2_lst, fa_ref, fa_ptr, ldc_ref, hlen, hlt, decide_true, if_true, ia_lst, hg, f1, f3, h1, Bool.true_or, hs1, Bool.false_and, Bool.false_eq_true, if_false, o_awake]
    · by_cases h2 : 30000 < t.line
      · have hs1 : smallT t = false := by simp [smallT, h2]
        simp only [d_law08_LexChecks_l0, optK_s, opt2_s, opt3_s, ifK_b, guardK_t, guardK_f, guardB_bt, guardB_bf, pickV_t, pickV_f, gif_t, guardK_pure, ro_gif, pick_and, pick_or', grp_and, grp_or, grp_tt, grp_ft, grp_tf, grp_ff, letK_e, ro_bool, ro_int, ro_str, ro_lst, ro_own, ro_agg, ro_tup, ro_ptr, ro_map, ro_ref, ro_fn, ro_undef, nm_bool, nm_int, nm_str, nm_lst, nm_own, nm_agg, nm_ptr, nm_map, nm_fn, b_add, b_sub, b_mul, b_eq, b_ne, b_lt, b_le, b_gt, b_ge, s_eq, s_ne, q_int, q_str, q_bool, q_nil, q_if, b_eqS, b_neS, b_eqB, b_neB, Option.map_some, u_not, u_neg, l_str, l_lst, c_int, x_tup, after_none, fin_bool, fin_int, fin_str, fin_lst, fin_own, fin_tup, frz2_int, frz2_str, frz2_bool, frz2_lst, fa_ref, fa_ptr, ldc_ref, hlen, hlt, decide_true, if_true, ia_lst, hg, f1, f3, h1, h2, decide_false, Bool.false_or, hs1, Bool.false_and, Bool.false_eq_true, if_false, o_awake]
      · have hs1 : smallT t = true := by simp [smallT, h1, h2]
        simp only [d_law08_LexChecks_l0, optK_s, opt2_s, opt3_s, ifK_b, guardK_t, guardK_f, guardB_bt, guardB_bf, pickV_t, pickV_f, gif_t, guardK_pure, ro_gif, pick_and, pick_or', grp_and, grp_or, grp_tt, grp_ft, grp_tf, grp_ff, letK_e, ro_bool, ro_int, ro_str, ro_lst, ro_own, ro_agg, ro_tup, ro_ptr, ro_map, ro_ref, ro_fn, ro_undef, nm_bool, nm_int, nm_str, nm_lst, nm_own, nm_agg, nm_ptr, nm_map, nm_fn, b_add, b_sub, b_mul, b_eq, b_ne, b_lt, b_le, b_gt, b_ge, s_eq, s_ne, q_int, q_str, q_bool, q_nil, q_if, b_eqS, b_neS, b_eqB, b_neB, Option.map_some, u_not, u_neg, l_str, l_lst, c_int, x_tup, after_none, fin_bool, fin_int, fin_str, fin_lst, fin_own, fin_tup, frz2_int, frz2_str, frz2_bool, frz2_lst, fa_ref, fa_ptr, ldc_ref, hlen, hlt, decide_true, if_true, ia_lst, hg, f1, f3, h1, h2, decide_false, Bool.false_or, hs1, Bool.true_and, Bool.false_eq_true, if_false, wrap_nat p.length (by omega), ih]
theorem x_checks (ts : List Tok) (hlen : ts.length ≤ 281474976710656) (ht : ∀ t ∈ ts, t.text.length ≤ 281474976710656 ∧ -9223372036854775808 ≤ t.n ∧ t.n ≤ 9223372036854775807) :
    evalCall C8 6 F_law08_LexChecks [.lst 4 (tokRows ts)] [] = some (.bool true, [], none) := by
  refine law08_LexChecks_run (by rfl) ?_
  have hl : ((tokRows ts).length : Int) = ts.length := by simp [tokRows]
  by_cases h : (60 : Int) < ts.length
  · simp only [d_law08_LexChecks, optK_s, opt2_s, opt3_s, ifK_b, guardK_t, guardK_f, guardB_bt, guardB_bf, pickV_t, pickV_f, gif_t, guardK_pure, ro_gif, pick_and, pick_or', grp_and, grp_or, grp_tt, grp_ft, grp_tf, grp_ff, letK_e, ro_bool, ro_int, ro_str, ro_lst, ro_own, ro_agg, ro_tup, ro_ptr, ro_map, ro_ref, ro_fn, ro_undef, nm_bool, nm_int, nm_str, nm_lst, nm_own, nm_agg, nm_ptr, nm_map, nm_fn, b_add, b_sub, b_mul, b_eq, b_ne, b_lt, b_le, b_gt, b_ge, s_eq, s_ne, q_int, q_str, q_bool, q_nil, q_if, b_eqS, b_neS, b_eqB, b_neB, Option.map_some, u_not, u_neg, l_str, l_lst, c_int, x_tup, after_none, fin_bool, fin_int, fin_str, fin_lst, fin_own, fin_tup, frz2_int, frz2_str, frz2_bool, frz2_lst, fa_ref, fa_ptr, ldc_ref, hl, h, decide_true, if_true, o_awake]
  · have hok : okToks ts := ⟨hlen, fun t h => (ht t h).1⟩
    have hloop := e_lc_loop 4 C8.L (d_law08_LexChecks_j1 C8.G (evalCall C8 5) C8.L []) ts (by omega) hok.2 ts [] C8.L rfl (by have : C8.L = 9223372036854775808 := rfl; omega)
    simp only [d_law08_LexChecks, optK_s, opt2_s, opt3_s, ifK_b, guardK_t, guardK_f, guardB_bt, guardB_bf, pickV_t, pickV_f, gif_t, guardK_pure, ro_gif, pick_and, pick_or', grp_and, grp_or, grp_tt, grp_ft, grp_tf, grp_ff, letK_e, ro_bool, ro_int, ro_str, ro_lst, ro_own, ro_agg, ro_tup, ro_ptr, ro_map, ro_ref, ro_fn, ro_undef, nm_bool, nm_int, nm_str, nm_lst, nm_own, nm_agg, nm_ptr, nm_map, nm_fn, b_add, b_sub, b_mul, b_eq, b_ne, b_lt, b_le, b_gt, b_ge, s_eq, s_ne, q_int, q_str, q_bool, q_nil, q_if, b_eqS, b_neS, b_eqB, b_neB, Option.map_some, u_not, u_neg, l_str, l_lst, c_int, x_tup, after_none, fin_bool, fin_int, fin_str, fin_lst, fin_own, fin_tup, frz2_int, frz2_str, frz2_bool, frz2_lst, fa_ref, fa_ptr, ldc_ref, hl, h, decide_false, Bool.false_eq_true, if_false]
    refine Eq.trans hloop ?_
    by_cases ha : ts.all smallT = true
    · rw [if_pos ha]
      have hb := bnd_small ts ha
      have hsm : ∀ t ∈ ts, t.text.length ≤ 40 := fun t h => by
        have h1 := List.all_eq_true.1 ha t h
        simp only [smallT, Bool.not_eq_true', Bool.or_eq_false_iff, decide_eq_false_iff_not] at h1
        omega
      have hn : ts.length ≤ 60 := by omega
      have hlines : linesF ts = if checkR ts = 0 then (count4 ts : Int) else 0 := by
        rw [checkR_eq, linesF]; by_cases hc : checkF ts = 0 <;> simp [hc]
      have t1 := o_text 4 ts [] hok (by omega)
      have t2 := e_rtext 0 ts [] (by omega) (fun t h => ⟨by have := hsm t h; omega, (ht t h).2⟩)
      have t3 := o_check 4 ts [] hok
      have t4 := e_rcheck C8_L 1 ts [] (by omega) (fun t h => by have := hsm t h; omega)
      have t5 := o_lines 4 ts [] hok
      have t6 := e_rlines C8_L 0 ts [] (by omega) (fun t h => by have := hsm t h; omega)
      rw [← hlines] at t6
      rw [checkR_eq] at t4
      simp only [d_law08_LexChecks_j1, optK_s, opt2_s, opt3_s, ifK_b, guardK_t, guardK_f, guardB_bt, guardB_bf, pickV_t, pickV_f, gif_t, guardK_pure, ro_gif, pick_and, pick_or', grp_and, grp_or, grp_tt, grp_ft, grp_tf, grp_ff, letK_e, ro_bool, ro_int, ro_str, ro_lst, ro_own, ro_agg, ro_tup, ro_ptr, ro_map, ro_ref, ro_fn, ro_undef, nm_bool, nm_int, nm_str, nm_lst, nm_own, nm_agg, nm_ptr, nm_map, nm_fn, b_add, b_sub, b_mul, b_eq, b_ne, b_lt, b_le, b_gt, b_ge, s_eq, s_ne, q_int, q_str, q_bool, q_nil, q_if, b_eqS, b_neS, b_eqB, b_neB, Option.map_some, u_not, u_neg, l_str, l_lst, c_int, x_tup, after_none, fin_bool, fin_int, fin_str, fin_lst, fin_own, fin_tup, frz2_int, frz2_str, frz2_bool, frz2_lst, fa_ref, fa_ptr, ldc_ref, t1, t2, t3, t4, t5, t6, List.getElem?_cons_zero, List.getElem?_cons_succ, decide_true, Bool.true_and, o_awake]
    · rw [if_neg ha]
theorem c_checks (ts : List Tok) (hlen : ts.length ≤ 281474976710656) (ht : ∀ t ∈ ts, t.text.length ≤ 281474976710656 ∧ -9223372036854775808 ≤ t.n ∧ t.n ≤ 9223372036854775807) (v : Value) (w : World) (hr : Rep still w (.lst 4 (tokRows ts)) v) (hL : Laid w) :
    Calls Tryd.prog F_law08_LexChecks #[v] w fun e w' => e = .returned (.bool true) ∧ Below w.heap.size w w' :=
  law_of (C8_ok hL) (x_checks ts hlen ht) rfl fun j x hx => by
    match j, hx with
    | 0, hx => cases hx; exact ⟨hr, fun k r e => by cases e⟩
    | j + 1, hx => simp at hx
end Go.Proofs.YtiabiflaecidoaaDoor
