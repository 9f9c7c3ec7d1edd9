/-
  The reference's Text.
-/
import Derived.Test.YtiabiflaecidoaaDoorEM
namespace Go.Proofs.YtiabiflaecidoaaDoor
open Go Go.RowKit Go.Proofs.YtiabiflaecidoaaDoor.Abs
set_option linter.all false

section
variable {C : Cfg} (hC : CfgL C)
include hC
/-- line feeds up to a token's line -/
theorem e_rtext_nl (K : FuncId → List AV → List AObj → KR) (L : Nat) (hp0 : List AObj) (k2 : AV → AV → AV → AV → List AObj → Eff → KR) (l : List Tok) (i : Nat) (t : Tok) (hi : l[i]? = some t) (hl : t.line ≤ 100000) : ∀ (m k : Nat) (s : List UInt8) (line : Int) (hp : List AObj), (t.line - line).toNat = k → k < m → 0 ≤ line → line ≤ 100000 → s.length + k ≤ 1000000 →
    d_r08_Text_l1 C.G K L hp0 k2 m (.lst 4 (tokRows l)) (.str s) (.int .i64 line) (.int .i64 i) hp none = k2 (.lst 4 (tokRows l)) (.str (s ++ List.replicate k 10)) (.int .i64 (if line < t.line then t.line else line)) (.int .i64 i) hp none
  | 0, _, _, _, _, _, h, _, _, _ => by omega
  | m + 1, k, s, line, hp, hk, hm, h0, h1, hs => by
    have hg : (tokRows l)[i]? = some (tokRow t) := by simp [tokRows, hi]
    have f3 : faVal 3 (.ref (tokRow t)) = some (.ref [.int .i64 t.line]) := rfl
    by_cases hlt : line < t.line
    · obtain ⟨k', rfl⟩ : ∃ k', k = k' + 1 := ⟨k - 1, by omega⟩
      have hw : IntKind.i64.wrap (line + 1) = line + 1 := i64_in (by omega) (by omega)
      have a1 := s_add s [10] (by simp only [List.length_cons, List.length_nil]; omega)
      simp only [d_r08_Text_l1, optK_s, ifK_b, ia_lst, hg, Option.map_some, f3, ldc_ref, ro_int, b_lt, hlt, decide_true, if_true]
      rw [a1, optK_s, b_add, optK_s, hw, e_rtext_nl K L hp0 k2 l i t hi hl m k' (s ++ [10]) (line + 1) hp (by omega) (by omega) (by omega) (by omega) (by simp; omega)]
      have e1 : (if line + 1 < t.line then t.line else line + 1) = t.line := by split <;> omega
      rw [e1]
      simp [List.replicate_succ]
    · have : k = 0 := by omega
      subst this
      simp only [d_r08_Text_l1, optK_s, ifK_b, ia_lst, hg, Option.map_some, f3, ldc_ref, ro_int, b_lt, hlt, decide_false, Bool.false_eq_true, if_false, List.replicate_zero, List.append_nil]
/-- a word, and whether the text grows too long -/
theorem e_rtext_j4 (K : FuncId → List AV → List AObj → KR) (L : Nat) (hp0 : List AObj) (kn : AV → AV → AV → AV → AV → List AObj → Eff → KR) (x0 x6 x7 : AV) (s w : List UInt8) (hp : List AObj) (hs : s.length + w.length ≤ 4611686018427387904) :
    d_r08_Text_j4 C.G K L hp0 kn x0 (.str s) x6 x7 (.str w) hp none = if 20000 < (s ++ w).length then some (.tup [.str [], .int .i64 6], hp0, none) else kn x0 (.str (s ++ w)) (.str (s ++ w)) x6 x7 hp none := by
  have a1 := s_add s w hs
  simp only [d_r08_Text_j4]
  rw [a1, optK_s]
  by_cases h : 20000 < (s ++ w).length
  · have h' : (20000 : Int) < ((s ++ w).length : Int) := by omega
    simp only [optK_s, l_str, b_gt, ifK_b, h', decide_true, if_true]
    rw [if_pos h]
    rfl
  · have h' : ¬ (20000 : Int) < ((s ++ w).length : Int) := by omega
    simp only [optK_s, l_str, b_gt, ifK_b, h', decide_false, Bool.false_eq_true, if_false]
    rw [if_neg h]
/-- does a blank stand ahead of the token -/
def gapR (prev : Option Tok) (t : Tok) : Bool :=
  match prev with
  | none => false
  | some b => (decide (t.kind ≠ 4) && decide (t.kind ≠ 0)) && decide (b.line = t.line)
theorem e_rtext_j3 (K : FuncId → List AV → List AObj → KR) (L : Nat) (hp0 : List AObj) (kn : AV → AV → AV → AV → AV → List AObj → Eff → KR) (l : List Tok) (i : Nat) (t : Tok) (hi : l[i]? = some t) (hib : i ≤ 1000000) (x6 : AV) (s w : List UInt8) (hp : List AObj) (hs : s.length + 1 + w.length ≤ 4611686018427387904) :
    d_r08_Text_j3 C.G K L hp0 kn (.lst 4 (tokRows l)) (.str s) x6 (.int .i64 i) (.str w) hp none = d_r08_Text_j4 C.G K L hp0 kn (.lst 4 (tokRows l)) (.str (s ++ (if gapR (prevT l i) t then [32] else []))) x6 (.int .i64 i) (.str w) hp none := by
  have hg : (tokRows l)[i]? = some (tokRow t) := by simp [tokRows, hi]
  have f0 : faVal 0 (.ref (tokRow t)) = some (.ref (tokRow t)) := rfl
  have l0 : ldcVal hp (.ref (tokRow t)) = some (.int .i64 t.kind) := rfl
  have f3 : ∀ u : Tok, faVal 3 (.ref (tokRow u)) = some (.ref [.int .i64 u.line]) := fun u => rfl
  have a1 := s_add s [32] (by simp only [List.length_cons, List.length_nil]; omega)
  by_cases h0 : i = 0
  · subst h0
    simp [d_r08_Text_j3, optK_s, opt2_s, opt3_s, ifK_b, guardK_t, guardK_f, guardB_bt, guardB_bf, pickV_t, pickV_f, gif_t, guardK_pure, ro_gif, pick_and, pick_or', grp_and, grp_or, grp_tt, grp_ft, grp_tf, grp_ff, letK_e, ro_bool, ro_int, ro_str, ro_lst, ro_own, ro_agg, ro_tup, ro_ptr, ro_map, ro_ref, ro_fn, ro_undef, nm_bool, nm_int, nm_str, nm_lst, nm_own, nm_agg, nm_ptr, nm_map, nm_fn, b_add, b_sub, b_mul, b_eq, b_ne, b_lt, b_le, b_gt, b_ge, s_eq, s_ne, q_int, q_str, q_bool, q_nil, q_if, b_eqS, b_neS, b_eqB, b_neB, Option.map_some, u_not, u_neg, l_str, l_lst, c_int, x_tup, after_none, fin_bool, fin_int, fin_str, fin_lst, fin_own, fin_tup, frz2_int, frz2_str, frz2_bool, frz2_lst, fa_ref, fa_ptr, ldc_ref, prevT, gapR]
  · have hpos : (0 : Int) < (i : Int) := by omega
    obtain ⟨b, hb⟩ : ∃ b, l[i - 1]? = some b := by
      have := (List.getElem?_eq_some_iff.1 hi).1
      exact ⟨l[i - 1], by rw [List.getElem?_eq_getElem]⟩
    have hg' : (tokRows l)[i - 1]? = some (tokRow b) := by simp [tokRows, hb]
    have hw : IntKind.i64.wrap ((i : Int) - 1) = ((i - 1 : Nat) : Int) := by rw [i64_in (by omega) (by omega)]; omega
    have hp' : prevT l i = some b := by simp [prevT, h0, hb]
    simp only [d_r08_Text_j3, optK_s, ifK_b, grp_and, grp_tt, opt3_s, ro_bool, b_gt, b_ne, b_eq, b_sub, hpos, decide_true, ia_lst, hg, hg', Option.map_some, f0, l0, f3, ldc_ref, ro_int, hw, Bool.true_and]
    rw [hp', gapR]
    cases ((decide (t.kind ≠ 4) && decide (t.kind ≠ 0)) && decide (b.line = t.line)) with
    | true => simp only [if_true]; rw [a1, optK_s]
    | false => simp only [Bool.false_eq_true, if_false, List.append_nil]
end
def rTextGo (prev : Option Tok) (s : List UInt8) (line : Int) : List Tok → Option (List UInt8)
  | [] => some s
  | t :: r => if 20000 < (s ++ List.replicate (t.line - line).toNat 10 ++ (if gapR prev t then [32] else []) ++ wordT t).length then none
    else rTextGo (some t) (s ++ List.replicate (t.line - line).toNat 10 ++ (if gapR prev t then [32] else []) ++ wordT t) (if line < t.line then t.line else line) r
theorem e_rtext_loop (n : Nat) (L : Nat) (hL : 9223372036854775808 ≤ L) (hp0 : List AObj) (k0 : AV → List AObj → Eff → KR) (l : List Tok) (hl : l.length ≤ 1000000) (ht : ∀ t ∈ l, t.text.length ≤ 1000000 ∧ t.line ≤ 100000 ∧ -9223372036854775808 ≤ t.n ∧ t.n ≤ 9223372036854775807) :
    ∀ (r p : List Tok) (m : Nat) (s : List UInt8) (line : Int) (hp : List AObj), l = p ++ r → r.length < m → s.length ≤ 20000 → 0 ≤ line → line ≤ 100000 →
    d_r08_Text_l0 C8.G (evalCall C8 (n + 1)) L hp0 k0 m (.lst 4 (tokRows l)) (.str s) (.str s) (.int .i64 line) (.int .i64 p.length) hp none =
      match rTextGo (prevT l p.length) s line r with
      | none => some (.tup [.str [], .int .i64 6], hp0, none)
      | some s' => k0 (.str s') hp none
  | _, _, 0, _, _, _, _, h, _, _, _ => by omega
  | [], p, m + 1, s, line, hp, hs, _, _, _, _ => by
    have hlen : ((tokRows l).length : Int) = p.length := by rw [hs]; simp [tokRows]
    simp only [d_r08_Text_l0, optK_s, opt2_s, opt3_s, ifK_b, guardK_t, guardK_f, guardB_bt, guardB_bf, pickV_t, pickV_f, gif_t, guardK_pure, ro_gif, pick_and, pick_or', grp_and, grp_or, grp_tt, grp_ft, grp_tf, grp_ff, letK_e, ro_bool, ro_int, ro_str, ro_lst, ro_own, ro_agg, ro_tup, ro_ptr, ro_map, ro_ref, ro_fn, ro_undef, nm_bool, nm_int, nm_str, nm_lst, nm_own, nm_agg, nm_ptr, nm_map, nm_fn, b_add, b_sub, b_mul, b_eq, b_ne, b_lt, b_le, b_gt, b_ge, s_eq, s_ne, q_int, q_str, q_bool, q_nil, q_if, b_eqS, b_neS, b_eqB, b_neB, Option.map_some, u_not, u_neg, l_str, l_lst, c_int, x_tup, after_none, fin_bool, fin_int, fin_str, fin_lst, fin_own, fin_tup, frz2_int, frz2_str, frz2_bool, frz2_lst, fa_ref, fa_ptr, ldc_ref, hlen, Int.lt_irrefl, decide_false, Bool.false_eq_true, if_false, rTextGo]
  | t :: r, p, m + 1, s, line, hp, hs, hm, hsl, h0, h1 => by
    have hlen : ((tokRows l).length : Int) = p.length + (r.length + 1) := by rw [hs]; simp [tokRows]
    have hlt : (p.length : Int) < p.length + (r.length + 1) := by omega
    have hpl : p.length + (r.length + 1) ≤ 1000000 := by rw [hs] at hl; simpa using hl
    have hi : l[p.length]? = some t := by rw [hs]; simp
    have hg : (tokRows l)[p.length]? = some (tokRow t) := by simp [tokRows, hi]
    obtain ⟨t1, t2, t3, t4⟩ := ht t (by rw [hs]; simp)
    have f0 : faVal 0 (.ref (tokRow t)) = some (.ref (tokRow t)) := rfl
    have f1 : faVal 1 (.ref (tokRow t)) = some (.ref [.str t.text, .int .i64 t.n, .int .i64 t.line]) := rfl
    have f2 : faVal 2 (.ref (tokRow t)) = some (.ref [.int .i64 t.n, .int .i64 t.line]) := rfl
    have l0 : ldcVal hp (.ref (tokRow t)) = some (.int .i64 t.kind) := rfl
    have hnl := e_rtext_nl C8_L (evalCall C8 (n + 1)) L hp0 (d_r08_Text_j2 C8.G (evalCall C8 (n + 1)) L hp0 (d_r08_Text_j5 C8.G (evalCall C8 (n + 1)) L hp0 (d_r08_Text_l0 C8.G (evalCall C8 (n + 1)) L hp0 k0 m))) l p.length t hi t2 L (t.line - line).toNat s line hp rfl (by omega) h0 h1 (by omega)
    simp only [d_r08_Text_l0, optK_s, ifK_b, l_lst, b_lt, hlen, hlt, decide_true, if_true]
    rw [hnl, rTextGo]
    have hwl : (wordT t).length ≤ 1000000 := by
      unfold wordT
      split
      · have := itoa_len t.n t3 t4; omega
      · omega
    have hs1 : (s ++ List.replicate (t.line - line).toNat (10 : UInt8)).length ≤ 1000000 := by simp; omega
    generalize s ++ List.replicate (t.line - line).toNat (10 : UInt8) = s1 at *
    have ht1 := o_rtext n t.n hp t3 t4
    have hword : d_r08_Text_j2 C8.G (evalCall C8 (n + 1)) L hp0 (d_r08_Text_j5 C8.G (evalCall C8 (n + 1)) L hp0 (d_r08_Text_l0 C8.G (evalCall C8 (n + 1)) L hp0 k0 m)) (.lst 4 (tokRows l)) (.str s1) (.int .i64 (if line < t.line then t.line else line)) (.int .i64 p.length) hp none =
        d_r08_Text_j3 C8.G (evalCall C8 (n + 1)) L hp0 (d_r08_Text_j5 C8.G (evalCall C8 (n + 1)) L hp0 (d_r08_Text_l0 C8.G (evalCall C8 (n + 1)) L hp0 k0 m)) (.lst 4 (tokRows l)) (.str s1) (.int .i64 (if line < t.line then t.line else line)) (.int .i64 p.length) (.str (wordT t)) hp none := by
      simp only [d_r08_Text_j2, optK_s, ia_lst, hg, Option.map_some, f0, f1, f2, l0, ldc_ref, ro_int, ro_str, b_eq, ifK_b]
      by_cases hk : t.kind = 2
      · simp only [hk, decide_true, if_true, ht1, opt3_s, ro_str, after_none, wordT]
      · simp only [hk, decide_false, Bool.false_eq_true, if_false, wordT]
    rw [hword, e_rtext_j3 C8_L _ L hp0 _ l p.length t hi (by omega) _ s1 (wordT t) hp (by omega)]
    have hgap : ((if gapR (prevT l p.length) t then [32] else []) : List UInt8).length ≤ 1 := by split <;> simp
    rw [e_rtext_j4 C8_L _ L hp0 _ _ _ _ _ (wordT t) hp (by rw [List.length_append]; omega)]
    by_cases hlong : 20000 < (s1 ++ (if gapR (prevT l p.length) t then [32] else []) ++ wordT t).length
    · rw [if_pos hlong, if_pos hlong]
    · rw [if_neg hlong, if_neg hlong]
      have hprev : prevT l (p ++ [t]).length = some t := by
        simp only [prevT, List.length_append, List.length_cons, List.length_nil]
        rw [if_neg (by omega)]
        simpa using hi
      have ih := e_rtext_loop n L hL hp0 k0 l hl ht r (p ++ [t]) m (s1 ++ (if gapR (prevT l p.length) t then [32] else []) ++ wordT t) (if line < t.line then t.line else line) hp (by rw [hs]; simp) (by simpa using hm) (by omega) (by split <;> omega) (by split <;> omega)
      rw [hprev] at ih
      simp only [List.length_append, List.length_cons, List.length_nil, Nat.zero_add] at ih
      simp only [d_r08_Text_j5, b_add, optK_s, wrap_nat p.length (by omega)]
      exact ih
end Go.Proofs.YtiabiflaecidoaaDoor
