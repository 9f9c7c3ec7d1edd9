/-
  Several texts of this proof in one: EB, EC, ED, EE, EF, EG.
-/
import Derived.Test.YtiabiflaecidoaaDoorQ3
import Derived.Test.YtiabiflaecidoaaDoorQ2
import Derived.Test.YtiabiflaecidoaaDoorP2
section
/-
  The reference's functions on bytes, words, digits, signTexts.
-/
namespace Go.Proofs.YtiabiflaecidoaaDoor
open Go Go.Proofs.YtiabiflaecidoaaDoor.Abs
set_option linter.all false

def cT (f : FuncId) : Option AFn := (tab.find? (·.1 == f)).map (·.2)
/-- a configuration with these functions, and loops that are long enough -/
structure CfgL (C : Cfg) : Prop where
  T : C.T = cT
  L : 9223372036854775808 ≤ C.L

def isL (c : UInt8) : Bool := decide (97 ≤ (c.toNat : Int)) && decide ((c.toNat : Int) ≤ 122)
def isD (c : UInt8) : Bool := decide (48 ≤ (c.toNat : Int)) && decide ((c.toNat : Int) ≤ 57)
def isI (c : UInt8) : Bool := isL c || isD c || decide ((c.toNat : Int) = 95)
def isWord (s : List UInt8) : Bool :=
  match s with
  | [] => false
  | c :: r => isL c && (c :: r).all isI
def isDigits (s : List UInt8) : Bool := s.all isD && !s.isEmpty
def signTexts : List (List UInt8) := [[43], [45], [42], [47], [37], [61], [33, 61], [60], [60, 61], [62], [62, 61], [40], [41], [44], [58], [46]]
def isSign (s : List UInt8) : Bool := signTexts.contains s

section
variable {C : Cfg} (hC : CfgL C)
include hC
theorem e_letter (n : Nat) (c : UInt8) (hp : List AObj) : evalCall C (n + 1) F_r08_letter [.int .u8 c.toNat] hp = some (.bool (isL c), hp, none) := by
  refine r08_letter_run (by rw [hC.T]; rfl) ?_
  by_cases h1 : 97 ≤ (c.toNat : Int) <;> by_cases h2 : (c.toNat : Int) ≤ 122 <;> simp [d_r08_letter, optK_s, opt2_s, opt3_s, ifK_b, guardK_t, guardK_f, guardB_bt, guardB_bf, pickV_t, pickV_f, gif_t, guardK_pure, ro_gif, pick_and, pick_or', grp_and, grp_or, grp_tt, grp_ft, grp_tf, grp_ff, letK_e, ro_bool, ro_int, ro_str, ro_lst, ro_own, ro_agg, ro_tup, ro_ptr, ro_map, ro_ref, ro_fn, ro_undef, nm_bool, nm_int, nm_str, nm_lst, nm_own, nm_agg, nm_ptr, nm_map, nm_fn, b_add, b_sub, b_mul, b_eq, b_ne, b_lt, b_le, b_gt, b_ge, s_eq, s_ne, q_int, q_str, q_bool, q_nil, q_if, b_eqS, b_neS, b_eqB, b_neB, Option.map_some, u_not, u_neg, l_str, l_lst, c_int, x_tup, after_none, fin_bool, fin_int, fin_str, fin_lst, fin_own, fin_tup, frz2_int, frz2_str, frz2_bool, frz2_lst, fa_ref, fa_ptr, ldc_ref, isL, h1, h2]
theorem e_digit (n : Nat) (c : UInt8) (hp : List AObj) : evalCall C (n + 1) F_r08_digit [.int .u8 c.toNat] hp = some (.bool (isD c), hp, none) := by
  refine r08_digit_run (by rw [hC.T]; rfl) ?_
  by_cases h1 : 48 ≤ (c.toNat : Int) <;> by_cases h2 : (c.toNat : Int) ≤ 57 <;> simp [d_r08_digit, optK_s, opt2_s, opt3_s, ifK_b, guardK_t, guardK_f, guardB_bt, guardB_bf, pickV_t, pickV_f, gif_t, guardK_pure, ro_gif, pick_and, pick_or', grp_and, grp_or, grp_tt, grp_ft, grp_tf, grp_ff, letK_e, ro_bool, ro_int, ro_str, ro_lst, ro_own, ro_agg, ro_tup, ro_ptr, ro_map, ro_ref, ro_fn, ro_undef, nm_bool, nm_int, nm_str, nm_lst, nm_own, nm_agg, nm_ptr, nm_map, nm_fn, b_add, b_sub, b_mul, b_eq, b_ne, b_lt, b_le, b_gt, b_ge, s_eq, s_ne, q_int, q_str, q_bool, q_nil, q_if, b_eqS, b_neS, b_eqB, b_neB, Option.map_some, u_not, u_neg, l_str, l_lst, c_int, x_tup, after_none, fin_bool, fin_int, fin_str, fin_lst, fin_own, fin_tup, frz2_int, frz2_str, frz2_bool, frz2_lst, fa_ref, fa_ptr, ldc_ref, isD, h1, h2]
theorem e_sign (n : Nat) (s : List UInt8) (hp : List AObj) : evalCall C (n + 1) F_r08_Sign [.str s] hp = some (.bool (isSign s), hp, none) := by
  refine r08_Sign_run (by rw [hC.T]; rfl) ?_
  simp only [d_r08_Sign, optK_s, opt2_s, opt3_s, ifK_b, guardK_t, guardK_f, guardB_bt, guardB_bf, pickV_t, pickV_f, gif_t, guardK_pure, ro_gif, pick_and, pick_or', grp_and, grp_or, grp_tt, grp_ft, grp_tf, grp_ff, letK_e, ro_bool, ro_int, ro_str, ro_lst, ro_own, ro_agg, ro_tup, ro_ptr, ro_map, ro_ref, ro_fn, ro_undef, nm_bool, nm_int, nm_str, nm_lst, nm_own, nm_agg, nm_ptr, nm_map, nm_fn, b_add, b_sub, b_mul, b_eq, b_ne, b_lt, b_le, b_gt, b_ge, s_eq, s_ne, q_int, q_str, q_bool, q_nil, q_if, b_eqS, b_neS, b_eqB, b_neB, Option.map_some, u_not, u_neg, l_str, l_lst, c_int, x_tup, after_none, fin_bool, fin_int, fin_str, fin_lst, fin_own, fin_tup, frz2_int, frz2_str, frz2_bool, frz2_lst, fa_ref, fa_ptr, ldc_ref]
  simp only [decide_eq_true_eq]
  by_cases h0 : s = [43]
  · subst h0; rfl
  by_cases h1 : s = [45]
  · subst h1; rfl
  by_cases h2 : s = [42]
  · subst h2; rfl
  by_cases h3 : s = [47]
  · subst h3; rfl
  by_cases h4 : s = [37]
  · subst h4; rfl
  by_cases h5 : s = [61]
  · subst h5; rfl
  by_cases h6 : s = [33, 61]
  · subst h6; rfl
  by_cases h7 : s = [60]
  · subst h7; rfl
  by_cases h8 : s = [60, 61]
  · subst h8; rfl
  by_cases h9 : s = [62]
  · subst h9; rfl
  by_cases h10 : s = [62, 61]
  · subst h10; rfl
  by_cases h11 : s = [40]
  · subst h11; rfl
  by_cases h12 : s = [41]
  · subst h12; rfl
  by_cases h13 : s = [44]
  · subst h13; rfl
  by_cases h14 : s = [58]
  · subst h14; rfl
  by_cases h15 : s = [46]
  · subst h15; rfl
  simp [isSign, signTexts, h0, h1, h2, h3, h4, h5, h6, h7, h8, h9, h10, h11, h12, h13, h14, h15]

theorem e_digits_loop (n : Nat) (hp0 : List AObj) (k0 : AV → List AObj → Eff → KR) (s : List UInt8) : ∀ (r p : List UInt8) (m : Nat) (hp : List AObj), s = p ++ r → s.length < 4611686018427387904 → r.length < m →
    d_r08_digits_l0 C.G (evalCall C (n + 1)) C.L hp0 k0 m (.str s) (.int .i64 p.length) hp none = if r.all isD then k0 (.str s) hp none else some (.bool false, hp0, none)
  | _, _, 0, _, _, _, h => by omega
  | [], p, m + 1, hp, hs, hb, _ => by
    have : ¬ ((p.length : Int) < s.length) := by rw [hs]; simp
    simp [d_r08_digits_l0, optK_s, opt2_s, opt3_s, ifK_b, guardK_t, guardK_f, guardB_bt, guardB_bf, pickV_t, pickV_f, gif_t, guardK_pure, ro_gif, pick_and, pick_or', grp_and, grp_or, grp_tt, grp_ft, grp_tf, grp_ff, letK_e, ro_bool, ro_int, ro_str, ro_lst, ro_own, ro_agg, ro_tup, ro_ptr, ro_map, ro_ref, ro_fn, ro_undef, nm_bool, nm_int, nm_str, nm_lst, nm_own, nm_agg, nm_ptr, nm_map, nm_fn, b_add, b_sub, b_mul, b_eq, b_ne, b_lt, b_le, b_gt, b_ge, s_eq, s_ne, q_int, q_str, q_bool, q_nil, q_if, b_eqS, b_neS, b_eqB, b_neB, Option.map_some, u_not, u_neg, l_str, l_lst, c_int, x_tup, after_none, fin_bool, fin_int, fin_str, fin_lst, fin_own, fin_tup, frz2_int, frz2_str, frz2_bool, frz2_lst, fa_ref, fa_ptr, ldc_ref, this]
  | c :: r, p, m + 1, hp, hs, hb, hm => by
    have hlt : p.length < s.length := by rw [hs]; simp
    have hg : s[p.length] = c := by simp [hs]
    have ih := e_digits_loop n hp0 k0 s r (p ++ [c]) m hp (by rw [hs]; simp) hb (by simpa using hm)
    simp only [d_r08_digits_l0, optK_s, opt2_s, opt3_s, ifK_b, guardK_t, guardK_f, guardB_bt, guardB_bf, pickV_t, pickV_f, gif_t, guardK_pure, ro_gif, pick_and, pick_or', grp_and, grp_or, grp_tt, grp_ft, grp_tf, grp_ff, letK_e, ro_bool, ro_int, ro_str, ro_lst, ro_own, ro_agg, ro_tup, ro_ptr, ro_map, ro_ref, ro_fn, ro_undef, nm_bool, nm_int, nm_str, nm_lst, nm_own, nm_agg, nm_ptr, nm_map, nm_fn, b_add, b_sub, b_mul, b_eq, b_ne, b_lt, b_le, b_gt, b_ge, s_eq, s_ne, q_int, q_str, q_bool, q_nil, q_if, b_eqS, b_neS, b_eqB, b_neB, Option.map_some, u_not, u_neg, l_str, l_lst, c_int, x_tup, after_none, fin_bool, fin_int, fin_str, fin_lst, fin_own, fin_tup, frz2_int, frz2_str, frz2_bool, frz2_lst, fa_ref, fa_ptr, ldc_ref, idx_str s p.length hlt, hg, e_digit hC, Int.ofNat_lt, hlt, decide_true, if_true]
    cases hd : isD c <;> simp only [hd, Bool.not_false, Bool.not_true, if_true, Bool.false_eq_true, if_false, List.all_cons, Bool.true_and, Bool.false_and, optK_s, opt2_s, opt3_s, ifK_b, guardK_t, guardK_f, guardB_bt, guardB_bf, pickV_t, pickV_f, gif_t, guardK_pure, ro_gif, pick_and, pick_or', grp_and, grp_or, grp_tt, grp_ft, grp_tf, grp_ff, letK_e, ro_bool, ro_int, ro_str, ro_lst, ro_own, ro_agg, ro_tup, ro_ptr, ro_map, ro_ref, ro_fn, ro_undef, nm_bool, nm_int, nm_str, nm_lst, nm_own, nm_agg, nm_ptr, nm_map, nm_fn, b_add, b_sub, b_mul, b_eq, b_ne, b_lt, b_le, b_gt, b_ge, s_eq, s_ne, q_int, q_str, q_bool, q_nil, q_if, b_eqS, b_neS, b_eqB, b_neB, Option.map_some, u_not, u_neg, l_str, l_lst, c_int, x_tup, after_none, fin_bool, fin_int, fin_str, fin_lst, fin_own, fin_tup, frz2_int, frz2_str, frz2_bool, frz2_lst, fa_ref, fa_ptr, ldc_ref]
    rw [wrap_nat _ (by omega)]
    simpa using ih
theorem e_digits (n : Nat) (s : List UInt8) (hp : List AObj) (hs : s.length < 4611686018427387904) : evalCall C (n + 2) F_r08_digits [.str s] hp = some (.bool (isDigits s), hp, none) := by
  refine r08_digits_run (by rw [hC.T]; rfl) ?_
  have h := e_digits_loop hC n hp (d_r08_digits_j1 C.G (evalCall C (n + 1)) C.L hp) s s [] C.L hp rfl hs (by have := hC.L; omega)
  simp only [d_r08_digits, optK_s, opt2_s, opt3_s, ifK_b, guardK_t, guardK_f, guardB_bt, guardB_bf, pickV_t, pickV_f, gif_t, guardK_pure, ro_gif, pick_and, pick_or', grp_and, grp_or, grp_tt, grp_ft, grp_tf, grp_ff, letK_e, ro_bool, ro_int, ro_str, ro_lst, ro_own, ro_agg, ro_tup, ro_ptr, ro_map, ro_ref, ro_fn, ro_undef, nm_bool, nm_int, nm_str, nm_lst, nm_own, nm_agg, nm_ptr, nm_map, nm_fn, b_add, b_sub, b_mul, b_eq, b_ne, b_lt, b_le, b_gt, b_ge, s_eq, s_ne, q_int, q_str, q_bool, q_nil, q_if, b_eqS, b_neS, b_eqB, b_neB, Option.map_some, u_not, u_neg, l_str, l_lst, c_int, x_tup, after_none, fin_bool, fin_int, fin_str, fin_lst, fin_own, fin_tup, frz2_int, frz2_str, frz2_bool, frz2_lst, fa_ref, fa_ptr, ldc_ref]
  refine Eq.trans h ?_
  cases s with
  | nil => simp [d_r08_digits_j1, optK_s, opt2_s, opt3_s, ifK_b, guardK_t, guardK_f, guardB_bt, guardB_bf, pickV_t, pickV_f, gif_t, guardK_pure, ro_gif, pick_and, pick_or', grp_and, grp_or, grp_tt, grp_ft, grp_tf, grp_ff, letK_e, ro_bool, ro_int, ro_str, ro_lst, ro_own, ro_agg, ro_tup, ro_ptr, ro_map, ro_ref, ro_fn, ro_undef, nm_bool, nm_int, nm_str, nm_lst, nm_own, nm_agg, nm_ptr, nm_map, nm_fn, b_add, b_sub, b_mul, b_eq, b_ne, b_lt, b_le, b_gt, b_ge, s_eq, s_ne, q_int, q_str, q_bool, q_nil, q_if, b_eqS, b_neS, b_eqB, b_neB, Option.map_some, u_not, u_neg, l_str, l_lst, c_int, x_tup, after_none, fin_bool, fin_int, fin_str, fin_lst, fin_own, fin_tup, frz2_int, frz2_str, frz2_bool, frz2_lst, fa_ref, fa_ptr, ldc_ref, isDigits]
  | cons c r => cases hd : (c :: r).all isD <;> simp [d_r08_digits_j1, optK_s, opt2_s, opt3_s, ifK_b, guardK_t, guardK_f, guardB_bt, guardB_bf, pickV_t, pickV_f, gif_t, guardK_pure, ro_gif, pick_and, pick_or', grp_and, grp_or, grp_tt, grp_ft, grp_tf, grp_ff, letK_e, ro_bool, ro_int, ro_str, ro_lst, ro_own, ro_agg, ro_tup, ro_ptr, ro_map, ro_ref, ro_fn, ro_undef, nm_bool, nm_int, nm_str, nm_lst, nm_own, nm_agg, nm_ptr, nm_map, nm_fn, b_add, b_sub, b_mul, b_eq, b_ne, b_lt, b_le, b_gt, b_ge, s_eq, s_ne, q_int, q_str, q_bool, q_nil, q_if, b_eqS, b_neS, b_eqB, b_neB, Option.map_some, u_not, u_neg, l_str, l_lst, c_int, x_tup, after_none, fin_bool, fin_int, fin_str, fin_lst, fin_own, fin_tup, frz2_int, frz2_str, frz2_bool, frz2_lst, fa_ref, fa_ptr, ldc_ref, isDigits, hd]
end
end Go.Proofs.YtiabiflaecidoaaDoor
end
section
/-
  The reference's functions: words, equal lists.
-/
namespace Go.Proofs.YtiabiflaecidoaaDoor
open Go Go.Proofs.YtiabiflaecidoaaDoor.Abs
set_option linter.all false

section
variable {C : Cfg} (hC : CfgL C)
include hC
theorem e_word_loop (n : Nat) (hp0 : List AObj) (k0 : List AObj → Eff → KR) (s : List UInt8) : ∀ (r p : List UInt8) (m : Nat) (hp : List AObj), s = p ++ r → s.length < 4611686018427387904 → r.length < m →
    d_r08_Word_l0 C.G (evalCall C (n + 1)) C.L hp0 k0 m (.str s) (.int .i64 p.length) hp none = if r.all isI then k0 hp none else some (.bool false, hp0, none)
  | _, _, 0, _, _, _, h => by omega
  | [], p, m + 1, hp, hs, hb, _ => by
    have : ¬ ((p.length : Int) < s.length) := by rw [hs]; simp
    simp [d_r08_Word_l0, optK_s, opt2_s, opt3_s, ifK_b, guardK_t, guardK_f, guardB_bt, guardB_bf, pickV_t, pickV_f, gif_t, guardK_pure, ro_gif, pick_and, pick_or', grp_and, grp_or, grp_tt, grp_ft, grp_tf, grp_ff, letK_e, ro_bool, ro_int, ro_str, ro_lst, ro_own, ro_agg, ro_tup, ro_ptr, ro_map, ro_ref, ro_fn, ro_undef, nm_bool, nm_int, nm_str, nm_lst, nm_own, nm_agg, nm_ptr, nm_map, nm_fn, b_add, b_sub, b_mul, b_eq, b_ne, b_lt, b_le, b_gt, b_ge, s_eq, s_ne, q_int, q_str, q_bool, q_nil, q_if, b_eqS, b_neS, b_eqB, b_neB, Option.map_some, u_not, u_neg, l_str, l_lst, c_int, x_tup, after_none, fin_bool, fin_int, fin_str, fin_lst, fin_own, fin_tup, frz2_int, frz2_str, frz2_bool, frz2_lst, fa_ref, fa_ptr, ldc_ref, this]
  | c :: r, p, m + 1, hp, hs, hb, hm => by
    have hlt : p.length < s.length := by rw [hs]; simp
    have hg : s[p.length] = c := by simp [hs]
    have ih := e_word_loop n hp0 k0 s r (p ++ [c]) m hp (by rw [hs]; simp) hb (by simpa using hm)
    simp only [d_r08_Word_l0, optK_s, opt2_s, opt3_s, ifK_b, guardK_t, guardK_f, guardB_bt, guardB_bf, pickV_t, pickV_f, gif_t, guardK_pure, ro_gif, pick_and, pick_or', grp_and, grp_or, grp_tt, grp_ft, grp_tf, grp_ff, letK_e, ro_bool, ro_int, ro_str, ro_lst, ro_own, ro_agg, ro_tup, ro_ptr, ro_map, ro_ref, ro_fn, ro_undef, nm_bool, nm_int, nm_str, nm_lst, nm_own, nm_agg, nm_ptr, nm_map, nm_fn, b_add, b_sub, b_mul, b_eq, b_ne, b_lt, b_le, b_gt, b_ge, s_eq, s_ne, q_int, q_str, q_bool, q_nil, q_if, b_eqS, b_neS, b_eqB, b_neB, Option.map_some, u_not, u_neg, l_str, l_lst, c_int, x_tup, after_none, fin_bool, fin_int, fin_str, fin_lst, fin_own, fin_tup, frz2_int, frz2_str, frz2_bool, frz2_lst, fa_ref, fa_ptr, ldc_ref, idx_str s p.length hlt, hg, e_digit hC, e_letter hC, Int.ofNat_lt, hlt, decide_true, if_true, wrap_nat _ (show p.length < 4611686018427387904 by omega)]
    simp only [List.length_append, List.length_cons, List.length_nil, Nat.zero_add] at ih
    rw [ih]
    by_cases h1 : isL c = true <;> by_cases h2 : isD c = true <;> by_cases h3 : (c.toNat : Int) = 95 <;> simp [isI, h1, h2, h3]
theorem e_word (n : Nat) (s : List UInt8) (hp : List AObj) (hs : s.length < 4611686018427387904) : evalCall C (n + 2) F_r08_Word [.str s] hp = some (.bool (isWord s), hp, none) := by
  refine r08_Word_run (by rw [hC.T]; rfl) ?_
  cases s with
  | nil => simp [d_r08_Word, optK_s, opt2_s, opt3_s, ifK_b, guardK_t, guardK_f, guardB_bt, guardB_bf, pickV_t, pickV_f, gif_t, guardK_pure, ro_gif, pick_and, pick_or', grp_and, grp_or, grp_tt, grp_ft, grp_tf, grp_ff, letK_e, ro_bool, ro_int, ro_str, ro_lst, ro_own, ro_agg, ro_tup, ro_ptr, ro_map, ro_ref, ro_fn, ro_undef, nm_bool, nm_int, nm_str, nm_lst, nm_own, nm_agg, nm_ptr, nm_map, nm_fn, b_add, b_sub, b_mul, b_eq, b_ne, b_lt, b_le, b_gt, b_ge, s_eq, s_ne, q_int, q_str, q_bool, q_nil, q_if, b_eqS, b_neS, b_eqB, b_neB, Option.map_some, u_not, u_neg, l_str, l_lst, c_int, x_tup, after_none, fin_bool, fin_int, fin_str, fin_lst, fin_own, fin_tup, frz2_int, frz2_str, frz2_bool, frz2_lst, fa_ref, fa_ptr, ldc_ref, isWord]
  | cons c r =>
    have h := e_word_loop hC n hp (d_r08_Word_j1 C.G (evalCall C (n + 1)) C.L hp) (c :: r) (c :: r) [] C.L hp rfl hs (by have := hC.L; omega)
    have h0 : ¬ (((c :: r).length : Int) = 0) := by simp; omega
    simp only [d_r08_Word, optK_s, opt2_s, opt3_s, ifK_b, guardK_t, guardK_f, guardB_bt, guardB_bf, pickV_t, pickV_f, gif_t, guardK_pure, ro_gif, pick_and, pick_or', grp_and, grp_or, grp_tt, grp_ft, grp_tf, grp_ff, letK_e, ro_bool, ro_int, ro_str, ro_lst, ro_own, ro_agg, ro_tup, ro_ptr, ro_map, ro_ref, ro_fn, ro_undef, nm_bool, nm_int, nm_str, nm_lst, nm_own, nm_agg, nm_ptr, nm_map, nm_fn, b_add, b_sub, b_mul, b_eq, b_ne, b_lt, b_le, b_gt, b_ge, s_eq, s_ne, q_int, q_str, q_bool, q_nil, q_if, b_eqS, b_neS, b_eqB, b_neB, Option.map_some, u_not, u_neg, l_str, l_lst, c_int, x_tup, after_none, fin_bool, fin_int, fin_str, fin_lst, fin_own, fin_tup, frz2_int, frz2_str, frz2_bool, frz2_lst, fa_ref, fa_ptr, ldc_ref, idx_str0, e_letter hC, h0, decide_false, Bool.false_or]
    simp only [List.length_nil, Int.ofNat_zero] at h
    cases hl : isL c with
    | false => simp [isWord, hl]
    | true =>
      simp only [Bool.not_true, Bool.false_eq_true, if_false]
      refine Eq.trans h ?_
      cases ha : (c :: r).all isI <;> simp [d_r08_Word_j1, optK_s, opt2_s, opt3_s, ifK_b, guardK_t, guardK_f, guardB_bt, guardB_bf, pickV_t, pickV_f, gif_t, guardK_pure, ro_gif, pick_and, pick_or', grp_and, grp_or, grp_tt, grp_ft, grp_tf, grp_ff, letK_e, ro_bool, ro_int, ro_str, ro_lst, ro_own, ro_agg, ro_tup, ro_ptr, ro_map, ro_ref, ro_fn, ro_undef, nm_bool, nm_int, nm_str, nm_lst, nm_own, nm_agg, nm_ptr, nm_map, nm_fn, b_add, b_sub, b_mul, b_eq, b_ne, b_lt, b_le, b_gt, b_ge, s_eq, s_ne, q_int, q_str, q_bool, q_nil, q_if, b_eqS, b_neS, b_eqB, b_neB, Option.map_some, u_not, u_neg, l_str, l_lst, c_int, x_tup, after_none, fin_bool, fin_int, fin_str, fin_lst, fin_own, fin_tup, frz2_int, frz2_str, frz2_bool, frz2_lst, fa_ref, fa_ptr, ldc_ref, isWord, hl, ha]
end
end Go.Proofs.YtiabiflaecidoaaDoor
end
section
/-
  The reference's functions on lists of tokens: equal lists, numbers, the longest token.
-/
namespace Go.Proofs.YtiabiflaecidoaaDoor
open Go Go.Proofs.YtiabiflaecidoaaDoor.Abs
set_option linter.all false

def tokRow (t : Tok) : List AV := [.int .i64 t.kind, .str t.text, .int .i64 t.n, .int .i64 t.line]
def tokRows (ts : List Tok) : List (List AV) := ts.map tokRow
def tokEq (a b : Tok) : Bool := decide (a.kind = b.kind) && decide (a.text = b.text) && decide (a.n = b.n) && decide (a.line = b.line)
def sameT : List Tok → List Tok → Bool
  | [], [] => true
  | a :: l, b :: m => tokEq a b && sameT l m
  | _, _ => false
theorem tokEq_iff (a b : Tok) : tokEq a b = true ↔ a = b := by
  cases a; cases b; simp [tokEq, and_assoc]
theorem sameT_iff : ∀ (a b : List Tok), sameT a b = true ↔ a = b
  | [], [] => by simp [sameT]
  | [], b :: m => by simp [sameT]
  | a :: l, [] => by simp [sameT]
  | a :: l, b :: m => by simp [sameT, tokEq_iff, sameT_iff l m]
theorem sameT_refl (a : List Tok) : sameT a a = true := (sameT_iff a a).2 rfl
theorem q_tok (a b : Tok) : eqCells [.int, .str, .int, .int] (tokRow a) (tokRow b) = some (tokEq a b) := by
  simp only [tokRow, optK_s, opt2_s, opt3_s, ifK_b, guardK_t, guardK_f, guardB_bt, guardB_bf, pickV_t, pickV_f, gif_t, guardK_pure, ro_gif, pick_and, pick_or', grp_and, grp_or, grp_tt, grp_ft, grp_tf, grp_ff, letK_e, ro_bool, ro_int, ro_str, ro_lst, ro_own, ro_agg, ro_tup, ro_ptr, ro_map, ro_ref, ro_fn, ro_undef, nm_bool, nm_int, nm_str, nm_lst, nm_own, nm_agg, nm_ptr, nm_map, nm_fn, b_add, b_sub, b_mul, b_eq, b_ne, b_lt, b_le, b_gt, b_ge, s_eq, s_ne, q_int, q_str, q_bool, q_nil, q_if, b_eqS, b_neS, b_eqB, b_neB, Option.map_some, u_not, u_neg, l_str, l_lst, c_int, x_tup, after_none, fin_bool, fin_int, fin_str, fin_lst, fin_own, fin_tup, frz2_int, frz2_str, frz2_bool, frz2_lst, fa_ref, fa_ptr, ldc_ref, tokEq, Bool.and_true, Bool.and_assoc]
theorem tokRow_ro (t : Tok) : (tokRow t).map AV.ro = tokRow t := rfl
theorem tokRow_take (t : Tok) : (tokRow t).take 4 = tokRow t := rfl
theorem tokRow_len (t : Tok) : (tokRow t).length = 4 := rfl

section
variable {C : Cfg} (hC : CfgL C)
include hC
theorem e_same_loop (n : Nat) (hp0 : List AObj) (k0 : List AObj → Eff → KR) (a b : List Tok) : ∀ (r q p p' : List Tok) (m : Nat) (hp : List AObj), a = p ++ r → b = p' ++ q → p.length = p'.length → r.length = q.length → a.length < 4611686018427387904 → r.length < m →
    d_r08_Same_l0 C.G (evalCall C n) C.L hp0 k0 m (.lst 4 (tokRows a)) (.lst 4 (tokRows b)) (.int .i64 p.length) hp none = if sameT r q then k0 hp none else some (.bool false, hp0, none)
  | _, _, _, _, 0, _, _, _, _, _, _, h => by omega
  | [], [], p, p', m + 1, hp, ha, hb, _, _, _, _ => by
    have : ¬ ((p.length : Int) < (tokRows a).length) := by rw [ha]; simp [tokRows]
    simp [d_r08_Same_l0, optK_s, opt2_s, opt3_s, ifK_b, guardK_t, guardK_f, guardB_bt, guardB_bf, pickV_t, pickV_f, gif_t, guardK_pure, ro_gif, pick_and, pick_or', grp_and, grp_or, grp_tt, grp_ft, grp_tf, grp_ff, letK_e, ro_bool, ro_int, ro_str, ro_lst, ro_own, ro_agg, ro_tup, ro_ptr, ro_map, ro_ref, ro_fn, ro_undef, nm_bool, nm_int, nm_str, nm_lst, nm_own, nm_agg, nm_ptr, nm_map, nm_fn, b_add, b_sub, b_mul, b_eq, b_ne, b_lt, b_le, b_gt, b_ge, s_eq, s_ne, q_int, q_str, q_bool, q_nil, q_if, b_eqS, b_neS, b_eqB, b_neB, Option.map_some, u_not, u_neg, l_str, l_lst, c_int, x_tup, after_none, fin_bool, fin_int, fin_str, fin_lst, fin_own, fin_tup, frz2_int, frz2_str, frz2_bool, frz2_lst, fa_ref, fa_ptr, ldc_ref, this, sameT]
  | [], _ :: _, _, _, _ + 1, _, _, _, _, h, _, _ => by cases h
  | _ :: _, [], _, _, _ + 1, _, _, _, _, h, _, _ => by cases h
  | c :: r, d :: q, p, p', m + 1, hp, ha, hb, hl, hq, hs, hm => by
    have hlt : (p.length : Int) < (tokRows a).length := by rw [ha]; simp [tokRows]; omega
    have hg : (tokRows a)[p.length]? = some (tokRow c) := by simp [tokRows, ha]
    have hg' : (tokRows b)[p.length]? = some (tokRow d) := by simp [tokRows, hb, hl]
    have ih := e_same_loop n hp0 k0 a b r q (p ++ [c]) (p' ++ [d]) m hp (by rw [ha]; simp) (by rw [hb]; simp) (by simp [hl]) (by simpa using hq) hs (by simpa using hm)
    simp only [List.length_append, List.length_cons, List.length_nil, Nat.zero_add] at ih
    have hb2 : p.length < 4611686018427387904 := by rw [ha] at hs; simp at hs; omega
    simp only [d_r08_Same_l0, optK_s, opt2_s, opt3_s, ifK_b, guardK_t, guardK_f, guardB_bt, guardB_bf, pickV_t, pickV_f, gif_t, guardK_pure, ro_gif, pick_and, pick_or', grp_and, grp_or, grp_tt, grp_ft, grp_tf, grp_ff, letK_e, ro_bool, ro_int, ro_str, ro_lst, ro_own, ro_agg, ro_tup, ro_ptr, ro_map, ro_ref, ro_fn, ro_undef, nm_bool, nm_int, nm_str, nm_lst, nm_own, nm_agg, nm_ptr, nm_map, nm_fn, b_add, b_sub, b_mul, b_eq, b_ne, b_lt, b_le, b_gt, b_ge, s_eq, s_ne, q_int, q_str, q_bool, q_nil, q_if, b_eqS, b_neS, b_eqB, b_neB, Option.map_some, u_not, u_neg, l_str, l_lst, c_int, x_tup, after_none, fin_bool, fin_int, fin_str, fin_lst, fin_own, fin_tup, frz2_int, frz2_str, frz2_bool, frz2_lst, fa_ref, fa_ptr, ldc_ref, hlt, decide_true, if_true, ia_lst, hg, hg', Option.map_some, lda_ref _ _ _ (Nat.le_of_eq (tokRow_len _).symm), tokRow_take, tokRow_ro, q_tok, wrap_nat _ hb2, ih]
    cases ht : tokEq c d <;> simp [sameT, ht]
theorem e_same (n : Nat) (a b : List Tok) (hp : List AObj) (ha : a.length < 4611686018427387904) : evalCall C (n + 1) F_r08_Same [.lst 4 (tokRows a), .lst 4 (tokRows b)] hp = some (.bool (sameT a b), hp, none) := by
  refine r08_Same_run (by rw [hC.T]; rfl) ?_
  by_cases hl : a.length = b.length
  · have h := e_same_loop hC n hp (d_r08_Same_j1 C.G (evalCall C n) C.L hp) a b a b [] [] C.L hp rfl rfl rfl hl ha (by have := hC.L; omega)
    simp only [d_r08_Same, optK_s, opt2_s, opt3_s, ifK_b, guardK_t, guardK_f, guardB_bt, guardB_bf, pickV_t, pickV_f, gif_t, guardK_pure, ro_gif, pick_and, pick_or', grp_and, grp_or, grp_tt, grp_ft, grp_tf, grp_ff, letK_e, ro_bool, ro_int, ro_str, ro_lst, ro_own, ro_agg, ro_tup, ro_ptr, ro_map, ro_ref, ro_fn, ro_undef, nm_bool, nm_int, nm_str, nm_lst, nm_own, nm_agg, nm_ptr, nm_map, nm_fn, b_add, b_sub, b_mul, b_eq, b_ne, b_lt, b_le, b_gt, b_ge, s_eq, s_ne, q_int, q_str, q_bool, q_nil, q_if, b_eqS, b_neS, b_eqB, b_neB, Option.map_some, u_not, u_neg, l_str, l_lst, c_int, x_tup, after_none, fin_bool, fin_int, fin_str, fin_lst, fin_own, fin_tup, frz2_int, frz2_str, frz2_bool, frz2_lst, fa_ref, fa_ptr, ldc_ref, tokRows, List.length_map, hl]
    simp only [ne_eq, not_true_eq_false, decide_false, Bool.false_eq_true, if_false]
    refine Eq.trans h ?_
    cases hs : sameT a b <;> simp [d_r08_Same_j1, optK_s, opt2_s, opt3_s, ifK_b, guardK_t, guardK_f, guardB_bt, guardB_bf, pickV_t, pickV_f, gif_t, guardK_pure, ro_gif, pick_and, pick_or', grp_and, grp_or, grp_tt, grp_ft, grp_tf, grp_ff, letK_e, ro_bool, ro_int, ro_str, ro_lst, ro_own, ro_agg, ro_tup, ro_ptr, ro_map, ro_ref, ro_fn, ro_undef, nm_bool, nm_int, nm_str, nm_lst, nm_own, nm_agg, nm_ptr, nm_map, nm_fn, b_add, b_sub, b_mul, b_eq, b_ne, b_lt, b_le, b_gt, b_ge, s_eq, s_ne, q_int, q_str, q_bool, q_nil, q_if, b_eqS, b_neS, b_eqB, b_neB, Option.map_some, u_not, u_neg, l_str, l_lst, c_int, x_tup, after_none, fin_bool, fin_int, fin_str, fin_lst, fin_own, fin_tup, frz2_int, frz2_str, frz2_bool, frz2_lst, fa_ref, fa_ptr, ldc_ref]
  · have hne : sameT a b = false := by
      cases hs : sameT a b with
      | false => rfl
      | true => exact absurd (congrArg List.length ((sameT_iff a b).1 hs)) hl
    simp only [d_r08_Same, optK_s, opt2_s, opt3_s, ifK_b, guardK_t, guardK_f, guardB_bt, guardB_bf, pickV_t, pickV_f, gif_t, guardK_pure, ro_gif, pick_and, pick_or', grp_and, grp_or, grp_tt, grp_ft, grp_tf, grp_ff, letK_e, ro_bool, ro_int, ro_str, ro_lst, ro_own, ro_agg, ro_tup, ro_ptr, ro_map, ro_ref, ro_fn, ro_undef, nm_bool, nm_int, nm_str, nm_lst, nm_own, nm_agg, nm_ptr, nm_map, nm_fn, b_add, b_sub, b_mul, b_eq, b_ne, b_lt, b_le, b_gt, b_ge, s_eq, s_ne, q_int, q_str, q_bool, q_nil, q_if, b_eqS, b_neS, b_eqB, b_neB, Option.map_some, u_not, u_neg, l_str, l_lst, c_int, x_tup, after_none, fin_bool, fin_int, fin_str, fin_lst, fin_own, fin_tup, frz2_int, frz2_str, frz2_bool, frz2_lst, fa_ref, fa_ptr, ldc_ref, tokRows, List.length_map, hne]
    rw [if_pos (by simp; omega)]
end
end Go.Proofs.YtiabiflaecidoaaDoor
end
section
/-
  The reference's numbers: Number.
-/
namespace Go.Proofs.YtiabiflaecidoaaDoor
open Go Go.Proofs.YtiabiflaecidoaaDoor.Abs
set_option linter.all false
open Lib in
theorem digits_all (k : Nat) : ∀ u : Nat, u ≤ k → (decDigits u).all isD = true := by
  have one : ∀ d : Nat, d < 10 → isD (UInt8.ofNat (48 + d)) = true := by
    intro d hd
    have := digit_toNat d hd
    simp [isD, this]; omega
  induction k with
  | zero =>
    intro u hu
    rw [decDigits_small u (by omega)]
    simp only [List.all_cons, List.all_nil, Bool.and_true]; exact one u (by omega)
  | succ k ih =>
    intro u hu
    by_cases h : u < 10
    · rw [decDigits_small u h]; simp only [List.all_cons, List.all_nil, Bool.and_true]; exact one u h
    · rw [decDigits_big u h, List.all_append, ih (u / 10) (by omega)]
      simp only [List.all_cons, List.all_nil, Bool.and_true, Bool.true_and]; exact one (u % 10) (by omega)
open Lib in
theorem digits_lead (k : Nat) : ∀ u : Nat, u ≤ k → 1 ≤ u → ∃ c r, decDigits u = c :: r ∧ c.toNat ≠ 48 := by
  induction k with
  | zero => intro u h1 h2; omega
  | succ k ih =>
    intro u hu h1
    by_cases h : u < 10
    · exact ⟨_, _, decDigits_small u h, by rw [digit_toNat u h]; omega⟩
    · obtain ⟨c, r, e, hc⟩ := ih (u / 10) (by omega) (by omega)
      exact ⟨c, r ++ [UInt8.ofNat (48 + u % 10)], by rw [decDigits_big u h, e]; rfl, hc⟩
theorem isD_bounds {c : UInt8} (h : isD c = true) : 48 ≤ c.toNat ∧ c.toNat ≤ 57 := by
  simp [isD] at h; omega
theorem foldD_snoc (p : List UInt8) (c : UInt8) (h : isD c = true) : foldD 0 (p ++ [c]) = 10 * foldD 0 p + (c.toNat - 48) := by
  rw [foldD_append]
  simp [foldD, isD_bounds h]
open Lib in
theorem digits_back : ∀ (n : Nat) (l : List UInt8), l.length = n → l ≠ [] → l.all isD = true → (1 < l.length → ∀ c r, l = c :: r → c.toNat ≠ 48) → decDigits (foldD 0 l) = l ∧ (∀ c r, l = c :: r → c.toNat ≠ 48 → 1 ≤ foldD 0 l) := by
  intro n
  induction n with
  | zero => intro l h1 h2; cases l; exact absurd rfl h2; cases h1
  | succ n ih =>
    intro l hl hne ha hz
    obtain ⟨p, c, rfl⟩ : ∃ p c, l = p ++ [c] := ⟨l.dropLast, l.getLast hne, (List.dropLast_concat_getLast hne).symm⟩
    rw [List.all_append, Bool.and_eq_true] at ha
    have hc : isD c = true := by simpa using ha.2
    have hb := isD_bounds hc
    have hf := foldD_snoc p c hc
    have hce : UInt8.ofNat (48 + (c.toNat - 48)) = c := by
      rw [show 48 + (c.toNat - 48) = c.toNat by omega]; simp
    cases p with
    | nil =>
      have h0 : foldD 0 [] = 0 := rfl
      simp only [h0, List.nil_append] at hf
      refine ⟨?_, fun c' r' e hc' => ?_⟩
      · rw [show foldD 0 ([] ++ [c]) = c.toNat - 48 by simpa using hf, decDigits_small _ (by omega), hce]; rfl
      · simp at e
        obtain ⟨rfl, _⟩ := e
        rw [show foldD 0 ([] ++ [c]) = c.toNat - 48 by simpa using hf]; omega
    | cons d q =>
      have hd : d.toNat ≠ 48 := hz (by simp) d (q ++ [c]) rfl
      obtain ⟨i1, i2⟩ := ih (d :: q) (by simpa using hl) (by simp) ha.1 (fun _ c' r' e => by cases e; exact hd)
      have h1 := i2 d q rfl hd
      refine ⟨?_, fun c' r' e hc' => by rw [hf]; omega⟩
      rw [hf, decDigits_big _ (by omega), show (10 * foldD 0 (d :: q) + (c.toNat - 48)) / 10 = foldD 0 (d :: q) by omega, i1, show (10 * foldD 0 (d :: q) + (c.toNat - 48)) % 10 = c.toNat - 48 by omega, hce]
/-- what the reference's Number answers -/
def numR (l : List UInt8) : Int × Bool :=
  if l.length = 0 ∨ 13 < l.length ∨ (1 < l.length ∧ l.head?.map (·.toNat) = some 48) then (0, false)
  else if l.all isD = false then (0, false)
  else if 1000000000000 < (foldD 0 l : Int) then (0, false) else (foldD 0 l, true)
open Lib in
theorem numR_eq (l : List UInt8) : numR l = numF l := by
  have hp := parse_same l
  unfold numF
  rw [hp]
  by_cases hl : l = []
  · subst hl
    have : parseR [] = (0, false) := by
      have h0 : itoa 0 = [48] := by rw [itoa_pos 0 (by omega)]; exact decDigits_small 0 (by omega)
      simp [parseR, signD, foldD, h0]
    rw [this]; rfl
  obtain ⟨c, r, rfl⟩ : ∃ c r, l = c :: r := by cases l; exact absurd rfl hl; exact ⟨_, _, rfl⟩
  by_cases hg : (numR (c :: r)).2 = true
  · -- a number
    unfold numR at hg ⊢
    split at hg
    · cases hg
    rename_i h1
    split at hg
    · cases hg
    rename_i h2
    split at hg
    · cases hg
    rename_i h3
    rw [if_neg h1, if_neg h2, if_neg h3]
    have ha : (c :: r).all isD = true := by simpa using h2
    have hb := digits_back _ (c :: r) rfl (by simp) ha (fun hlen c' r' e => by cases e; intro h48; exact h1 (.inr (.inr ⟨hlen, by simp [h48]⟩)))
    have hc : isD c = true := by simp at ha; exact ha.1
    have hs : signD (c :: r) = (foldD 0 (c :: r) : Int) := signD_other c r (by have := isD_bounds hc; omega)
    have hi : itoa (signD (c :: r)) = c :: r := by rw [hs, itoa_pos _ (by omega), Int.natAbs_natCast]; exact hb.1
    have hin : inB (signD (c :: r)) = true := by rw [hs]; simp [inB]; omega
    have hlen : ¬ 14 < (c :: r).length := by intro h; exact h1 (.inr (.inl (by omega)))
    have he : parseR (c :: r) = ((foldD 0 (c :: r) : Int), true) := by
      rw [parseR, if_neg hlen, hi, hin, hs]; simp
    rw [he]; simp
  · have hn : numR (c :: r) = (0, false) := by
      unfold numR at hg ⊢
      split
      · rfl
      · rename_i h1
        rw [if_neg h1] at hg
        split
        · rfl
        · rename_i h2
          rw [if_neg h2] at hg
          split
          · rfl
          · rename_i h3
            rw [if_neg h3] at hg; exact absurd rfl hg
    rw [hn]
    split
    · rename_i h
      obtain ⟨h1, h2⟩ := h
      exfalso
      unfold parseR at h1 h2
      split at h1
      · cases h1
      rename_i hlen
      rw [if_neg hlen] at h2
      split at h1
      · rename_i hq
        rw [if_pos hq] at h2
        simp only [Bool.and_eq_true, beq_iff_eq] at hq
        obtain ⟨q1, q2⟩ := hq
        simp only at h2
        generalize hv : signD (c :: r) = v at *
        have q3 : decDigits v.natAbs = c :: r := by rw [← itoa_pos v h2]; exact q2
        have hvb : v ≤ 1000000000000 := by simp [inB] at q1; exact q1.2
        have hlen2 := digits_length 12 v.natAbs (by omega)
        rw [q3] at hlen2
        apply hg
        have ha := digits_all v.natAbs v.natAbs (Nat.le_refl _)
        rw [q3] at ha
        have hf := foldD_digits v.natAbs v.natAbs (Nat.le_refl _)
        rw [q3] at hf
        unfold numR
        rw [if_neg, if_neg (by simp only [ha]; simp), if_neg (by rw [hf]; omega)]
        rintro (h | h | ⟨h, h'⟩)
        · simp at h
        · omega
        · by_cases h0 : v.natAbs = 0
          · rw [h0, decDigits_small 0 (by omega)] at q3
            cases q3; simp at h
          · obtain ⟨c', r', e, hc'⟩ := digits_lead v.natAbs v.natAbs (Nat.le_refl _) (by omega)
            rw [q3] at e; cases e
            simp at h'; exact hc' h'
      · cases h1
    · rfl

section
variable {C : Cfg} (hC : CfgL C)
include hC
theorem e_number_loop (n : Nat) (hp0 : List AObj) (k0 : AV → AV → List AObj → Eff → KR) (s : List UInt8) : ∀ (r p : List UInt8) (m : Nat) (hp : List AObj), s = p ++ r → s.length ≤ 13 → p.all isD = true → r.length < m →
    d_r08_Number_l0 C.G (evalCall C (n + 1)) C.L hp0 k0 m (.str s) (.int .i64 (foldD 0 p)) (.int .i64 (foldD 0 p)) (.int .i64 p.length) hp none = if s.all isD then k0 (.int .i64 (foldD 0 s)) (.int .i64 (foldD 0 s)) hp none else some (.tup [.int .i64 0, .bool false], hp0, none)
  | _, _, 0, _, _, _, _, h => by omega
  | [], p, m + 1, hp, hs, hb, ha, _ => by
    simp only [List.append_nil] at hs
    subst hs
    simp only [d_r08_Number_l0, optK_s, opt2_s, opt3_s, ifK_b, guardK_t, guardK_f, guardB_bt, guardB_bf, pickV_t, pickV_f, gif_t, guardK_pure, ro_gif, pick_and, pick_or', grp_and, grp_or, grp_tt, grp_ft, grp_tf, grp_ff, letK_e, ro_bool, ro_int, ro_str, ro_lst, ro_own, ro_agg, ro_tup, ro_ptr, ro_map, ro_ref, ro_fn, ro_undef, nm_bool, nm_int, nm_str, nm_lst, nm_own, nm_agg, nm_ptr, nm_map, nm_fn, b_add, b_sub, b_mul, b_eq, b_ne, b_lt, b_le, b_gt, b_ge, s_eq, s_ne, q_int, q_str, q_bool, q_nil, q_if, b_eqS, b_neS, b_eqB, b_neB, Option.map_some, u_not, u_neg, l_str, l_lst, c_int, x_tup, after_none, fin_bool, fin_int, fin_str, fin_lst, fin_own, fin_tup, frz2_int, frz2_str, frz2_bool, frz2_lst, fa_ref, fa_ptr, ldc_ref, Int.lt_irrefl, decide_false, Bool.false_eq_true, if_false, ha, if_true]
  | c :: r, p, m + 1, hp, hs, hb, ha, hm => by
    have hlt : p.length < s.length := by rw [hs]; simp
    have hg : s[p.length] = c := by simp [hs]
    have h1 := foldD_lt p 0
    have h2 : 10 ^ p.length ≤ 10 ^ 13 := Nat.pow_le_pow_right (by omega) (by omega)
    simp only [d_r08_Number_l0, optK_s, opt2_s, opt3_s, ifK_b, guardK_t, guardK_f, guardB_bt, guardB_bf, pickV_t, pickV_f, gif_t, guardK_pure, ro_gif, pick_and, pick_or', grp_and, grp_or, grp_tt, grp_ft, grp_tf, grp_ff, letK_e, ro_bool, ro_int, ro_str, ro_lst, ro_own, ro_agg, ro_tup, ro_ptr, ro_map, ro_ref, ro_fn, ro_undef, nm_bool, nm_int, nm_str, nm_lst, nm_own, nm_agg, nm_ptr, nm_map, nm_fn, b_add, b_sub, b_mul, b_eq, b_ne, b_lt, b_le, b_gt, b_ge, s_eq, s_ne, q_int, q_str, q_bool, q_nil, q_if, b_eqS, b_neS, b_eqB, b_neB, Option.map_some, u_not, u_neg, l_str, l_lst, c_int, x_tup, after_none, fin_bool, fin_int, fin_str, fin_lst, fin_own, fin_tup, frz2_int, frz2_str, frz2_bool, frz2_lst, fa_ref, fa_ptr, ldc_ref, idx_str s p.length hlt, hg, e_digit hC, Int.ofNat_lt, hlt, decide_true, if_true]
    cases hd : isD c with
    | false =>
      have : s.all isD = false := by rw [hs]; simp [hd]
      simp [this, optK_s, opt2_s, opt3_s, ifK_b, guardK_t, guardK_f, guardB_bt, guardB_bf, pickV_t, pickV_f, gif_t, guardK_pure, ro_gif, pick_and, pick_or', grp_and, grp_or, grp_tt, grp_ft, grp_tf, grp_ff, letK_e, ro_bool, ro_int, ro_str, ro_lst, ro_own, ro_agg, ro_tup, ro_ptr, ro_map, ro_ref, ro_fn, ro_undef, nm_bool, nm_int, nm_str, nm_lst, nm_own, nm_agg, nm_ptr, nm_map, nm_fn, b_add, b_sub, b_mul, b_eq, b_ne, b_lt, b_le, b_gt, b_ge, s_eq, s_ne, q_int, q_str, q_bool, q_nil, q_if, b_eqS, b_neS, b_eqB, b_neB, Option.map_some, u_not, u_neg, l_str, l_lst, c_int, x_tup, after_none, fin_bool, fin_int, fin_str, fin_lst, fin_own, fin_tup, frz2_int, frz2_str, frz2_bool, frz2_lst, fa_ref, fa_ptr, ldc_ref, frz2_int, frz2_bool]
    | true =>
      have hcb := isD_bounds hd
      have e1 : IntKind.u8.wrap ((c.toNat : Int) - 48) = (c.toNat : Int) - 48 := IntWalk.u8_in _ (by omega)
      have e2 : IntKind.i64.wrap ((c.toNat : Int) - 48) = (c.toNat : Int) - 48 := i64_in (by omega) (by omega)
      have e3 : IntKind.i64.wrap (10 * (foldD 0 p : Int)) = 10 * (foldD 0 p : Int) := i64_in (by omega) (by omega)
      have e4 : IntKind.i64.wrap (10 * (foldD 0 p : Int) + ((c.toNat : Int) - 48)) = ((foldD 0 (p ++ [c]) : Nat) : Int) := by
        rw [i64_in (by omega) (by omega), foldD_snoc p c hd]; omega
      have ih := e_number_loop n hp0 k0 s r (p ++ [c]) m hp (by rw [hs]; simp) hb (by simp [ha, hd]) (by simpa using hm)
      simp only [List.length_append, List.length_cons, List.length_nil, Nat.zero_add] at ih
      simp only [optK_s, opt2_s, opt3_s, ifK_b, guardK_t, guardK_f, guardB_bt, guardB_bf, pickV_t, pickV_f, gif_t, guardK_pure, ro_gif, pick_and, pick_or', grp_and, grp_or, grp_tt, grp_ft, grp_tf, grp_ff, letK_e, ro_bool, ro_int, ro_str, ro_lst, ro_own, ro_agg, ro_tup, ro_ptr, ro_map, ro_ref, ro_fn, ro_undef, nm_bool, nm_int, nm_str, nm_lst, nm_own, nm_agg, nm_ptr, nm_map, nm_fn, b_add, b_sub, b_mul, b_eq, b_ne, b_lt, b_le, b_gt, b_ge, s_eq, s_ne, q_int, q_str, q_bool, q_nil, q_if, b_eqS, b_neS, b_eqB, b_neB, Option.map_some, u_not, u_neg, l_str, l_lst, c_int, x_tup, after_none, fin_bool, fin_int, fin_str, fin_lst, fin_own, fin_tup, frz2_int, frz2_str, frz2_bool, frz2_lst, fa_ref, fa_ptr, ldc_ref, Bool.not_true, Bool.false_eq_true, if_false, e1, e2, e3, e4, wrap_nat _ (show p.length < 4611686018427387904 by omega), ih]
theorem e_rnumber (n : Nat) (s : List UInt8) (hp : List AObj) (hs : s.length < 4611686018427387904) : evalCall C (n + 2) F_r08_Number [.str s] hp = some (.tup [.int .i64 (numR s).1, .bool (numR s).2], hp, none) := by
  refine r08_Number_run (by rw [hC.T]; rfl) ?_
  cases s with
  | nil => simp [d_r08_Number, optK_s, opt2_s, opt3_s, ifK_b, guardK_t, guardK_f, guardB_bt, guardB_bf, pickV_t, pickV_f, gif_t, guardK_pure, ro_gif, pick_and, pick_or', grp_and, grp_or, grp_tt, grp_ft, grp_tf, grp_ff, letK_e, ro_bool, ro_int, ro_str, ro_lst, ro_own, ro_agg, ro_tup, ro_ptr, ro_map, ro_ref, ro_fn, ro_undef, nm_bool, nm_int, nm_str, nm_lst, nm_own, nm_agg, nm_ptr, nm_map, nm_fn, b_add, b_sub, b_mul, b_eq, b_ne, b_lt, b_le, b_gt, b_ge, s_eq, s_ne, q_int, q_str, q_bool, q_nil, q_if, b_eqS, b_neS, b_eqB, b_neB, Option.map_some, u_not, u_neg, l_str, l_lst, c_int, x_tup, after_none, fin_bool, fin_int, fin_str, fin_lst, fin_own, fin_tup, frz2_int, frz2_str, frz2_bool, frz2_lst, fa_ref, fa_ptr, ldc_ref, numR]
  | cons c r =>
    have h0 : ¬ (((c :: r).length : Int) = 0) := by simp; omega
    by_cases h13 : 13 < (c :: r).length
    · have h13' : (13 : Int) < ((c :: r).length : Int) := by omega
      simp only [d_r08_Number, optK_s, opt2_s, opt3_s, ifK_b, guardK_t, guardK_f, guardB_bt, guardB_bf, pickV_t, pickV_f, gif_t, guardK_pure, ro_gif, pick_and, pick_or', grp_and, grp_or, grp_tt, grp_ft, grp_tf, grp_ff, letK_e, ro_bool, ro_int, ro_str, ro_lst, ro_own, ro_agg, ro_tup, ro_ptr, ro_map, ro_ref, ro_fn, ro_undef, nm_bool, nm_int, nm_str, nm_lst, nm_own, nm_agg, nm_ptr, nm_map, nm_fn, b_add, b_sub, b_mul, b_eq, b_ne, b_lt, b_le, b_gt, b_ge, s_eq, s_ne, q_int, q_str, q_bool, q_nil, q_if, b_eqS, b_neS, b_eqB, b_neB, Option.map_some, u_not, u_neg, l_str, l_lst, c_int, x_tup, after_none, fin_bool, fin_int, fin_str, fin_lst, fin_own, fin_tup, frz2_int, frz2_str, frz2_bool, frz2_lst, fa_ref, fa_ptr, ldc_ref, h0, h13', decide_true, decide_false, Bool.false_or, if_true]
      rw [show numR (c :: r) = (0, false) by rw [numR, if_pos (.inr (.inl h13))]]
      simp [optK_s, opt2_s, opt3_s, ifK_b, guardK_t, guardK_f, guardB_bt, guardB_bf, pickV_t, pickV_f, gif_t, guardK_pure, ro_gif, pick_and, pick_or', grp_and, grp_or, grp_tt, grp_ft, grp_tf, grp_ff, letK_e, ro_bool, ro_int, ro_str, ro_lst, ro_own, ro_agg, ro_tup, ro_ptr, ro_map, ro_ref, ro_fn, ro_undef, nm_bool, nm_int, nm_str, nm_lst, nm_own, nm_agg, nm_ptr, nm_map, nm_fn, b_add, b_sub, b_mul, b_eq, b_ne, b_lt, b_le, b_gt, b_ge, s_eq, s_ne, q_int, q_str, q_bool, q_nil, q_if, b_eqS, b_neS, b_eqB, b_neB, Option.map_some, u_not, u_neg, l_str, l_lst, c_int, x_tup, after_none, fin_bool, fin_int, fin_str, fin_lst, fin_own, fin_tup, frz2_int, frz2_str, frz2_bool, frz2_lst, fa_ref, fa_ptr, ldc_ref]
    · have h13' : ¬ (13 : Int) < ((c :: r).length : Int) := by omega
      have hl := e_number_loop hC n hp (d_r08_Number_j1 C.G (evalCall C (n + 1)) C.L hp) (c :: r) (c :: r) [] C.L hp rfl (by omega) rfl (by have := hC.L; omega)
      have hf0 : foldD 0 [] = 0 := rfl
      simp only [hf0, List.length_nil, Int.ofNat_zero] at hl
      by_cases h48 : 1 < (c :: r).length ∧ (c.toNat : Int) = 48
      · have h1 : (1 : Int) < ((c :: r).length : Int) := by omega
        simp only [d_r08_Number, optK_s, opt2_s, opt3_s, ifK_b, guardK_t, guardK_f, guardB_bt, guardB_bf, pickV_t, pickV_f, gif_t, guardK_pure, ro_gif, pick_and, pick_or', grp_and, grp_or, grp_tt, grp_ft, grp_tf, grp_ff, letK_e, ro_bool, ro_int, ro_str, ro_lst, ro_own, ro_agg, ro_tup, ro_ptr, ro_map, ro_ref, ro_fn, ro_undef, nm_bool, nm_int, nm_str, nm_lst, nm_own, nm_agg, nm_ptr, nm_map, nm_fn, b_add, b_sub, b_mul, b_eq, b_ne, b_lt, b_le, b_gt, b_ge, s_eq, s_ne, q_int, q_str, q_bool, q_nil, q_if, b_eqS, b_neS, b_eqB, b_neB, Option.map_some, u_not, u_neg, l_str, l_lst, c_int, x_tup, after_none, fin_bool, fin_int, fin_str, fin_lst, fin_own, fin_tup, frz2_int, frz2_str, frz2_bool, frz2_lst, fa_ref, fa_ptr, ldc_ref, h0, h13', h1, idx_str0, h48.2, decide_true, decide_false, Bool.false_or, if_true]
        rw [show numR (c :: r) = (0, false) by rw [numR, if_pos (.inr (.inr ⟨h48.1, by simp; omega⟩))]]
        simp [optK_s, opt2_s, opt3_s, ifK_b, guardK_t, guardK_f, guardB_bt, guardB_bf, pickV_t, pickV_f, gif_t, guardK_pure, ro_gif, pick_and, pick_or', grp_and, grp_or, grp_tt, grp_ft, grp_tf, grp_ff, letK_e, ro_bool, ro_int, ro_str, ro_lst, ro_own, ro_agg, ro_tup, ro_ptr, ro_map, ro_ref, ro_fn, ro_undef, nm_bool, nm_int, nm_str, nm_lst, nm_own, nm_agg, nm_ptr, nm_map, nm_fn, b_add, b_sub, b_mul, b_eq, b_ne, b_lt, b_le, b_gt, b_ge, s_eq, s_ne, q_int, q_str, q_bool, q_nil, q_if, b_eqS, b_neS, b_eqB, b_neB, Option.map_some, u_not, u_neg, l_str, l_lst, c_int, x_tup, after_none, fin_bool, fin_int, fin_str, fin_lst, fin_own, fin_tup, frz2_int, frz2_str, frz2_bool, frz2_lst, fa_ref, fa_ptr, ldc_ref]
      · have hc : (decide ((1 : Int) < ((c :: r).length : Int)) && decide ((c.toNat : Int) = 48)) = false := by
          simp only [Bool.and_eq_false_iff, decide_eq_false_iff_not]
          by_cases h1 : 1 < (c :: r).length
          · right; intro h; exact h48 ⟨h1, h⟩
          · left; omega
        simp only [d_r08_Number, optK_s, opt2_s, opt3_s, ifK_b, guardK_t, guardK_f, guardB_bt, guardB_bf, pickV_t, pickV_f, gif_t, guardK_pure, ro_gif, pick_and, pick_or', grp_and, grp_or, grp_tt, grp_ft, grp_tf, grp_ff, letK_e, ro_bool, ro_int, ro_str, ro_lst, ro_own, ro_agg, ro_tup, ro_ptr, ro_map, ro_ref, ro_fn, ro_undef, nm_bool, nm_int, nm_str, nm_lst, nm_own, nm_agg, nm_ptr, nm_map, nm_fn, b_add, b_sub, b_mul, b_eq, b_ne, b_lt, b_le, b_gt, b_ge, s_eq, s_ne, q_int, q_str, q_bool, q_nil, q_if, b_eqS, b_neS, b_eqB, b_neB, Option.map_some, u_not, u_neg, l_str, l_lst, c_int, x_tup, after_none, fin_bool, fin_int, fin_str, fin_lst, fin_own, fin_tup, frz2_int, frz2_str, frz2_bool, frz2_lst, fa_ref, fa_ptr, ldc_ref, h0, h13', idx_str0, decide_false, Bool.false_or, hc, Bool.false_eq_true, if_false]
        refine Eq.trans hl ?_
        have hn : ¬ ((c :: r).length = 0 ∨ 13 < (c :: r).length ∨ 1 < (c :: r).length ∧ (c :: r).head?.map (·.toNat) = some 48) := by
          rintro (h | h | ⟨h, h'⟩)
          · simp at h
          · exact h13 h
          · simp at h'; exact h48 ⟨h, by omega⟩
        rw [numR, if_neg hn]
        cases ha : (c :: r).all isD with
        | false => simp
        | true =>
          simp only [if_true, Bool.true_eq_false, if_false]
          by_cases hv : 1000000000000 < (foldD 0 (c :: r) : Int) <;> simp [d_r08_Number_j1, optK_s, opt2_s, opt3_s, ifK_b, guardK_t, guardK_f, guardB_bt, guardB_bf, pickV_t, pickV_f, gif_t, guardK_pure, ro_gif, pick_and, pick_or', grp_and, grp_or, grp_tt, grp_ft, grp_tf, grp_ff, letK_e, ro_bool, ro_int, ro_str, ro_lst, ro_own, ro_agg, ro_tup, ro_ptr, ro_map, ro_ref, ro_fn, ro_undef, nm_bool, nm_int, nm_str, nm_lst, nm_own, nm_agg, nm_ptr, nm_map, nm_fn, b_add, b_sub, b_mul, b_eq, b_ne, b_lt, b_le, b_gt, b_ge, s_eq, s_ne, q_int, q_str, q_bool, q_nil, q_if, b_eqS, b_neS, b_eqB, b_neB, Option.map_some, u_not, u_neg, l_str, l_lst, c_int, x_tup, after_none, fin_bool, fin_int, fin_str, fin_lst, fin_own, fin_tup, frz2_int, frz2_str, frz2_bool, frz2_lst, fa_ref, fa_ptr, ldc_ref, hv]
end
end Go.Proofs.YtiabiflaecidoaaDoor
end
section
/-
  The reference's longest.
-/
namespace Go.Proofs.YtiabiflaecidoaaDoor
open Go Go.Proofs.YtiabiflaecidoaaDoor.Abs
set_option linter.all false

theorem isL_eq : isL = isLetter := rfl
theorem isD_eq : isD = isDigit := rfl
theorem isI_eq : isI = isInner := by
  funext c
  simp only [isI, isInner, isL_eq, isD_eq]
  by_cases h : (c.toNat : Int) = 95 <;> simp [h]
def goodN (s : List UInt8) (n : Nat) : Bool := isWord (s.take n) || isDigits (s.take n) || isSign (s.take n)
def lngF (s : List UInt8) : Nat → Nat → Nat → Nat
  | 0, _, best => best
  | f + 1, n, best =>
    if n ≤ s.length then
      (if (if goodN s n then n else best) < n ∧ 2 < n then (if goodN s n then n else best) else lngF s f (n + 1) (if goodN s n then n else best))
    else best
theorem lngF_eq (s : List UInt8) (r : Nat) (h1 : r ≤ s.length) (h2 : r ≠ 0 → goodN s r = true) (h3 : ∀ n, r < n → n ≤ s.length → goodN s n = false) (h4 : ∀ n, 3 ≤ n → n ≤ r → goodN s n = true) :
    ∀ (f n best : Nat), 1 ≤ n → s.length + 1 - n < f → (r < n → best = r) → lngF s f n best = r
  | 0, n, best, _, h, _ => by omega
  | f + 1, n, best, hn, hf, hb => by
    unfold lngF
    by_cases hl : n ≤ s.length
    · rw [if_pos hl]
      by_cases hr : n ≤ r
      · have hno : ¬ ((if goodN s n then n else best) < n ∧ 2 < n) := by
          rintro ⟨a, b⟩
          rw [h4 n (by omega) hr] at a
          simp at a
        rw [if_neg hno]
        refine lngF_eq s r h1 h2 h3 h4 f (n + 1) _ (by omega) (by omega) (fun hlt => ?_)
        have : n = r := by omega
        subst this
        rw [h2 (by omega)]; simp
      · rw [h3 n (by omega) hl, hb (by omega)]
        simp only [Bool.false_eq_true, if_false]
        split
        · rfl
        · exact lngF_eq s r h1 h2 h3 h4 f (n + 1) r (by omega) (by omega) (fun _ => rfl)
    · rw [if_neg hl]
      exact hb (by omega)

section
variable {C : Cfg} (hC : CfgL C)
include hC
theorem sl_take (s : List UInt8) (n : Nat) (h : n ≤ s.length) : sliceVal .str (.str s) none (some (.int .i64 n)) = some (.str (s.take n)) := by
  simp [sliceVal, bound, h]
theorem e_longest_loop (n0 : Nat) (hp0 : List AObj) (k0 : AV → List AObj → Eff → KR) (hk : ∀ (b : Int) (hp : List AObj), k0 (.int .i64 b) hp none = some (.int .i64 b, hp0, none)) (s : List UInt8) (hs : s.length < 4611686018427387904) :
    ∀ (m n best : Nat) (hp : List AObj), s.length + 1 - n < m → n ≤ s.length + 1 → 
    d_r08_longest_l0 C.G (evalCall C (n0 + 2)) C.L hp0 k0 m (.str s) (.int .i64 best) (.int .i64 best) (.int .i64 n) hp none = some (.int .i64 (lngF s m n best), hp0, none)
  | 0, _, _, _, h, _ => by omega
  | m + 1, n, best, hp, h, hn => by
    unfold lngF
    by_cases hl : n ≤ s.length
    · have ht : (s.take n).length < 4611686018427387904 := by rw [List.length_take]; omega
      have hl' : (n : Int) ≤ (s.length : Int) := by omega
      simp only [d_r08_longest_l0, optK_s, opt2_s, opt3_s, ifK_b, guardK_t, guardK_f, guardB_bt, guardB_bf, pickV_t, pickV_f, gif_t, guardK_pure, ro_gif, pick_and, pick_or', grp_and, grp_or, grp_tt, grp_ft, grp_tf, grp_ff, letK_e, ro_bool, ro_int, ro_str, ro_lst, ro_own, ro_agg, ro_tup, ro_ptr, ro_map, ro_ref, ro_fn, ro_undef, nm_bool, nm_int, nm_str, nm_lst, nm_own, nm_agg, nm_ptr, nm_map, nm_fn, b_add, b_sub, b_mul, b_eq, b_ne, b_lt, b_le, b_gt, b_ge, s_eq, s_ne, q_int, q_str, q_bool, q_nil, q_if, b_eqS, b_neS, b_eqB, b_neB, Option.map_some, u_not, u_neg, l_str, l_lst, c_int, x_tup, after_none, fin_bool, fin_int, fin_str, fin_lst, fin_own, fin_tup, frz2_int, frz2_str, frz2_bool, frz2_lst, fa_ref, fa_ptr, ldc_ref, hl', decide_true, if_true, sl_take hC s n hl, e_word hC _ _ _ ht, e_digits hC _ _ _ ht, e_sign hC]
      rw [if_pos hl]
      have ih := fun b hp => e_longest_loop n0 hp0 k0 hk s hs m (n + 1) b hp (by omega) (by omega)
      have step : ∀ (b : Nat) (hp : List AObj), d_r08_longest_j1 C.G (evalCall C (n0 + 2)) C.L hp0 (d_r08_longest_j2 C.G (evalCall C (n0 + 2)) C.L hp0 (d_r08_longest_l0 C.G (evalCall C (n0 + 2)) C.L hp0 k0 m)) (.str s) (.int .i64 b) (.int .i64 b) (.int .i64 n) hp none = some (.int .i64 (if b < n ∧ 2 < n then b else lngF s m (n + 1) b : Nat), hp0, none) := by
        intro b hp
        simp only [d_r08_longest_j1, d_r08_longest_j2, optK_s, opt2_s, opt3_s, ifK_b, guardK_t, guardK_f, guardB_bt, guardB_bf, pickV_t, pickV_f, gif_t, guardK_pure, ro_gif, pick_and, pick_or', grp_and, grp_or, grp_tt, grp_ft, grp_tf, grp_ff, letK_e, ro_bool, ro_int, ro_str, ro_lst, ro_own, ro_agg, ro_tup, ro_ptr, ro_map, ro_ref, ro_fn, ro_undef, nm_bool, nm_int, nm_str, nm_lst, nm_own, nm_agg, nm_ptr, nm_map, nm_fn, b_add, b_sub, b_mul, b_eq, b_ne, b_lt, b_le, b_gt, b_ge, s_eq, s_ne, q_int, q_str, q_bool, q_nil, q_if, b_eqS, b_neS, b_eqB, b_neB, Option.map_some, u_not, u_neg, l_str, l_lst, c_int, x_tup, after_none, fin_bool, fin_int, fin_str, fin_lst, fin_own, fin_tup, frz2_int, frz2_str, frz2_bool, frz2_lst, fa_ref, fa_ptr, ldc_ref, wrap_nat n (by omega), ih]
        by_cases c1 : b < n <;> by_cases c2 : 2 < n
        · have : ((b : Int) < n) := by omega
          have : ((2 : Int) < n) := by omega
          simp [*]
        · have : ((b : Int) < n) := by omega
          have : ¬ ((2 : Int) < n) := by omega
          simp [*]
        · have : ¬ ((b : Int) < n) := by omega
          simp [*]
        · have : ¬ ((b : Int) < n) := by omega
          simp [*]
      cases hg : goodN s n with
      | true =>
        rw [if_pos (by simpa [goodN] using hg)]
        simp only [if_true]
        exact step n hp
      | false =>
        rw [if_neg (by simp only [goodN] at hg; rw [hg]; simp)]
        simp only [Bool.false_eq_true, if_false]
        exact step best hp
    · have hl' : ¬ (n : Int) ≤ (s.length : Int) := by omega
      simp only [d_r08_longest_l0, optK_s, opt2_s, opt3_s, ifK_b, guardK_t, guardK_f, guardB_bt, guardB_bf, pickV_t, pickV_f, gif_t, guardK_pure, ro_gif, pick_and, pick_or', grp_and, grp_or, grp_tt, grp_ft, grp_tf, grp_ff, letK_e, ro_bool, ro_int, ro_str, ro_lst, ro_own, ro_agg, ro_tup, ro_ptr, ro_map, ro_ref, ro_fn, ro_undef, nm_bool, nm_int, nm_str, nm_lst, nm_own, nm_agg, nm_ptr, nm_map, nm_fn, b_add, b_sub, b_mul, b_eq, b_ne, b_lt, b_le, b_gt, b_ge, s_eq, s_ne, q_int, q_str, q_bool, q_nil, q_if, b_eqS, b_neS, b_eqB, b_neB, Option.map_some, u_not, u_neg, l_str, l_lst, c_int, x_tup, after_none, fin_bool, fin_int, fin_str, fin_lst, fin_own, fin_tup, frz2_int, frz2_str, frz2_bool, frz2_lst, fa_ref, fa_ptr, ldc_ref, hl', decide_false, Bool.false_eq_true, if_false, hk]
      rw [if_neg hl]
theorem e_longest_raw (n : Nat) (s : List UInt8) (hp : List AObj) (hs : s.length < 4611686018427387904) : evalCall C (n + 3) F_r08_longest [.str s] hp = some (.int .i64 (lngF s C.L 1 0), hp, none) := by
  refine r08_longest_run (by rw [hC.T]; rfl) ?_
  have h := e_longest_loop hC n hp (d_r08_longest_j3 C.G (evalCall C (n + 2)) C.L hp) (fun b hp' => by simp [d_r08_longest_j3, optK_s, opt2_s, opt3_s, ifK_b, guardK_t, guardK_f, guardB_bt, guardB_bf, pickV_t, pickV_f, gif_t, guardK_pure, ro_gif, pick_and, pick_or', grp_and, grp_or, grp_tt, grp_ft, grp_tf, grp_ff, letK_e, ro_bool, ro_int, ro_str, ro_lst, ro_own, ro_agg, ro_tup, ro_ptr, ro_map, ro_ref, ro_fn, ro_undef, nm_bool, nm_int, nm_str, nm_lst, nm_own, nm_agg, nm_ptr, nm_map, nm_fn, b_add, b_sub, b_mul, b_eq, b_ne, b_lt, b_le, b_gt, b_ge, s_eq, s_ne, q_int, q_str, q_bool, q_nil, q_if, b_eqS, b_neS, b_eqB, b_neB, Option.map_some, u_not, u_neg, l_str, l_lst, c_int, x_tup, after_none, fin_bool, fin_int, fin_str, fin_lst, fin_own, fin_tup, frz2_int, frz2_str, frz2_bool, frz2_lst, fa_ref, fa_ptr, ldc_ref]) s hs C.L 1 0 hp (by have := hC.L; omega) (by omega)
  simp only [d_r08_longest, optK_s, opt2_s, opt3_s, ifK_b, guardK_t, guardK_f, guardB_bt, guardB_bf, pickV_t, pickV_f, gif_t, guardK_pure, ro_gif, pick_and, pick_or', grp_and, grp_or, grp_tt, grp_ft, grp_tf, grp_ff, letK_e, ro_bool, ro_int, ro_str, ro_lst, ro_own, ro_agg, ro_tup, ro_ptr, ro_map, ro_ref, ro_fn, ro_undef, nm_bool, nm_int, nm_str, nm_lst, nm_own, nm_agg, nm_ptr, nm_map, nm_fn, b_add, b_sub, b_mul, b_eq, b_ne, b_lt, b_le, b_gt, b_ge, s_eq, s_ne, q_int, q_str, q_bool, q_nil, q_if, b_eqS, b_neS, b_eqB, b_neB, Option.map_some, u_not, u_neg, l_str, l_lst, c_int, x_tup, after_none, fin_bool, fin_int, fin_str, fin_lst, fin_own, fin_tup, frz2_int, frz2_str, frz2_bool, frz2_lst, fa_ref, fa_ptr, ldc_ref]
  exact h
end

/-! ## what it is -/
def rawLen (l : List UInt8) : Nat :=
  match l with
  | [] => 0
  | c :: r => if isLetter c then runN isInner (c :: r) else if isDigit c then runN isDigit (c :: r) else signN (c :: r)
theorem all_take_iff (p : UInt8 → Bool) : ∀ (l : List UInt8) (n : Nat), n ≤ l.length → ((l.take n).all p = true ↔ n ≤ runN p l)
  | [], n, h => by
    have : n = 0 := by simpa using h
    subst this; simp
  | c :: r, 0, h => by simp
  | c :: r, n + 1, h => by
    have ih := all_take_iff p r n (by simpa using h)
    rw [List.take_succ_cons, List.all_cons, Bool.and_eq_true, ih]
    unfold runN
    rw [List.takeWhile_cons]
    by_cases hc : p c = true
    · simp [hc, runN]
    · simp [hc]
theorem digit_not_letter {c : UInt8} (h : isDigit c = true) : isLetter c = false := by
  cases hl : isLetter c with
  | false => rfl
  | true => simp [isDigit, isLetter] at h hl; omega
theorem sign_head {c : UInt8} {r : List UInt8} (h : isSign (c :: r) = true) : isLetter c = false ∧ isDigit c = false := by
  simp only [isSign, signTexts, List.contains_cons, List.contains_nil, Bool.or_false, Bool.or_eq_true, beq_iff_eq, List.cons.injEq] at h
  rcases h with h | h | h | h | h | h | h | h | h | h | h | h | h | h | h | h <;> (rw [h.1]; decide)
theorem sign_long {l : List UInt8} (h : isSign l = true) : l.length ≤ 2 := by
  simp only [isSign, signTexts, List.contains_cons, List.contains_nil, Bool.or_false, Bool.or_eq_true, beq_iff_eq] at h
  rcases h with h | h | h | h | h | h | h | h | h | h | h | h | h | h | h | h <;> (rw [h]; decide)
theorem indexByte_iff : ∀ (l : List UInt8) (c : UInt8), 0 ≤ Lib.indexByte l c ↔ c ∈ l
  | [], c => by simp [Lib.indexByte]
  | b :: l, c => by
    have ih := indexByte_iff l c
    unfold Lib.indexByte
    by_cases h : b = c
    · subst h; simp
    · have hb : (b == c) = false := by simpa using h
      rw [hb]
      simp only [Bool.false_eq_true, if_false, List.mem_cons]
      have hc : ¬ c = b := fun e => h e.symm
      simp only [hc, false_or, ← ih]
      split
      · rename_i h1
        have : Lib.indexByte l c = -1 := by simpa using h1
        omega
      · rename_i h1
        have : ¬ Lib.indexByte l c = -1 := by simpa using h1
        constructor
        · intro h2
          have : Lib.indexByte l c ≥ -1 := by omega
          omega
        · intro h2; omega
theorem sign_one (c : UInt8) : isSign [c] = true ↔ c ∈ signChars := by
  simp only [isSign, signTexts, signChars, List.contains_cons, List.contains_nil, Bool.or_false, Bool.or_eq_true, beq_iff_eq, List.cons.injEq, and_true, reduceCtorEq, and_false, false_or, or_false, List.mem_cons, List.not_mem_nil]
theorem sign_two (c d : UInt8) : isSign [c, d] = true ↔ (c = 33 ∧ d = 61) ∨ (c = 60 ∧ d = 61) ∨ (c = 62 ∧ d = 61) := by
  simp [isSign, signTexts]
theorem pre_two (a b c d : UInt8) (r : List UInt8) : Lib.hasPrefix (c :: d :: r) [a, b] = true ↔ a = c ∧ b = d := by
  simp [Lib.hasPrefix, List.isPrefixOf]
theorem pre_one (a b c : UInt8) : Lib.hasPrefix [c] [a, b] = false := by
  simp [Lib.hasPrefix, List.isPrefixOf]
theorem signN_cons2 (c d : UInt8) (r : List UInt8) : signN (c :: d :: r) = if isSign [c, d] then 2 else if isSign [c] then 1 else 0 := by
  unfold signN
  have e : (Lib.hasPrefix (c :: d :: r) [33, 61] || Lib.hasPrefix (c :: d :: r) [60, 61] || Lib.hasPrefix (c :: d :: r) [62, 61]) = isSign [c, d] := by
    rw [Bool.eq_iff_iff]
    simp only [Bool.or_eq_true, pre_two, sign_two]
    constructor
    · rintro ((⟨a, b⟩ | ⟨a, b⟩) | ⟨a, b⟩) <;> simp [← a, ← b]
    · rintro (⟨a, b⟩ | ⟨a, b⟩ | ⟨a, b⟩) <;> simp [a, b]
  rw [e]
  cases isSign [c, d] with
  | true => rfl
  | false =>
    simp only [Bool.false_eq_true, if_false]
    by_cases h : c ∈ signChars
    · rw [if_pos ((indexByte_iff _ _).2 h), if_pos ((sign_one c).2 h)]
    · rw [if_neg (fun h' => h ((indexByte_iff _ _).1 h')), if_neg (fun h' => h ((sign_one c).1 h'))]
theorem signN_cons1 (c : UInt8) : signN [c] = if isSign [c] then 1 else 0 := by
  unfold signN
  simp only [pre_one, Bool.or_false, Bool.false_eq_true, if_false]
  by_cases h : c ∈ signChars
  · rw [if_pos ((indexByte_iff _ _).2 h), if_pos ((sign_one c).2 h)]
  · rw [if_neg (fun h' => h ((indexByte_iff _ _).1 h')), if_neg (fun h' => h ((sign_one c).1 h'))]
theorem word_take (c : UInt8) (r : List UInt8) (n : Nat) (h1 : 1 ≤ n) (h : n ≤ (c :: r).length) : isWord ((c :: r).take n) = (isLetter c && decide (n ≤ runN isInner (c :: r))) := by
  obtain ⟨m, rfl⟩ : ∃ m, n = m + 1 := ⟨n - 1, by omega⟩
  have := all_take_iff isInner (c :: r) (m + 1) h
  rw [List.take_succ_cons] at this ⊢
  rw [isWord, isL_eq, isI_eq]
  congr 1
  rw [Bool.eq_iff_iff, this, decide_eq_true_iff]
theorem digits_take (c : UInt8) (r : List UInt8) (n : Nat) (h1 : 1 ≤ n) (h : n ≤ (c :: r).length) : isDigits ((c :: r).take n) = decide (n ≤ runN isDigit (c :: r)) := by
  obtain ⟨m, rfl⟩ : ∃ m, n = m + 1 := ⟨n - 1, by omega⟩
  have := all_take_iff isDigit (c :: r) (m + 1) h
  rw [List.take_succ_cons] at this ⊢
  rw [isDigits, isD_eq]
  rw [Bool.eq_iff_iff, Bool.and_eq_true, this, decide_eq_true_iff]
  simp
theorem run_zero (p : UInt8 → Bool) (c : UInt8) (r : List UInt8) (h : p c = false) : runN p (c :: r) = 0 := by simp [runN, List.takeWhile_cons, h]
theorem lng_raw (s : List UInt8) (f : Nat) (hf : s.length < f) : lngF s f 1 0 = rawLen s := by
  cases s with
  | nil =>
    obtain ⟨g, rfl⟩ : ∃ g, f = g + 1 := ⟨f - 1, by omega⟩
    rfl
  | cons c r =>
    have key : ∀ k, k ≤ (c :: r).length → (∀ n, 1 ≤ n → n ≤ (c :: r).length → goodN (c :: r) n = decide (n ≤ k)) → lngF (c :: r) f 1 0 = k := by
      intro k hk hg
      refine lngF_eq (c :: r) k hk (fun h0 => ?_) (fun n h1 h2 => ?_) (fun n h1 h2 => ?_) f 1 0 (by omega) (by omega) (fun h => by omega)
      · rw [hg k (by omega) hk]; simp
      · rw [hg n (by omega) h2]; simp; omega
      · rw [hg n (by omega) (by omega)]; simp; exact h2
    have nosign : (isLetter c = true ∨ isDigit c = true) → ∀ n, 1 ≤ n → isSign ((c :: r).take n) = false := by
      intro h n hn
      obtain ⟨m, rfl⟩ : ∃ m, n = m + 1 := ⟨n - 1, by omega⟩
      rw [List.take_succ_cons]
      cases hs : isSign (c :: r.take m) with
      | false => rfl
      | true =>
        obtain ⟨a, b⟩ := sign_head hs
        rcases h with h | h
        · rw [a] at h; cases h
        · rw [b] at h; cases h
    unfold rawLen
    by_cases hl : isLetter c = true
    · simp only [hl, if_true]
      refine key _ (runN_le _ _) fun n h1 h2 => ?_
      have hd : isDigit c = false := by
        cases hd : isDigit c with
        | false => rfl
        | true => rw [digit_not_letter hd] at hl; cases hl
      rw [goodN, word_take c r n h1 h2, digits_take c r n h1 h2, nosign (.inl hl) n h1, hl, run_zero _ c r hd]
      simp; omega
    · have hl : isLetter c = false := by simpa using hl
      simp only [hl, Bool.false_eq_true, if_false]
      by_cases hd : isDigit c = true
      · simp only [hd, if_true]
        refine key _ (runN_le _ _) fun n h1 h2 => ?_
        rw [goodN, word_take c r n h1 h2, digits_take c r n h1 h2, nosign (.inr hd) n h1, hl]
        simp
      · have hd : isDigit c = false := by simpa using hd
        simp only [hd, Bool.false_eq_true, if_false]
        have hg : ∀ n, 1 ≤ n → n ≤ (c :: r).length → goodN (c :: r) n = isSign ((c :: r).take n) := by
          intro n h1 h2
          rw [goodN, word_take c r n h1 h2, digits_take c r n h1 h2, hl, run_zero _ c r hd]
          simp; omega
        have long : ∀ n, 3 ≤ n → n ≤ (c :: r).length → isSign ((c :: r).take n) = false := by
          intro n h1 h2
          cases hs : isSign ((c :: r).take n) with
          | false => rfl
          | true =>
            have := sign_long hs
            rw [List.length_take] at this; omega
        cases r with
        | nil =>
          rw [signN_cons1]
          refine lngF_eq [c] _ (by split <;> simp) (fun h0 => ?_) (fun n h1 h2 => ?_) (fun n h1 h2 => ?_) f 1 0 (by omega) (by omega) (fun h => by omega)
          · split at h0
            · rename_i hs; rw [if_pos hs, hg 1 (by omega) (by simp)]; exact hs
            · exact absurd rfl h0
          · have : n = 1 := by simp at h2; omega
            subst this
            rw [hg 1 (by omega) (by simp)]
            split at h1
            · omega
            · rename_i hs; simpa using hs
          · exfalso; split at h2 <;> omega
        | cons d q =>
          rw [signN_cons2]
          refine lngF_eq (c :: d :: q) _ (by split; simp; split <;> simp) (fun h0 => ?_) (fun n h1 h2 => ?_) (fun n h1 h2 => ?_) f 1 0 (by omega) (by omega) (fun h => by omega)
          · split at h0
            · rename_i hs; rw [if_pos hs, hg 2 (by omega) (by simp)]; exact hs
            · rename_i hs2
              split at h0
              · rename_i hs; rw [if_neg hs2, if_pos hs, hg 1 (by omega) (by simp)]; exact hs
              · exact absurd rfl h0
          · by_cases h3 : 3 ≤ n
            · rw [hg n (by omega) h2, long n h3 h2]
            · rw [hg n (by omega) h2]
              split at h1
              · omega
              · rename_i hs2
                by_cases hn : n = 2
                · subst hn; simpa using hs2
                · have : n = 1 := by omega
                  subst this
                  split at h1
                  · omega
                  · rename_i hs; simpa using hs
          · exfalso; split at h2; omega; split at h2 <;> omega
section
variable {C : Cfg} (hC : CfgL C)
include hC
theorem e_longest (n : Nat) (s : List UInt8) (hp : List AObj) (hs : s.length < 4611686018427387904) : evalCall C (n + 3) F_r08_longest [.str s] hp = some (.int .i64 (rawLen s), hp, none) := by
  rw [e_longest_raw hC n s hp hs, lng_raw s C.L (by have := hC.L; omega)]
end
end Go.Proofs.YtiabiflaecidoaaDoor
end
section
/-
  The reference's Tokens is the scan.
-/
namespace Go.Proofs.YtiabiflaecidoaaDoor
open Go Go.Proofs.YtiabiflaecidoaaDoor.Abs
set_option linter.all false

/-! ## plain -/
theorem scan_skip : ∀ (k : Nat) (l : List UInt8) (st : St), k ≤ l.length → st.wrong = false → scan l { st with skip := k } = scan (l.drop k) { st with skip := 0 }
  | 0, l, st, _, _ => rfl
  | k + 1, [], st, h, _ => by simp at h
  | k + 1, c :: r, st, h, hw => by
    have e := step_skip c r { st with skip := k + 1 } (by simp)
    rw [scan, e, if_neg (by simp [hw]), List.drop_succ_cons]
    exact scan_skip k r st (by simpa using h) hw
def skipN (l : List UInt8) : Nat := (l.takeWhile fun c => decide ((c.toNat : Int) ≠ 10)).length
/-- what is told of the end of a scan -/
def endV (st : St) : List Tok × Int × Int :=
  if st.wrong = true then ([], st.line, 8) else ((if st.full then st.toks ++ [⟨4, [], 0, st.line⟩] else st.toks) ++ [⟨0, [], 0, st.line⟩], 0, 0)
theorem scan_comm : ∀ (l : List UInt8) (st : St), st.comment = false → st.skip = 0 → st.wrong = false → endV (scan l { st with comment := true }) = endV (scan (l.drop (skipN l)) st)
  | [], st, _, _, _ => rfl
  | c :: r, st, hc, hs, hw => by
    by_cases h : c.toNat = 10
    · have e : skipN (c :: r) = 0 := by simp [skipN, List.takeWhile_cons, h]
      rw [e, List.drop_zero, scan, scan, step_line c r _ hs h, step_line c r { st with comment := true } hs h]
    · have e : skipN (c :: r) = skipN r + 1 := by
        have : (c.toNat : Int) ≠ 10 := by omega
        simp [skipN, List.takeWhile_cons, this]
      rw [e, List.drop_succ_cons, scan, step_pass c r { st with comment := true } hs h (.inl rfl), if_neg (by simp [hw])]
      exact scan_comm r st hc hs hw
theorem skipN_line (c : UInt8) (r : List UInt8) (h : (c.toNat : Int) = 10) : skipN (c :: r) = 0 := by simp [skipN, List.takeWhile_cons, h]
theorem skipN_cons (c : UInt8) (r : List UInt8) (h : (c.toNat : Int) ≠ 10) : skipN (c :: r) = skipN r + 1 := by simp [skipN, List.takeWhile_cons, h]
theorem eq_true_of {a b : Int} (h : a = b) : decide (a = b) = true := by simp [h]
theorem eq_false_of {a b : Int} (h : ¬ a = b) : decide (a = b) = false := by simp [h]
/-! ## operations -/
theorem lit_one (e : TypeId) (k : Nat) (cs : List AV) (hp : List AObj) (h1 : cs.length = k) (h2 : cs.all AV.noId1 = true) : litV e k [.agg cs] hp = some (.own k [cs.map AV.ro], hp) := by
  simp [litV, AV.cells, h1, h2]
theorem app_own (k b : Nat) (r r' : List (List AV)) (hp : List AObj) (h : r'.all (fun x => x.all AV.noId1) = true) (hb : (r.length + r'.length) * b ≤ 140737488355328) : appV k b (.own k r) (.lst k r') hp = some (.own k (r ++ r')) := by
  simp only [appV, rowsOf]
  rw [if_pos ⟨trivial, trivial, h, hb⟩]
theorem fl_kl (k l : Int) : fill [(.int .i64 0), (.str []), (.int .i64 0), (.int .i64 0)] [(0, 1, .int .i64 k), (3, 1, .int .i64 l)] = some (tokRow ⟨k, [], 0, l⟩) := rfl
theorem fl_ktl (k l : Int) (t : List UInt8) : fill [(.int .i64 0), (.str []), (.int .i64 0), (.int .i64 0)] [(0, 1, .int .i64 k), (1, 1, .str t), (3, 1, .int .i64 l)] = some (tokRow ⟨k, t, 0, l⟩) := rfl
theorem fl_knl (k n l : Int) : fill [(.int .i64 0), (.str []), (.int .i64 0), (.int .i64 0)] [(0, 1, .int .i64 k), (2, 1, .int .i64 n), (3, 1, .int .i64 l)] = some (tokRow ⟨k, [], n, l⟩) := rfl
theorem tokRow_id (t : Tok) : (tokRow t).all AV.noId1 = true := rfl
theorem lit_tok (e : TypeId) (t : Tok) (hp : List AObj) : litV e 4 [.agg (tokRow t)] hp = some (.own 4 [tokRow t], hp) := lit_one e 4 (tokRow t) hp rfl rfl
theorem app_tok (ts : List Tok) (t : Tok) (hp : List AObj) (h : ts.length ≤ 100000) : appV 4 40 (.own 4 (tokRows ts)) (.lst 4 [tokRow t]) hp = some (.own 4 (tokRows (ts ++ [t]))) := by
  rw [app_own 4 40 _ _ _ rfl (by simp [tokRows]; omega)]
  simp [tokRows]
theorem frz2_own (bs : Nat) (hp : List AObj) (k : Nat) (r : List (List AV)) : frz2 bs hp (.own k r) = some (.lst k r) := rfl
theorem sl_from (s : List UInt8) (n : Nat) (h : n ≤ s.length) : sliceVal .str (.str s) (some (.int .i64 n)) none = some (.str (s.drop n)) := by
  simp [sliceVal, bound, h]
theorem sl_mid (s : List UInt8) (a b : Nat) (h : a ≤ b) (h2 : b ≤ s.length) : sliceVal .str (.str s) (some (.int .i64 a)) (some (.int .i64 b)) = some (.str ((s.take b).drop a)) := by
  simp [sliceVal, bound, h, h2]

section
variable {C : Cfg} (hC : CfgL C)
include hC
theorem e_rcomm (n0 : Nat) (hp0 : List AObj) (kn : AV → AV → AV → AV → AV → AV → List AObj → Eff → KR) (s : List UInt8) (hs : s.length ≤ 20000) (y5 x6 y6 x7 : AV) : ∀ (m i : Nat) (hp : List AObj), s.length - i < m → i ≤ s.length →
    d_r08_Tokens_l2 C.G (evalCall C n0) C.L hp0 kn m (.str s) y5 x6 y6 x7 (.int .i64 i) hp none = kn (.str s) y5 x6 y6 x7 (.int .i64 (i + skipN (s.drop i) : Nat)) hp none
  | 0, _, _, h, _ => by omega
  | m + 1, i, hp, h, hi => by
    by_cases hl : i < s.length
    · have hl' : (i : Int) < (s.length : Int) := by omega
      have hd := List.drop_eq_getElem_cons hl
      simp only [d_r08_Tokens_l2, optK_s, opt2_s, opt3_s, ifK_b, guardK_t, guardK_f, guardB_bt, guardB_bf, pickV_t, pickV_f, gif_t, guardK_pure, ro_gif, pick_and, pick_or', grp_and, grp_or, grp_tt, grp_ft, grp_tf, grp_ff, letK_e, ro_bool, ro_int, ro_str, ro_lst, ro_own, ro_agg, ro_tup, ro_ptr, ro_map, ro_ref, ro_fn, ro_undef, nm_bool, nm_int, nm_str, nm_lst, nm_own, nm_agg, nm_ptr, nm_map, nm_fn, b_add, b_sub, b_mul, b_eq, b_ne, b_lt, b_le, b_gt, b_ge, s_eq, s_ne, q_int, q_str, q_bool, q_nil, q_if, b_eqS, b_neS, b_eqB, b_neB, Option.map_some, u_not, u_neg, l_str, l_lst, c_int, x_tup, after_none, fin_bool, fin_int, fin_str, fin_lst, fin_own, fin_tup, frz2_int, frz2_str, frz2_bool, frz2_lst, fa_ref, fa_ptr, ldc_ref, hl', decide_true, idx_str s i hl, Bool.true_and]
      by_cases hc : (s[i].toNat : Int) = 10
      · rw [hd, skipN_line _ _ hc]
        simp [hc]
      · simp only [hc, ne_eq, not_false_eq_true, decide_true, if_true, wrap_nat i (by omega)]
        rw [e_rcomm n0 hp0 kn s hs y5 x6 y6 x7 m (i + 1) hp (by omega) (by omega), hd, skipN_cons _ _ hc]
        congr 3; omega
    · have hl' : ¬ (i : Int) < (s.length : Int) := by omega
      have : s.drop i = [] := List.drop_of_length_le (by omega)
      simp [d_r08_Tokens_l2, optK_s, opt2_s, opt3_s, ifK_b, guardK_t, guardK_f, guardB_bt, guardB_bf, pickV_t, pickV_f, gif_t, guardK_pure, ro_gif, pick_and, pick_or', grp_and, grp_or, grp_tt, grp_ft, grp_tf, grp_ff, letK_e, ro_bool, ro_int, ro_str, ro_lst, ro_own, ro_agg, ro_tup, ro_ptr, ro_map, ro_ref, ro_fn, ro_undef, nm_bool, nm_int, nm_str, nm_lst, nm_own, nm_agg, nm_ptr, nm_map, nm_fn, b_add, b_sub, b_mul, b_eq, b_ne, b_lt, b_le, b_gt, b_ge, s_eq, s_ne, q_int, q_str, q_bool, q_nil, q_if, b_eqS, b_neS, b_eqB, b_neB, Option.map_some, u_not, u_neg, l_str, l_lst, c_int, x_tup, after_none, fin_bool, fin_int, fin_str, fin_lst, fin_own, fin_tup, frz2_int, frz2_str, frz2_bool, frz2_lst, fa_ref, fa_ptr, ldc_ref, hl', this, skipN]
def vT (r : List Tok × Int × Int) : AV := .tup [.lst 4 (tokRows r.1), .int .i64 r.2.1, .int .i64 r.2.2]
theorem e_rj6 (n0 : Nat) (hp0 hp : List AObj) (out : List Tok) (line : Int) (op : Bool) (ho : out.length ≤ 20000) :
    d_r08_Tokens_j6 C.G (evalCall C n0) C.L hp0 (.own 4 (tokRows out)) (.int .i64 line) (.bool op) hp none = some (vT (endV ⟨line, op, false, 0, out, false⟩), hp0, none) := by
  cases op with
  | true =>
    simp only [d_r08_Tokens_j6, d_r08_Tokens_j7, optK_s, opt2_s, opt3_s, ifK_b, guardK_t, guardK_f, guardB_bt, guardB_bf, pickV_t, pickV_f, gif_t, guardK_pure, ro_gif, pick_and, pick_or', grp_and, grp_or, grp_tt, grp_ft, grp_tf, grp_ff, letK_e, ro_bool, ro_int, ro_str, ro_lst, ro_own, ro_agg, ro_tup, ro_ptr, ro_map, ro_ref, ro_fn, ro_undef, nm_bool, nm_int, nm_str, nm_lst, nm_own, nm_agg, nm_ptr, nm_map, nm_fn, b_add, b_sub, b_mul, b_eq, b_ne, b_lt, b_le, b_gt, b_ge, s_eq, s_ne, q_int, q_str, q_bool, q_nil, q_if, b_eqS, b_neS, b_eqB, b_neB, Option.map_some, u_not, u_neg, l_str, l_lst, c_int, x_tup, after_none, fin_bool, fin_int, fin_str, fin_lst, fin_own, fin_tup, frz2_int, frz2_str, frz2_bool, frz2_lst, fa_ref, fa_ptr, ldc_ref, if_true, fl_kl, lit_tok, app_tok out _ _ (show out.length ≤ 100000 by omega), app_tok (out ++ _) _ _ (show (out ++ [_]).length ≤ 100000 by simp; omega)]
    simp [endV, vT, optK_s, opt2_s, opt3_s, ifK_b, guardK_t, guardK_f, guardB_bt, guardB_bf, pickV_t, pickV_f, gif_t, guardK_pure, ro_gif, pick_and, pick_or', grp_and, grp_or, grp_tt, grp_ft, grp_tf, grp_ff, letK_e, ro_bool, ro_int, ro_str, ro_lst, ro_own, ro_agg, ro_tup, ro_ptr, ro_map, ro_ref, ro_fn, ro_undef, nm_bool, nm_int, nm_str, nm_lst, nm_own, nm_agg, nm_ptr, nm_map, nm_fn, b_add, b_sub, b_mul, b_eq, b_ne, b_lt, b_le, b_gt, b_ge, s_eq, s_ne, q_int, q_str, q_bool, q_nil, q_if, b_eqS, b_neS, b_eqB, b_neB, Option.map_some, u_not, u_neg, l_str, l_lst, c_int, x_tup, after_none, fin_bool, fin_int, fin_str, fin_lst, fin_own, fin_tup, frz2_int, frz2_str, frz2_bool, frz2_lst, fa_ref, fa_ptr, ldc_ref]
  | false =>
    simp only [d_r08_Tokens_j6, d_r08_Tokens_j7, optK_s, opt2_s, opt3_s, ifK_b, guardK_t, guardK_f, guardB_bt, guardB_bf, pickV_t, pickV_f, gif_t, guardK_pure, ro_gif, pick_and, pick_or', grp_and, grp_or, grp_tt, grp_ft, grp_tf, grp_ff, letK_e, ro_bool, ro_int, ro_str, ro_lst, ro_own, ro_agg, ro_tup, ro_ptr, ro_map, ro_ref, ro_fn, ro_undef, nm_bool, nm_int, nm_str, nm_lst, nm_own, nm_agg, nm_ptr, nm_map, nm_fn, b_add, b_sub, b_mul, b_eq, b_ne, b_lt, b_le, b_gt, b_ge, s_eq, s_ne, q_int, q_str, q_bool, q_nil, q_if, b_eqS, b_neS, b_eqB, b_neB, Option.map_some, u_not, u_neg, l_str, l_lst, c_int, x_tup, after_none, fin_bool, fin_int, fin_str, fin_lst, fin_own, fin_tup, frz2_int, frz2_str, frz2_bool, frz2_lst, fa_ref, fa_ptr, ldc_ref, Bool.false_eq_true, if_false, fl_kl, lit_tok, app_tok out _ _ (show out.length ≤ 100000 by omega)]
    simp [endV, vT, optK_s, opt2_s, opt3_s, ifK_b, guardK_t, guardK_f, guardB_bt, guardB_bf, pickV_t, pickV_f, gif_t, guardK_pure, ro_gif, pick_and, pick_or', grp_and, grp_or, grp_tt, grp_ft, grp_tf, grp_ff, letK_e, ro_bool, ro_int, ro_str, ro_lst, ro_own, ro_agg, ro_tup, ro_ptr, ro_map, ro_ref, ro_fn, ro_undef, nm_bool, nm_int, nm_str, nm_lst, nm_own, nm_agg, nm_ptr, nm_map, nm_fn, b_add, b_sub, b_mul, b_eq, b_ne, b_lt, b_le, b_gt, b_ge, s_eq, s_ne, q_int, q_str, q_bool, q_nil, q_if, b_eqS, b_neS, b_eqB, b_neB, Option.map_some, u_not, u_neg, l_str, l_lst, c_int, x_tup, after_none, fin_bool, fin_int, fin_str, fin_lst, fin_own, fin_tup, frz2_int, frz2_str, frz2_bool, frz2_lst, fa_ref, fa_ptr, ldc_ref]
/-- the token at the head, as the reference takes it -/
theorem tok_cases (c : UInt8) (r : List UInt8) :
    (isLetter c = true ∧ rawLen (c :: r) = runN isInner (c :: r) ∧ 1 ≤ rawLen (c :: r) ∧ isWord ((c :: r).take (rawLen (c :: r))) = true ∧ isDigits ((c :: r).take (rawLen (c :: r))) = false ∧ tokenF (c :: r) = (⟨1, (c :: r).take (rawLen (c :: r)), 0, 0⟩, rawLen (c :: r))) ∨
    (isWord ((c :: r).take (rawLen (c :: r))) = false ∧ 1 ≤ rawLen (c :: r) ∧ isDigits ((c :: r).take (rawLen (c :: r))) = true ∧ tokenF (c :: r) = if (numF ((c :: r).take (rawLen (c :: r)))).2 then (⟨2, [], (numF ((c :: r).take (rawLen (c :: r)))).1, 0⟩, rawLen (c :: r)) else (⟨0, [], 0, 0⟩, 0)) ∨
    (isWord ((c :: r).take (rawLen (c :: r))) = false ∧ isDigits ((c :: r).take (rawLen (c :: r))) = false ∧ tokenF (c :: r) = (⟨3, (c :: r).take (rawLen (c :: r)), 0, 0⟩, rawLen (c :: r))) := by
  by_cases hl : isLetter c = true
  · left
    have hr : rawLen (c :: r) = runN isInner (c :: r) := by simp [rawLen, hl]
    have h1 : 1 ≤ runN isInner (c :: r) := runN_pos _ _ _ (by simp [isInner, hl])
    have h2 := runN_le isInner (c :: r)
    have hd : isDigit c = false := by
      cases hd : isDigit c with
      | false => rfl
      | true => rw [digit_not_letter hd] at hl; cases hl
    refine ⟨hl, hr, by omega, ?_, ?_, by rw [hr]; simp [tokenF, hl]⟩
    · rw [hr, word_take c r _ h1 h2, hl]; simp
    · rw [hr, digits_take c r _ h1 h2, run_zero _ c r hd]; simp; omega
  · have hl : isLetter c = false := by simpa using hl
    right
    by_cases hd : isDigit c = true
    · left
      have hr : rawLen (c :: r) = runN isDigit (c :: r) := by simp [rawLen, hl, hd]
      have h1 : 1 ≤ runN isDigit (c :: r) := runN_pos _ _ _ hd
      have h2 := runN_le isDigit (c :: r)
      refine ⟨?_, by omega, ?_, by rw [hr]; simp [tokenF, hl, hd]⟩
      · rw [hr, word_take c r _ h1 h2, hl]; simp
      · rw [hr, digits_take c r _ h1 h2]; simp
    · have hd : isDigit c = false := by simpa using hd
      right
      have hr : rawLen (c :: r) = signN (c :: r) := by simp [rawLen, hl, hd]
      have h2 := signN_le (c :: r)
      refine ⟨?_, ?_, by rw [hr]; simp [tokenF, hl, hd]⟩
      · by_cases h1 : 1 ≤ rawLen (c :: r)
        · rw [word_take c r _ h1 (by omega), hl]; simp
        · rw [show rawLen (c :: r) = 0 by omega]; rfl
      · by_cases h1 : 1 ≤ rawLen (c :: r)
        · rw [digits_take c r _ h1 (by omega), run_zero _ c r hd]; simp; omega
        · rw [show rawLen (c :: r) = 0 by omega]; rfl
theorem raw_le (l : List UInt8) : rawLen l ≤ l.length := by
  cases l with
  | nil => simp [rawLen]
  | cons c r =>
    simp only [rawLen]
    split
    · exact runN_le _ _
    · split
      · exact runN_le _ _
      · exact signN_le _
theorem vT_bad (hp0 hp : List AObj) (line : Int) : some (finK false hp0 (.tup [(AV.nm (.own 4 [])), (AV.nm (.int .i64 line)), (AV.nm (.int .i64 8))]) hp none) = some (vT ([], line, 8), hp0, none) := by
  simp [optK_s, opt2_s, opt3_s, ifK_b, guardK_t, guardK_f, guardB_bt, guardB_bf, pickV_t, pickV_f, gif_t, guardK_pure, ro_gif, pick_and, pick_or', grp_and, grp_or, grp_tt, grp_ft, grp_tf, grp_ff, letK_e, ro_bool, ro_int, ro_str, ro_lst, ro_own, ro_agg, ro_tup, ro_ptr, ro_map, ro_ref, ro_fn, ro_undef, nm_bool, nm_int, nm_str, nm_lst, nm_own, nm_agg, nm_ptr, nm_map, nm_fn, b_add, b_sub, b_mul, b_eq, b_ne, b_lt, b_le, b_gt, b_ge, s_eq, s_ne, q_int, q_str, q_bool, q_nil, q_if, b_eqS, b_neS, b_eqB, b_neB, Option.map_some, u_not, u_neg, l_str, l_lst, c_int, x_tup, after_none, fin_bool, fin_int, fin_str, fin_lst, fin_own, fin_tup, frz2_int, frz2_str, frz2_bool, frz2_lst, fa_ref, fa_ptr, ldc_ref, vT, tokRows]
theorem e_rj5 (n0 : Nat) (hp0 h : List AObj) (kn : AV → AV → AV → AV → AV → AV → List AObj → Eff → KR) (s : List UInt8) (out : List Tok) (line : Int) (i n : Nat) (t : Tok) (T : TypeId) (ho : out.length ≤ 20000) (hi : i + n ≤ 20000) :
    d_r08_Tokens_j5 C.G (evalCall C n0) C.L hp0 kn (.str s) (.own 4 (tokRows out)) (.int .i64 line) (.int .i64 line) (.int .i64 i) (.int .i64 n) (.ptr h.length 0) (h ++ [.cells (tokRow t) T]) none =
      if n = 0 then some (vT ([], line, 8), hp0, none) else kn (.str s) (.own 4 (tokRows (out ++ [t]))) (.int .i64 line) (.int .i64 line) (.bool true) (.int .i64 (i + n : Nat)) (h ++ [.cells (tokRow t) T]) none := by
  have hw : IntKind.i64.wrap ((i : Int) + n) = ((i + n : Nat) : Int) := by rw [i64_in (by omega) (by omega)]; omega
  by_cases hn : n = 0
  · subst hn
    simp only [d_r08_Tokens_j5, optK_s, opt2_s, opt3_s, ifK_b, guardK_t, guardK_f, guardB_bt, guardB_bf, pickV_t, pickV_f, gif_t, guardK_pure, ro_gif, pick_and, pick_or', grp_and, grp_or, grp_tt, grp_ft, grp_tf, grp_ff, letK_e, ro_bool, ro_int, ro_str, ro_lst, ro_own, ro_agg, ro_tup, ro_ptr, ro_map, ro_ref, ro_fn, ro_undef, nm_bool, nm_int, nm_str, nm_lst, nm_own, nm_agg, nm_ptr, nm_map, nm_fn, b_add, b_sub, b_mul, b_eq, b_ne, b_lt, b_le, b_gt, b_ge, s_eq, s_ne, q_int, q_str, q_bool, q_nil, q_if, b_eqS, b_neS, b_eqB, b_neB, Option.map_some, u_not, u_neg, l_str, l_lst, c_int, x_tup, after_none, fin_bool, fin_int, fin_str, fin_lst, fin_own, fin_tup, frz2_int, frz2_str, frz2_bool, frz2_lst, fa_ref, fa_ptr, ldc_ref, Int.ofNat_zero, decide_true, if_true]
    rfl
  · have : ¬ (n : Int) = 0 := by omega
    simp only [d_r08_Tokens_j5, optK_s, opt2_s, opt3_s, ifK_b, ro_own, b_add, b_eq, eq_false_of this, Bool.false_eq_true, if_false, lda_last 4 h (tokRow t) T 0 (by simp [tokRow]), List.drop_zero, tokRow_take, tokRow_ro, lit_tok, ro_own, app_tok out t _ (show out.length ≤ 100000 by omega), hw, if_neg hn]
theorem e_rj4 (n0 : Nat) (hp0 h : List AObj) (kn : AV → AV → AV → AV → AV → AV → List AObj → Eff → KR) (s : List UInt8) (out : List Tok) (k line : Int) (i n : Nat) (text : List UInt8) (T : TypeId) (ho : out.length ≤ 20000) (hi : i + n ≤ 20000) (ht : text.length ≤ 20000) (hJ : hp0.length ≤ h.length) :
    d_r08_Tokens_j4 C.G (evalCall C (n0 + 3)) C.L hp0 kn (.str s) (.own 4 (tokRows out)) (.int .i64 line) (.int .i64 line) (.int .i64 i) (.int .i64 n) (.ptr h.length 0) (h ++ [.cells (tokRow ⟨k, text, 0, line⟩) T]) none =
      if isDigits text = true then (if (numR text).2 = true then (if n = 0 then some (vT ([], line, 8), hp0, none) else kn (.str s) (.own 4 (tokRows (out ++ [⟨2, [], (numR text).1, line⟩]))) (.int .i64 line) (.int .i64 line) (.bool true) (.int .i64 (i + n : Nat)) (h ++ [.cells (tokRow ⟨2, [], (numR text).1, line⟩) T]) none)
        else some (vT ([], line, 8), hp0, none))
      else if n = 0 then some (vT ([], line, 8), hp0, none) else kn (.str s) (.own 4 (tokRows (out ++ [⟨k, text, 0, line⟩]))) (.int .i64 line) (.int .i64 line) (.bool true) (.int .i64 (i + n : Nat)) (h ++ [.cells (tokRow ⟨k, text, 0, line⟩) T]) none := by
  have hl : ldcVal (h ++ [.cells (tokRow ⟨k, text, 0, line⟩) T]) (.ptr h.length (0 + 1)) = some (.str text) := ldc_last h _ T 1
  have hst : ∀ v : Tok, stV hp0.length 4 (.ptr h.length 0) (.agg (tokRow v)) (h ++ [.cells (tokRow ⟨k, text, 0, line⟩) T]) none = some (h ++ [.cells (tokRow v) T], none) := fun v => stV_last hp0.length 4 h _ T 0 _ none rfl (by simp [tokRow]) rfl hJ
  simp only [d_r08_Tokens_j4, optK_s, opt2_s, opt3_s, ifK_b, guardK_t, guardK_f, guardB_bt, guardB_bf, pickV_t, pickV_f, gif_t, guardK_pure, ro_gif, pick_and, pick_or', grp_and, grp_or, grp_tt, grp_ft, grp_tf, grp_ff, letK_e, ro_bool, ro_int, ro_str, ro_lst, ro_own, ro_agg, ro_tup, ro_ptr, ro_map, ro_ref, ro_fn, ro_undef, nm_bool, nm_int, nm_str, nm_lst, nm_own, nm_agg, nm_ptr, nm_map, nm_fn, b_add, b_sub, b_mul, b_eq, b_ne, b_lt, b_le, b_gt, b_ge, s_eq, s_ne, q_int, q_str, q_bool, q_nil, q_if, b_eqS, b_neS, b_eqB, b_neB, Option.map_some, u_not, u_neg, l_str, l_lst, c_int, x_tup, after_none, fin_bool, fin_int, fin_str, fin_lst, fin_own, fin_tup, frz2_int, frz2_str, frz2_bool, frz2_lst, fa_ref, fa_ptr, ldc_ref, hl, e_digits hC (n0 + 1) text _ (by omega), e_rnumber hC (n0 + 1) text _ (by omega)]
  cases hd : isDigits text with
  | true =>
    simp only [if_true, List.getElem?_cons_zero, List.getElem?_cons_succ, optK_s, opt2_s, opt3_s, ifK_b, guardK_t, guardK_f, guardB_bt, guardB_bf, pickV_t, pickV_f, gif_t, guardK_pure, ro_gif, pick_and, pick_or', grp_and, grp_or, grp_tt, grp_ft, grp_tf, grp_ff, letK_e, ro_bool, ro_int, ro_str, ro_lst, ro_own, ro_agg, ro_tup, ro_ptr, ro_map, ro_ref, ro_fn, ro_undef, nm_bool, nm_int, nm_str, nm_lst, nm_own, nm_agg, nm_ptr, nm_map, nm_fn, b_add, b_sub, b_mul, b_eq, b_ne, b_lt, b_le, b_gt, b_ge, s_eq, s_ne, q_int, q_str, q_bool, q_nil, q_if, b_eqS, b_neS, b_eqB, b_neB, Option.map_some, u_not, u_neg, l_str, l_lst, c_int, x_tup, after_none, fin_bool, fin_int, fin_str, fin_lst, fin_own, fin_tup, frz2_int, frz2_str, frz2_bool, frz2_lst, fa_ref, fa_ptr, ldc_ref]
    cases hn : (numR text).2 with
    | true =>
      simp only [Bool.not_true, Bool.false_eq_true, if_false, if_true, fl_knl, optK_s, opt2_s, opt3_s, ifK_b, guardK_t, guardK_f, guardB_bt, guardB_bf, pickV_t, pickV_f, gif_t, guardK_pure, ro_gif, pick_and, pick_or', grp_and, grp_or, grp_tt, grp_ft, grp_tf, grp_ff, letK_e, ro_bool, ro_int, ro_str, ro_lst, ro_own, ro_agg, ro_tup, ro_ptr, ro_map, ro_ref, ro_fn, ro_undef, nm_bool, nm_int, nm_str, nm_lst, nm_own, nm_agg, nm_ptr, nm_map, nm_fn, b_add, b_sub, b_mul, b_eq, b_ne, b_lt, b_le, b_gt, b_ge, s_eq, s_ne, q_int, q_str, q_bool, q_nil, q_if, b_eqS, b_neS, b_eqB, b_neB, Option.map_some, u_not, u_neg, l_str, l_lst, c_int, x_tup, after_none, fin_bool, fin_int, fin_str, fin_lst, fin_own, fin_tup, frz2_int, frz2_str, frz2_bool, frz2_lst, fa_ref, fa_ptr, ldc_ref, hst]
      exact e_rj5 hC (n0 + 3) hp0 h kn s out line i n _ T ho hi
    | false =>
      simp only [Bool.not_false, if_true, Bool.false_eq_true, if_false]
      rfl
  | false =>
    simp only [Bool.false_eq_true, if_false]
    exact e_rj5 hC (n0 + 3) hp0 h kn s out line i n _ T ho hi
theorem e_rtok_loop (n0 : Nat) (hp0 : List AObj) (s : List UInt8) (hs : s.length ≤ 20000) : ∀ (m i : Nat) (out : List Tok) (line : Int) (op : Bool) (hp : List AObj), s.length - i < m → i ≤ s.length → out.length ≤ i → 1 ≤ line → line ≤ i + 1 → hp0.length ≤ hp.length →
    d_r08_Tokens_l0 C.G (evalCall C (n0 + 3)) C.L hp0 (d_r08_Tokens_j6 C.G (evalCall C (n0 + 3)) C.L hp0) m (.str s) (.own 4 (tokRows out)) (.int .i64 line) (.int .i64 line) (.bool op) (.int .i64 i) hp none =
      some (vT (endV (scan (s.drop i) ⟨line, op, false, 0, out, false⟩)), hp0, none)
  | 0, _, _, _, _, _, h, _, _, _, _, _ => by omega
  | m + 1, i, out, line, op, hp, h, hi, ho, hl1, hl2, hJ => by
    have ih := e_rtok_loop n0 hp0 s hs m
    by_cases hl : i < s.length
    · have hl' : (i : Int) < (s.length : Int) := by omega
      have hd := List.drop_eq_getElem_cons hl
      generalize hc0 : s[i] = c at *
      have hcL := hC.L
      have hw := wrap_nat i (by omega)
      by_cases h32 : (c.toNat : Int) = 32
      · rw [hd, scan, step_pass c _ _ rfl (by omega) (.inr (.inl (by omega))), if_neg (by simp), ← ih (i + 1) out line op hp (by omega) (by omega) (by omega) hl1 (by omega) hJ]
        simp only [d_r08_Tokens_l0, d_r08_Tokens_j1, optK_s, opt2_s, opt3_s, ifK_b, guardK_t, guardK_f, guardB_bt, guardB_bf, pickV_t, pickV_f, gif_t, guardK_pure, ro_gif, pick_and, pick_or', grp_and, grp_or, grp_tt, grp_ft, grp_tf, grp_ff, letK_e, ro_bool, ro_int, ro_str, ro_lst, ro_own, ro_agg, ro_tup, ro_ptr, ro_map, ro_ref, ro_fn, ro_undef, nm_bool, nm_int, nm_str, nm_lst, nm_own, nm_agg, nm_ptr, nm_map, nm_fn, b_add, b_sub, b_mul, b_eq, b_ne, b_lt, b_le, b_gt, b_ge, s_eq, s_ne, q_int, q_str, q_bool, q_nil, q_if, b_eqS, b_neS, b_eqB, b_neB, Option.map_some, u_not, u_neg, l_str, l_lst, c_int, x_tup, after_none, fin_bool, fin_int, fin_str, fin_lst, fin_own, fin_tup, frz2_int, frz2_str, frz2_bool, frz2_lst, fa_ref, fa_ptr, ldc_ref, hl', decide_true, if_true, idx_str s i hl, hc0, eq_true_of h32, hw]
      by_cases h9 : (c.toNat : Int) = 9
      · rw [hd, scan, step_pass c _ _ rfl (by omega) (.inr (.inr (by omega))), if_neg (by simp), ← ih (i + 1) out line op hp (by omega) (by omega) (by omega) hl1 (by omega) hJ]
        simp only [d_r08_Tokens_l0, d_r08_Tokens_j1, optK_s, opt2_s, opt3_s, ifK_b, guardK_t, guardK_f, guardB_bt, guardB_bf, pickV_t, pickV_f, gif_t, guardK_pure, ro_gif, pick_and, pick_or', grp_and, grp_or, grp_tt, grp_ft, grp_tf, grp_ff, letK_e, ro_bool, ro_int, ro_str, ro_lst, ro_own, ro_agg, ro_tup, ro_ptr, ro_map, ro_ref, ro_fn, ro_undef, nm_bool, nm_int, nm_str, nm_lst, nm_own, nm_agg, nm_ptr, nm_map, nm_fn, b_add, b_sub, b_mul, b_eq, b_ne, b_lt, b_le, b_gt, b_ge, s_eq, s_ne, q_int, q_str, q_bool, q_nil, q_if, b_eqS, b_neS, b_eqB, b_neB, Option.map_some, u_not, u_neg, l_str, l_lst, c_int, x_tup, after_none, fin_bool, fin_int, fin_str, fin_lst, fin_own, fin_tup, frz2_int, frz2_str, frz2_bool, frz2_lst, fa_ref, fa_ptr, ldc_ref, hl', decide_true, if_true, idx_str s i hl, hc0, eq_false_of h32, Bool.false_eq_true, if_false, eq_true_of h9, hw]
      by_cases h35 : (c.toNat : Int) = 35
      · have hk : 1 ≤ skipN (c :: s.drop (i + 1)) := by rw [skipN_cons _ _ (by omega)]; omega
        have hk2 : skipN (c :: s.drop (i + 1)) ≤ (c :: s.drop (i + 1)).length := by
          unfold skipN; exact (List.takeWhile_prefix _).length_le
        have hk3 : (c :: s.drop (i + 1)).length = s.length - i := by simp; omega
        have e2 := scan_comm (c :: s.drop (i + 1)) ⟨line, op, false, 0, out, false⟩ rfl rfl rfl
        rw [hd, scan, step_hash c _ _ rfl rfl (by omega), if_neg (by simp)]
        rw [scan, step_pass c _ { (⟨line, op, false, 0, out, false⟩ : St) with comment := true } rfl (by omega) (.inl rfl), if_neg (by simp)] at e2
        have hdd : (c :: s.drop (i + 1)).drop (skipN (c :: s.drop (i + 1))) = s.drop (i + skipN (c :: s.drop (i + 1))) := by rw [← hd, List.drop_drop]
        rw [e2, hdd, ← ih (i + skipN (c :: s.drop (i + 1))) out line op hp (by omega) (by omega) (by omega) hl1 (by omega) hJ]
        simp only [d_r08_Tokens_l0, d_r08_Tokens_j1, optK_s, opt2_s, opt3_s, ifK_b, guardK_t, guardK_f, guardB_bt, guardB_bf, pickV_t, pickV_f, gif_t, guardK_pure, ro_gif, pick_and, pick_or', grp_and, grp_or, grp_tt, grp_ft, grp_tf, grp_ff, letK_e, ro_bool, ro_int, ro_str, ro_lst, ro_own, ro_agg, ro_tup, ro_ptr, ro_map, ro_ref, ro_fn, ro_undef, nm_bool, nm_int, nm_str, nm_lst, nm_own, nm_agg, nm_ptr, nm_map, nm_fn, b_add, b_sub, b_mul, b_eq, b_ne, b_lt, b_le, b_gt, b_ge, s_eq, s_ne, q_int, q_str, q_bool, q_nil, q_if, b_eqS, b_neS, b_eqB, b_neB, Option.map_some, u_not, u_neg, l_str, l_lst, c_int, x_tup, after_none, fin_bool, fin_int, fin_str, fin_lst, fin_own, fin_tup, frz2_int, frz2_str, frz2_bool, frz2_lst, fa_ref, fa_ptr, ldc_ref, hl', decide_true, if_true, idx_str s i hl, hc0, eq_false_of h32, Bool.false_eq_true, if_false, eq_false_of h9, eq_true_of h35]
        rw [e_rcomm hC (n0 + 3) hp0 _ s hs _ _ _ _ C.L i hp (by omega) (by omega), hd]
      by_cases h10 : (c.toNat : Int) = 10
      · have hwl : IntKind.i64.wrap (line + 1) = line + 1 := i64_in (by omega) (by omega)
        rw [hd, scan, step_line c _ _ rfl (by omega), if_neg (by simp)]
        cases op with
        | true =>
          rw [show (if (⟨line, true, false, 0, out, false⟩ : St).full then out ++ [(⟨4, [], 0, line⟩ : Tok)] else out) = out ++ [⟨4, [], 0, line⟩] from rfl]
          refine Eq.trans ?_ (ih (i + 1) (out ++ [⟨4, [], 0, line⟩]) (line + 1) false hp (by omega) (by omega) (by simp; omega) (by omega) (by omega) hJ)
          simp only [d_r08_Tokens_l0, d_r08_Tokens_j1, d_r08_Tokens_j3, optK_s, opt2_s, opt3_s, ifK_b, guardK_t, guardK_f, guardB_bt, guardB_bf, pickV_t, pickV_f, gif_t, guardK_pure, ro_gif, pick_and, pick_or', grp_and, grp_or, grp_tt, grp_ft, grp_tf, grp_ff, letK_e, ro_bool, ro_int, ro_str, ro_lst, ro_own, ro_agg, ro_tup, ro_ptr, ro_map, ro_ref, ro_fn, ro_undef, nm_bool, nm_int, nm_str, nm_lst, nm_own, nm_agg, nm_ptr, nm_map, nm_fn, b_add, b_sub, b_mul, b_eq, b_ne, b_lt, b_le, b_gt, b_ge, s_eq, s_ne, q_int, q_str, q_bool, q_nil, q_if, b_eqS, b_neS, b_eqB, b_neB, Option.map_some, u_not, u_neg, l_str, l_lst, c_int, x_tup, after_none, fin_bool, fin_int, fin_str, fin_lst, fin_own, fin_tup, frz2_int, frz2_str, frz2_bool, frz2_lst, fa_ref, fa_ptr, ldc_ref, hl', decide_true, if_true, idx_str s i hl, hc0, eq_false_of h32, Bool.false_eq_true, if_false, eq_false_of h9, eq_false_of h35, eq_true_of h10, hw, hwl, fl_kl, lit_tok, app_tok out _ _ (show out.length ≤ 100000 by omega)]
        | false =>
          refine Eq.trans ?_ (ih (i + 1) out (line + 1) false hp (by omega) (by omega) (by omega) (by omega) (by omega) hJ)
          simp only [d_r08_Tokens_l0, d_r08_Tokens_j1, d_r08_Tokens_j3, optK_s, opt2_s, opt3_s, ifK_b, guardK_t, guardK_f, guardB_bt, guardB_bf, pickV_t, pickV_f, gif_t, guardK_pure, ro_gif, pick_and, pick_or', grp_and, grp_or, grp_tt, grp_ft, grp_tf, grp_ff, letK_e, ro_bool, ro_int, ro_str, ro_lst, ro_own, ro_agg, ro_tup, ro_ptr, ro_map, ro_ref, ro_fn, ro_undef, nm_bool, nm_int, nm_str, nm_lst, nm_own, nm_agg, nm_ptr, nm_map, nm_fn, b_add, b_sub, b_mul, b_eq, b_ne, b_lt, b_le, b_gt, b_ge, s_eq, s_ne, q_int, q_str, q_bool, q_nil, q_if, b_eqS, b_neS, b_eqB, b_neB, Option.map_some, u_not, u_neg, l_str, l_lst, c_int, x_tup, after_none, fin_bool, fin_int, fin_str, fin_lst, fin_own, fin_tup, frz2_int, frz2_str, frz2_bool, frz2_lst, fa_ref, fa_ptr, ldc_ref, hl', decide_true, if_true, idx_str s i hl, hc0, eq_false_of h32, Bool.false_eq_true, if_false, eq_false_of h9, eq_false_of h35, eq_true_of h10, hw, hwl]
      -- a token
      have hn := raw_le hC (c :: s.drop (i + 1))
      have hlen : (c :: s.drop (i + 1)).length = s.length - i := by rw [← hd]; simp
      generalize hN : rawLen (c :: s.drop (i + 1)) = n at *
      have hTT : (s.take (i + n)).drop i = (c :: s.drop (i + 1)).take n := by rw [← hd, List.drop_take, Nat.add_sub_cancel_left]
      have hTl : ((c :: s.drop (i + 1)).take n).length ≤ 20000 := by rw [List.length_take]; omega
      have hwn : IntKind.i64.wrap ((i : Int) + n) = ((i + n : Nat) : Int) := by rw [i64_in (by omega) (by omega)]; omega
      have hdn : (c :: s.drop (i + 1)).drop n = s.drop (i + n) := by rw [← hd, List.drop_drop]
      have hcases := tok_cases hC c (s.drop (i + 1))
      rw [hN] at hcases
      generalize hT : (c :: s.drop (i + 1)).take n = text at *
      have hst : stV hp0.length 4 (.ptr hp.length 0) (.agg (tokRow ⟨3, text, 0, line⟩)) (hp ++ [.cells [(.int .i64 0), (.str []), (.int .i64 0), (.int .i64 0)] ty_api_Token]) none = some (hp ++ [.cells (tokRow ⟨3, text, 0, line⟩) ty_api_Token], none) := stV_last hp0.length 4 hp _ _ 0 _ none rfl (by simp) rfl hJ
      have hst1 : stV hp0.length 1 (.ptr hp.length (0 + 0)) (.int .i64 1) (hp ++ [.cells (tokRow ⟨3, text, 0, line⟩) ty_api_Token]) none = some (hp ++ [.cells (tokRow ⟨1, text, 0, line⟩) ty_api_Token], none) := stV_last hp0.length 1 hp _ _ 0 _ none rfl (by simp [tokRow]) rfl hJ
      have hld : ldcVal (hp ++ [.cells (tokRow ⟨3, text, 0, line⟩) ty_api_Token]) (.ptr hp.length (0 + 1)) = some (.str text) := ldc_last hp _ _ 1
      have hne : ¬ (c.toNat = 10) ∧ c.toNat ≠ 32 ∧ c.toNat ≠ 9 ∧ c.toNat ≠ 35 := by omega
      have good : ∀ (t : Tok), 1 ≤ n → tokenF (c :: s.drop (i + 1)) = (t, n) → scan (c :: s.drop (i + 1)) ⟨line, op, false, 0, out, false⟩ = scan (s.drop (i + n)) ⟨line, true, false, 0, out ++ [{ t with line := line }], false⟩ := by
        intro t h1 ht
        rw [scan, step_tok c _ _ rfl hne rfl (by rw [ht]; simp only; omega), if_neg (by simp), ht]
        obtain ⟨k, rfl⟩ : ∃ k, n = k + 1 := ⟨n - 1, by omega⟩
        have hk : k ≤ (s.drop (i + 1)).length := by simp at hn hlen ⊢; omega
        have := scan_skip k (s.drop (i + 1)) ⟨line, true, false, 0, out ++ [{ t with line := line }], false⟩ hk rfl
        rw [List.drop_drop, show i + 1 + k = i + (k + 1) by omega] at this
        exact this
      have bad : (tokenF (c :: s.drop (i + 1))).2 = 0 → endV (scan (c :: s.drop (i + 1)) ⟨line, op, false, 0, out, false⟩) = ([], line, 8) := by
        intro ht
        rw [scan, step_bad c _ _ rfl hne rfl ht, if_pos rfl]
        rfl
      have next : ∀ (t : Tok), 1 ≤ n → d_r08_Tokens_l0 C.G (evalCall C (n0 + 3)) C.L hp0 (d_r08_Tokens_j6 C.G (evalCall C (n0 + 3)) C.L hp0) m (.str s) (.own 4 (tokRows (out ++ [t]))) (.int .i64 line) (.int .i64 line) (.bool true) (.int .i64 (i + n : Nat)) (hp ++ [.cells (tokRow t) ty_api_Token]) none =
          some (vT (endV (scan (s.drop (i + n)) ⟨line, true, false, 0, out ++ [t], false⟩)), hp0, none) := fun t h1 =>
        ih (i + n) (out ++ [t]) line true _ (by omega) (by omega) (by simp; omega) hl1 (by omega) (by simp; omega)
      simp only [d_r08_Tokens_l0, d_r08_Tokens_j1, optK_s, opt2_s, opt3_s, ifK_b, guardK_t, guardK_f, guardB_bt, guardB_bf, pickV_t, pickV_f, gif_t, guardK_pure, ro_gif, pick_and, pick_or', grp_and, grp_or, grp_tt, grp_ft, grp_tf, grp_ff, letK_e, ro_bool, ro_int, ro_str, ro_lst, ro_own, ro_agg, ro_tup, ro_ptr, ro_map, ro_ref, ro_fn, ro_undef, nm_bool, nm_int, nm_str, nm_lst, nm_own, nm_agg, nm_ptr, nm_map, nm_fn, b_add, b_sub, b_mul, b_eq, b_ne, b_lt, b_le, b_gt, b_ge, s_eq, s_ne, q_int, q_str, q_bool, q_nil, q_if, b_eqS, b_neS, b_eqB, b_neB, Option.map_some, u_not, u_neg, l_str, l_lst, c_int, x_tup, after_none, fin_bool, fin_int, fin_str, fin_lst, fin_own, fin_tup, frz2_int, frz2_str, frz2_bool, frz2_lst, fa_ref, fa_ptr, ldc_ref, hl', decide_true, if_true, idx_str s i hl, hc0, eq_false_of h32, Bool.false_eq_true, if_false, eq_false_of h9, eq_false_of h35, eq_false_of h10, sl_from s i hi, hd, e_longest hC n0 _ _ (show (c :: s.drop (i + 1)).length < 4611686018427387904 by omega), hN, hwn, sl_mid s i (i + n) (by omega) (by omega), hTT, fl_ktl, hst, hld, e_word hC (n0 + 1) text _ (by omega)]
      rcases hcases with ⟨c1, c2, c3, c4, c5, c6⟩ | ⟨c1, c2, c3, c4⟩ | ⟨c1, c2, c3⟩
      · have h1 : 1 ≤ n := c3
        simp only [c4, if_true, optK_s, opt2_s, opt3_s, ifK_b, guardK_t, guardK_f, guardB_bt, guardB_bf, pickV_t, pickV_f, gif_t, guardK_pure, ro_gif, pick_and, pick_or', grp_and, grp_or, grp_tt, grp_ft, grp_tf, grp_ff, letK_e, ro_bool, ro_int, ro_str, ro_lst, ro_own, ro_agg, ro_tup, ro_ptr, ro_map, ro_ref, ro_fn, ro_undef, nm_bool, nm_int, nm_str, nm_lst, nm_own, nm_agg, nm_ptr, nm_map, nm_fn, b_add, b_sub, b_mul, b_eq, b_ne, b_lt, b_le, b_gt, b_ge, s_eq, s_ne, q_int, q_str, q_bool, q_nil, q_if, b_eqS, b_neS, b_eqB, b_neB, Option.map_some, u_not, u_neg, l_str, l_lst, c_int, x_tup, after_none, fin_bool, fin_int, fin_str, fin_lst, fin_own, fin_tup, frz2_int, frz2_str, frz2_bool, frz2_lst, fa_ref, fa_ptr, ldc_ref, hst1]
        rw [e_rj4 hC n0 hp0 hp _ s out 1 line i n text _ (by omega) (by omega) (by omega) hJ, c5, if_neg (by simp), if_neg (by omega), next _ h1, good _ h1 c6]
      · have h1 : 1 ≤ n := c2
        simp only [c1, Bool.false_eq_true, if_false]
        rw [e_rj4 hC n0 hp0 hp _ s out 3 line i n text _ (by omega) (by omega) (by omega) hJ, c3, if_pos rfl, numR_eq]
        cases hq : (numF text).2 with
        | true =>
          rw [hq, if_pos rfl] at c4
          rw [if_pos rfl, if_neg (by omega), next _ h1, good _ h1 c4]
        | false =>
          rw [hq, if_neg (by simp)] at c4
          rw [if_neg (by simp), bad (by rw [c4])]
      · simp only [c1, Bool.false_eq_true, if_false]
        rw [e_rj4 hC n0 hp0 hp _ s out 3 line i n text _ (by omega) (by omega) (by omega) hJ, c2, if_neg (by simp)]
        by_cases h0 : n = 0
        · rw [if_pos h0, bad (by rw [c3]; exact h0)]
        · rw [if_neg h0, next _ (by omega), good _ (by omega) c3]
    · have hl' : ¬ (i : Int) < (s.length : Int) := by omega
      have : s.drop i = [] := List.drop_of_length_le (by omega)
      rw [this]
      simp only [d_r08_Tokens_l0, optK_s, opt2_s, opt3_s, ifK_b, guardK_t, guardK_f, guardB_bt, guardB_bf, pickV_t, pickV_f, gif_t, guardK_pure, ro_gif, pick_and, pick_or', grp_and, grp_or, grp_tt, grp_ft, grp_tf, grp_ff, letK_e, ro_bool, ro_int, ro_str, ro_lst, ro_own, ro_agg, ro_tup, ro_ptr, ro_map, ro_ref, ro_fn, ro_undef, nm_bool, nm_int, nm_str, nm_lst, nm_own, nm_agg, nm_ptr, nm_map, nm_fn, b_add, b_sub, b_mul, b_eq, b_ne, b_lt, b_le, b_gt, b_ge, s_eq, s_ne, q_int, q_str, q_bool, q_nil, q_if, b_eqS, b_neS, b_eqB, b_neB, Option.map_some, u_not, u_neg, l_str, l_lst, c_int, x_tup, after_none, fin_bool, fin_int, fin_str, fin_lst, fin_own, fin_tup, frz2_int, frz2_str, frz2_bool, frz2_lst, fa_ref, fa_ptr, ldc_ref, hl', decide_false, Bool.false_eq_true, if_false]
      exact e_rj6 hC (n0 + 3) hp0 hp out line op (by omega)
theorem tokensF_endV (l : List UInt8) : tokensF l = if 20000 < l.length then ([], 0, 6) else endV (scan l st0) := by
  unfold tokensF endV
  split
  · rfl
  · rfl
theorem e_rtokens (n : Nat) (s : List UInt8) (hp : List AObj) (hs : s.length < 4611686018427387904) : evalCall C (n + 4) F_r08_Tokens [.str s] hp = some (vT (tokensF s), hp, none) := by
  refine r08_Tokens_run (by rw [hC.T]; rfl) ?_
  rw [tokensF_endV hC]
  by_cases h : 20000 < s.length
  · have h' : (20000 : Int) < (s.length : Int) := by omega
    simp only [d_r08_Tokens, optK_s, opt2_s, opt3_s, ifK_b, guardK_t, guardK_f, guardB_bt, guardB_bf, pickV_t, pickV_f, gif_t, guardK_pure, ro_gif, pick_and, pick_or', grp_and, grp_or, grp_tt, grp_ft, grp_tf, grp_ff, letK_e, ro_bool, ro_int, ro_str, ro_lst, ro_own, ro_agg, ro_tup, ro_ptr, ro_map, ro_ref, ro_fn, ro_undef, nm_bool, nm_int, nm_str, nm_lst, nm_own, nm_agg, nm_ptr, nm_map, nm_fn, b_add, b_sub, b_mul, b_eq, b_ne, b_lt, b_le, b_gt, b_ge, s_eq, s_ne, q_int, q_str, q_bool, q_nil, q_if, b_eqS, b_neS, b_eqB, b_neB, Option.map_some, u_not, u_neg, l_str, l_lst, c_int, x_tup, after_none, fin_bool, fin_int, fin_str, fin_lst, fin_own, fin_tup, frz2_int, frz2_str, frz2_bool, frz2_lst, fa_ref, fa_ptr, ldc_ref, h', decide_true, if_true]
    rw [if_pos h]
    rfl
  · have h' : ¬ (20000 : Int) < (s.length : Int) := by omega
    simp only [d_r08_Tokens, optK_s, opt2_s, opt3_s, ifK_b, guardK_t, guardK_f, guardB_bt, guardB_bf, pickV_t, pickV_f, gif_t, guardK_pure, ro_gif, pick_and, pick_or', grp_and, grp_or, grp_tt, grp_ft, grp_tf, grp_ff, letK_e, ro_bool, ro_int, ro_str, ro_lst, ro_own, ro_agg, ro_tup, ro_ptr, ro_map, ro_ref, ro_fn, ro_undef, nm_bool, nm_int, nm_str, nm_lst, nm_own, nm_agg, nm_ptr, nm_map, nm_fn, b_add, b_sub, b_mul, b_eq, b_ne, b_lt, b_le, b_gt, b_ge, s_eq, s_ne, q_int, q_str, q_bool, q_nil, q_if, b_eqS, b_neS, b_eqB, b_neB, Option.map_some, u_not, u_neg, l_str, l_lst, c_int, x_tup, after_none, fin_bool, fin_int, fin_str, fin_lst, fin_own, fin_tup, frz2_int, frz2_str, frz2_bool, frz2_lst, fa_ref, fa_ptr, ldc_ref, h', decide_false, Bool.false_eq_true, if_false]
    rw [if_neg h]
    exact e_rtok_loop hC n hp s (by omega) C.L 0 [] 1 false hp (by have := hC.L; omega) (by omega) (by simp) (by omega) (by omega) (Nat.le_refl _)
end
end Go.Proofs.YtiabiflaecidoaaDoor
end
