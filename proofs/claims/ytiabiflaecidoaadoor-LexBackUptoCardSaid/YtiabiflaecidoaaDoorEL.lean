/-
  The reference's Check, Lines and Text on lists of tokens.
-/
import Derived.Test.YtiabiflaecidoaaDoorQ5
namespace Go.Proofs.YtiabiflaecidoaaDoor
open Go Go.RowKit Go.Proofs.YtiabiflaecidoaaDoor.Abs
set_option linter.all false

def formedR (t : Tok) : Bool :=
  if t.kind = 1 then isWord t.text && decide (t.n = 0)
  else if t.kind = 2 then decide (t.text = []) && decide (0 ≤ t.n) && decide (t.n ≤ 1000000000000)
  else if t.kind = 3 then isSign t.text && decide (t.n = 0)
  else decide (t.text = []) && decide (t.n = 0)
def ck1 (t : Tok) : Bool := decide (t.kind < 0) || decide (4 < t.kind)
def ck2 (b t : Tok) : Bool := !formedR t || (decide (t.kind = 4) && decide (b.kind = 4))
def ck3 (b t : Tok) (last : Bool) : Bool := decide (t.kind = 0) && (!last || decide (b.kind ≠ 4))
def ck4 (b t : Tok) : Bool := ((decide (t.line < 1) || (decide (b.kind ≠ 4) && decide (t.line ≠ b.line))) || decide (t.line < b.line)) || ((decide (b.kind = 4) && decide (t.kind ≠ 0)) && decide (t.line = b.line))
def checkRL (b : Tok) : List Tok → Int
  | [] => if b.kind = 0 then 0 else 8
  | t :: r => if ck1 t = true then 1 else if ck2 b t = true then 8 else if ck3 b t r.isEmpty = true then 8 else if ck4 b t = true then 12 else checkRL t r
def checkR (l : List Tok) : Int := checkRL ⟨4, [], 0, 0⟩ l

section
variable {C : Cfg} (hC : CfgL C)
include hC
theorem e_formed (n : Nat) (t : Tok) (hp : List AObj) (ht : t.text.length < 4611686018427387904) : evalCall C (n + 3) F_r08_formed [.agg (tokRow t)] hp = some (.bool (formedR t), hp, none) := by
  refine r08_formed_run (by rw [hC.T]; rfl) ?_
  have l0 : ∀ T, ldcVal (hp ++ [AObj.cells (tokRow t) T]) (.ptr hp.length (0 + 0)) = some (.int .i64 t.kind) := fun T => ldc_last hp _ T 0
  have l1 : ∀ T, ldcVal (hp ++ [AObj.cells (tokRow t) T]) (.ptr hp.length (0 + 1)) = some (.str t.text) := fun T => ldc_last hp _ T 1
  have l2 : ∀ T, ldcVal (hp ++ [AObj.cells (tokRow t) T]) (.ptr hp.length (0 + 2)) = some (.int .i64 t.n) := fun T => ldc_last hp _ T 2
  by_cases k1 : t.kind = 1
  · simp only [d_r08_formed, optK_s, opt2_s, opt3_s, ifK_b, guardK_t, guardK_f, guardB_bt, guardB_bf, pickV_t, pickV_f, gif_t, guardK_pure, ro_gif, pick_and, pick_or', grp_and, grp_or, grp_tt, grp_ft, grp_tf, grp_ff, letK_e, ro_bool, ro_int, ro_str, ro_lst, ro_own, ro_agg, ro_tup, ro_ptr, ro_map, ro_ref, ro_fn, ro_undef, nm_bool, nm_int, nm_str, nm_lst, nm_own, nm_agg, nm_ptr, nm_map, nm_fn, b_add, b_sub, b_mul, b_eq, b_ne, b_lt, b_le, b_gt, b_ge, s_eq, s_ne, q_int, q_str, q_bool, q_nil, q_if, b_eqS, b_neS, b_eqB, b_neB, Option.map_some, u_not, u_neg, l_str, l_lst, c_int, x_tup, after_none, fin_bool, fin_int, fin_str, fin_lst, fin_own, fin_tup, frz2_int, frz2_str, frz2_bool, frz2_lst, fa_ref, fa_ptr, ldc_ref, box_agg 4 _ (tokRow_len t), l0, l1, l2, eq_true_of k1, if_true, e_word hC (n + 0) t.text _ ht]
    simp [formedR, k1]
  by_cases k2 : t.kind = 2
  · simp only [d_r08_formed, optK_s, opt2_s, opt3_s, ifK_b, guardK_t, guardK_f, guardB_bt, guardB_bf, pickV_t, pickV_f, gif_t, guardK_pure, ro_gif, pick_and, pick_or', grp_and, grp_or, grp_tt, grp_ft, grp_tf, grp_ff, letK_e, ro_bool, ro_int, ro_str, ro_lst, ro_own, ro_agg, ro_tup, ro_ptr, ro_map, ro_ref, ro_fn, ro_undef, nm_bool, nm_int, nm_str, nm_lst, nm_own, nm_agg, nm_ptr, nm_map, nm_fn, b_add, b_sub, b_mul, b_eq, b_ne, b_lt, b_le, b_gt, b_ge, s_eq, s_ne, q_int, q_str, q_bool, q_nil, q_if, b_eqS, b_neS, b_eqB, b_neB, Option.map_some, u_not, u_neg, l_str, l_lst, c_int, x_tup, after_none, fin_bool, fin_int, fin_str, fin_lst, fin_own, fin_tup, frz2_int, frz2_str, frz2_bool, frz2_lst, fa_ref, fa_ptr, ldc_ref, box_agg 4 _ (tokRow_len t), l0, l1, l2, eq_false_of k1, eq_true_of k2, Bool.false_eq_true, if_false, if_true]
    simp [formedR, k2, Bool.and_assoc]
  by_cases k3 : t.kind = 3
  · simp only [d_r08_formed, optK_s, opt2_s, opt3_s, ifK_b, guardK_t, guardK_f, guardB_bt, guardB_bf, pickV_t, pickV_f, gif_t, guardK_pure, ro_gif, pick_and, pick_or', grp_and, grp_or, grp_tt, grp_ft, grp_tf, grp_ff, letK_e, ro_bool, ro_int, ro_str, ro_lst, ro_own, ro_agg, ro_tup, ro_ptr, ro_map, ro_ref, ro_fn, ro_undef, nm_bool, nm_int, nm_str, nm_lst, nm_own, nm_agg, nm_ptr, nm_map, nm_fn, b_add, b_sub, b_mul, b_eq, b_ne, b_lt, b_le, b_gt, b_ge, s_eq, s_ne, q_int, q_str, q_bool, q_nil, q_if, b_eqS, b_neS, b_eqB, b_neB, Option.map_some, u_not, u_neg, l_str, l_lst, c_int, x_tup, after_none, fin_bool, fin_int, fin_str, fin_lst, fin_own, fin_tup, frz2_int, frz2_str, frz2_bool, frz2_lst, fa_ref, fa_ptr, ldc_ref, box_agg 4 _ (tokRow_len t), l0, l1, l2, eq_false_of k1, eq_false_of k2, eq_true_of k3, Bool.false_eq_true, if_false, if_true, e_sign hC (n + 1) t.text]
    simp [formedR, k3]
  · simp only [d_r08_formed, optK_s, opt2_s, opt3_s, ifK_b, guardK_t, guardK_f, guardB_bt, guardB_bf, pickV_t, pickV_f, gif_t, guardK_pure, ro_gif, pick_and, pick_or', grp_and, grp_or, grp_tt, grp_ft, grp_tf, grp_ff, letK_e, ro_bool, ro_int, ro_str, ro_lst, ro_own, ro_agg, ro_tup, ro_ptr, ro_map, ro_ref, ro_fn, ro_undef, nm_bool, nm_int, nm_str, nm_lst, nm_own, nm_agg, nm_ptr, nm_map, nm_fn, b_add, b_sub, b_mul, b_eq, b_ne, b_lt, b_le, b_gt, b_ge, s_eq, s_ne, q_int, q_str, q_bool, q_nil, q_if, b_eqS, b_neS, b_eqB, b_neB, Option.map_some, u_not, u_neg, l_str, l_lst, c_int, x_tup, after_none, fin_bool, fin_int, fin_str, fin_lst, fin_own, fin_tup, frz2_int, frz2_str, frz2_bool, frz2_lst, fa_ref, fa_ptr, ldc_ref, box_agg 4 _ (tokRow_len t), l0, l1, l2, eq_false_of k1, eq_false_of k2, eq_false_of k3, Bool.false_eq_true, if_false]
    simp [formedR, k1, k2, k3]
theorem e_rcheck_loop (n : Nat) (hp0 : List AObj) (l : List Tok) (hl : l.length ≤ 1000000) (ht : ∀ t ∈ l, t.text.length < 4611686018427387904) : ∀ (r p : List Tok) (m : Nat) (b : Tok) (hp : List AObj), l = p ++ r → hp[hp0.length]? = some (.cells (tokRow b) ty_api_Token) → r.length < m →
    d_r08_Check_l0 C.G (evalCall C (n + 3)) C.L hp0 (d_r08_Check_j1 C.G (evalCall C (n + 3)) C.L hp0) m (.lst 4 (tokRows l)) (.ptr hp0.length 0) (.int .i64 p.length) hp none = some (.int .i64 (checkRL b r), hp0, none)
  | _, _, 0, _, _, _, _, h => by omega
  | [], p, m + 1, b, hp, hs, hb, _ => by
    have hlen : ((tokRows l).length : Int) = p.length := by rw [hs]; simp [tokRows]
    have b0 : ldcVal hp (.ptr hp0.length (0 + 0)) = some (.int .i64 b.kind) := ldc_get hb 0
    simp only [d_r08_Check_l0, d_r08_Check_j1, optK_s, opt2_s, opt3_s, ifK_b, guardK_t, guardK_f, guardB_bt, guardB_bf, pickV_t, pickV_f, gif_t, guardK_pure, ro_gif, pick_and, pick_or', grp_and, grp_or, grp_tt, grp_ft, grp_tf, grp_ff, letK_e, ro_bool, ro_int, ro_str, ro_lst, ro_own, ro_agg, ro_tup, ro_ptr, ro_map, ro_ref, ro_fn, ro_undef, nm_bool, nm_int, nm_str, nm_lst, nm_own, nm_agg, nm_ptr, nm_map, nm_fn, b_add, b_sub, b_mul, b_eq, b_ne, b_lt, b_le, b_gt, b_ge, s_eq, s_ne, q_int, q_str, q_bool, q_nil, q_if, b_eqS, b_neS, b_eqB, b_neB, Option.map_some, u_not, u_neg, l_str, l_lst, c_int, x_tup, after_none, fin_bool, fin_int, fin_str, fin_lst, fin_own, fin_tup, frz2_int, frz2_str, frz2_bool, frz2_lst, fa_ref, fa_ptr, ldc_ref, hlen, Int.lt_irrefl, decide_false, Bool.false_eq_true, if_false, b0]
    by_cases hk : b.kind = 0 <;> simp [hk, checkRL]
  | t :: r, p, m + 1, b, hp, hs, hb, hm => by
    have hlen : ((tokRows l).length : Int) = p.length + (r.length + 1) := by rw [hs]; simp [tokRows]
    have hlt : (p.length : Int) < p.length + (r.length + 1) := by omega
    have hpl : p.length + (r.length + 1) ≤ 1000000 := by rw [hs] at hl; simpa using hl
    have hg : (tokRows l)[p.length]? = some (tokRow t) := by simp [tokRows, hs]
    have htt : t.text.length < 4611686018427387904 := ht t (by rw [hs]; simp)
    have hlt2 : hp0.length < hp.length := (List.getElem?_eq_some_iff.1 hb).1
    have hw1 : IntKind.i64.wrap ((p.length : Int) + (r.length + 1) - 1) = p.length + r.length := by rw [i64_in (by omega) (by omega)]; omega
    have hlast : decide ((p.length : Int) ≠ p.length + r.length) = !r.isEmpty := by
      cases r with
      | nil => simp
      | cons _ _ => simp; omega
    have hst : stV hp0.length 4 (.ptr hp.length 0) (.agg (tokRow t)) (hp ++ [AObj.cells [(.int .i64 0), (.str []), (.int .i64 0), (.int .i64 0)] ty_api_Token]) none = some (hp ++ [AObj.cells (tokRow t) ty_api_Token], none) := stV_last hp0.length 4 hp _ _ 0 _ none rfl (by simp) rfl (by omega)
    have t0 : ldcVal (hp ++ [AObj.cells (tokRow t) ty_api_Token]) (.ptr hp.length (0 + 0)) = some (.int .i64 t.kind) := ldc_last hp _ _ 0
    have t3 : ldcVal (hp ++ [AObj.cells (tokRow t) ty_api_Token]) (.ptr hp.length (0 + 3)) = some (.int .i64 t.line) := ldc_last hp _ _ 3
    have tl : ldaVal (hp ++ [AObj.cells (tokRow t) ty_api_Token]) 4 (.ptr hp.length 0) = some (.agg (tokRow t)) := lda_last 4 hp _ _ 0 (by simp [tokRow])
    have hb' : (hp ++ [AObj.cells (tokRow t) ty_api_Token])[hp0.length]? = some (.cells (tokRow b) ty_api_Token) := by rw [List.getElem?_append_left hlt2]; exact hb
    have b0 : ldcVal (hp ++ [AObj.cells (tokRow t) ty_api_Token]) (.ptr hp0.length (0 + 0)) = some (.int .i64 b.kind) := ldc_get hb' 0
    have b3 : ldcVal (hp ++ [AObj.cells (tokRow t) ty_api_Token]) (.ptr hp0.length (0 + 3)) = some (.int .i64 b.line) := ldc_get hb' 3
    have bs : stV hp0.length 4 (.ptr hp0.length 0) (.agg (tokRow t)) (hp ++ [AObj.cells (tokRow t) ty_api_Token]) none = some ((hp ++ [AObj.cells (tokRow t) ty_api_Token]).set hp0.length (AObj.cells (tokRow t) ty_api_Token), none) := stV_get hb' (bs := hp0.length) (n := 4) (o := 0) (v := .agg (tokRow t)) rfl (by simp [tokRow]) rfl (Nat.le_refl _)
    have bset : ((hp ++ [AObj.cells (tokRow t) ty_api_Token]).set hp0.length (AObj.cells (tokRow t) ty_api_Token))[hp0.length]? = some (.cells (tokRow t) ty_api_Token) := by rw [List.getElem?_set]; simp; omega
    have ih := e_rcheck_loop n hp0 l hl ht r (p ++ [t]) m t _ (by rw [hs]; simp) bset (by simpa using hm)
    simp only [List.length_append, List.length_cons, List.length_nil, Nat.zero_add] at ih
    generalize hp ++ [AObj.cells (tokRow t) ty_api_Token] = H at *
    have hf := e_formed hC n t H htt
    simp only [d_r08_Check_l0, optK_s, opt2_s, opt3_s, ifK_b, guardK_t, guardK_f, guardB_bt, guardB_bf, pickV_t, pickV_f, gif_t, guardK_pure, ro_gif, pick_and, pick_or', grp_and, grp_or, grp_tt, grp_ft, grp_tf, grp_ff, letK_e, ro_bool, ro_int, ro_str, ro_lst, ro_own, ro_agg, ro_tup, ro_ptr, ro_map, ro_ref, ro_fn, ro_undef, nm_bool, nm_int, nm_str, nm_lst, nm_own, nm_agg, nm_ptr, nm_map, nm_fn, b_add, b_sub, b_mul, b_eq, b_ne, b_lt, b_le, b_gt, b_ge, s_eq, s_ne, q_int, q_str, q_bool, q_nil, q_if, b_eqS, b_neS, b_eqB, b_neB, Option.map_some, u_not, u_neg, l_str, l_lst, c_int, x_tup, after_none, fin_bool, fin_int, fin_str, fin_lst, fin_own, fin_tup, frz2_int, frz2_str, frz2_bool, frz2_lst, fa_ref, fa_ptr, ldc_ref, hlen, hlt, decide_true, if_true, ia_lst, hg, lda_ref _ _ _ (Nat.le_of_eq (tokRow_len _).symm), tokRow_take, tokRow_ro, hst, t0, t3, tl, b0, b3, bs, hf, hw1, hlast, wrap_nat p.length (by omega), ih]
    rw [checkRL]
    show (if ck1 t = true then _ else if ck2 b t = true then _ else if ck3 b t r.isEmpty = true then _ else if ck4 b t = true then _ else _) = _
    cases ck1 t <;> cases ck2 b t <;> cases ck3 b t r.isEmpty <;> cases ck4 b t <;> rfl
theorem e_rcheck (n : Nat) (l : List Tok) (hp : List AObj) (hl : l.length ≤ 1000000) (ht : ∀ t ∈ l, t.text.length < 4611686018427387904) : evalCall C (n + 4) F_r08_Check [.lst 4 (tokRows l)] hp = some (.int .i64 (checkR l), hp, none) := by
  refine r08_Check_run (by rw [hC.T]; rfl) ?_
  have hst : stV hp.length 4 (.ptr hp.length 0) (.agg (tokRow ⟨4, [], 0, 0⟩)) (hp ++ [AObj.cells [(.int .i64 0), (.str []), (.int .i64 0), (.int .i64 0)] ty_api_Token]) none = some (hp ++ [AObj.cells (tokRow ⟨4, [], 0, 0⟩) ty_api_Token], none) := stV_last hp.length 4 hp _ _ 0 _ none rfl (by simp) rfl (Nat.le_refl _)
  have h := e_rcheck_loop hC n hp l hl ht l [] C.L ⟨4, [], 0, 0⟩ (hp ++ [AObj.cells (tokRow ⟨4, [], 0, 0⟩) ty_api_Token]) rfl (by simp) (by have := hC.L; omega)
  simp only [d_r08_Check, optK_s, opt2_s, opt3_s, ifK_b, guardK_t, guardK_f, guardB_bt, guardB_bf, pickV_t, pickV_f, gif_t, guardK_pure, ro_gif, pick_and, pick_or', grp_and, grp_or, grp_tt, grp_ft, grp_tf, grp_ff, letK_e, ro_bool, ro_int, ro_str, ro_lst, ro_own, ro_agg, ro_tup, ro_ptr, ro_map, ro_ref, ro_fn, ro_undef, nm_bool, nm_int, nm_str, nm_lst, nm_own, nm_agg, nm_ptr, nm_map, nm_fn, b_add, b_sub, b_mul, b_eq, b_ne, b_lt, b_le, b_gt, b_ge, s_eq, s_ne, q_int, q_str, q_bool, q_nil, q_if, b_eqS, b_neS, b_eqB, b_neB, Option.map_some, u_not, u_neg, l_str, l_lst, c_int, x_tup, after_none, fin_bool, fin_int, fin_str, fin_lst, fin_own, fin_tup, frz2_int, frz2_str, frz2_bool, frz2_lst, fa_ref, fa_ptr, ldc_ref, fl_kl, hst]
  exact h
theorem e_rlines_loop (n : Nat) (hp0 : List AObj) (k0 : AV → AV → List AObj → Eff → KR) (l : List Tok) (hl : l.length ≤ 1000000) : ∀ (r p : List Tok) (m : Nat) (hp : List AObj), l = p ++ r → r.length < m →
    d_r08_Lines_l0 C.G (evalCall C n) C.L hp0 k0 m (.lst 4 (tokRows l)) (.int .i64 (count4 p)) (.int .i64 (count4 p)) (.int .i64 p.length) hp none = k0 (.lst 4 (tokRows l)) (.int .i64 (count4 l)) hp none
  | _, _, 0, _, _, h => by omega
  | [], p, m + 1, hp, hs, _ => by
    simp only [List.append_nil] at hs
    subst hs
    have hlen : ((tokRows l).length : Int) = l.length := by simp [tokRows]
    simp only [d_r08_Lines_l0, optK_s, opt2_s, opt3_s, ifK_b, guardK_t, guardK_f, guardB_bt, guardB_bf, pickV_t, pickV_f, gif_t, guardK_pure, ro_gif, pick_and, pick_or', grp_and, grp_or, grp_tt, grp_ft, grp_tf, grp_ff, letK_e, ro_bool, ro_int, ro_str, ro_lst, ro_own, ro_agg, ro_tup, ro_ptr, ro_map, ro_ref, ro_fn, ro_undef, nm_bool, nm_int, nm_str, nm_lst, nm_own, nm_agg, nm_ptr, nm_map, nm_fn, b_add, b_sub, b_mul, b_eq, b_ne, b_lt, b_le, b_gt, b_ge, s_eq, s_ne, q_int, q_str, q_bool, q_nil, q_if, b_eqS, b_neS, b_eqB, b_neB, Option.map_some, u_not, u_neg, l_str, l_lst, c_int, x_tup, after_none, fin_bool, fin_int, fin_str, fin_lst, fin_own, fin_tup, frz2_int, frz2_str, frz2_bool, frz2_lst, fa_ref, fa_ptr, ldc_ref, hlen, Int.lt_irrefl, decide_false, Bool.false_eq_true, if_false]
  | t :: r, p, m + 1, hp, hs, hm => by
    have hlen : ((tokRows l).length : Int) = p.length + (r.length + 1) := by rw [hs]; simp [tokRows]
    have hlt : (p.length : Int) < p.length + (r.length + 1) := by omega
    have hpl : p.length + (r.length + 1) ≤ 1000000 := by rw [hs] at hl; simpa using hl
    have hg : (tokRows l)[p.length]? = some (tokRow t) := by simp [tokRows, hs]
    have f0 : faVal 0 (.ref (tokRow t)) = some (.ref (tokRow t)) := rfl
    have l0 : ldcVal hp (.ref (tokRow t)) = some (.int .i64 t.kind) := rfl
    have hc : count4 p ≤ p.length := by unfold count4; exact List.length_filter_le _ _
    have ih := e_rlines_loop n hp0 k0 l hl r (p ++ [t]) m hp (by rw [hs]; simp) (by simpa using hm)
    simp only [List.length_append, List.length_cons, List.length_nil, Nat.zero_add] at ih
    simp only [d_r08_Lines_l0, optK_s, ifK_b, l_lst, b_lt, b_eq, b_add, hlen, hlt, decide_true, if_true, ia_lst, hg, Option.map_some, f0, l0, wrap_nat p.length (by omega), wrap_nat (count4 p) (by omega)]
    by_cases hk : t.kind = 4
    · have : count4 (p ++ [t]) = count4 p + 1 := by simp [count4, List.filter_append, hk]
      rw [this] at ih
      simp only [hk, decide_true, if_true, ih]
    · have : count4 (p ++ [t]) = count4 p := by simp [count4, List.filter_append, hk]
      rw [this] at ih
      simp only [hk, decide_false, Bool.false_eq_true, if_false, ih]
theorem e_rlines (n : Nat) (l : List Tok) (hp : List AObj) (hl : l.length ≤ 1000000) (ht : ∀ t ∈ l, t.text.length < 4611686018427387904) : evalCall C (n + 5) F_r08_Lines [.lst 4 (tokRows l)] hp = some (.int .i64 (if checkR l = 0 then (count4 l : Int) else 0), hp, none) := by
  refine r08_Lines_run (by rw [hC.T]; rfl) ?_
  have h := e_rlines_loop hC (n + 4) hp (d_r08_Lines_j1 C.G (evalCall C (n + 4)) C.L hp) l hl l [] C.L hp rfl (by have := hC.L; omega)
  simp only [d_r08_Lines, optK_s, opt2_s, opt3_s, ifK_b, guardK_t, guardK_f, guardB_bt, guardB_bf, pickV_t, pickV_f, gif_t, guardK_pure, ro_gif, pick_and, pick_or', grp_and, grp_or, grp_tt, grp_ft, grp_tf, grp_ff, letK_e, ro_bool, ro_int, ro_str, ro_lst, ro_own, ro_agg, ro_tup, ro_ptr, ro_map, ro_ref, ro_fn, ro_undef, nm_bool, nm_int, nm_str, nm_lst, nm_own, nm_agg, nm_ptr, nm_map, nm_fn, b_add, b_sub, b_mul, b_eq, b_ne, b_lt, b_le, b_gt, b_ge, s_eq, s_ne, q_int, q_str, q_bool, q_nil, q_if, b_eqS, b_neS, b_eqB, b_neB, Option.map_some, u_not, u_neg, l_str, l_lst, c_int, x_tup, after_none, fin_bool, fin_int, fin_str, fin_lst, fin_own, fin_tup, frz2_int, frz2_str, frz2_bool, frz2_lst, fa_ref, fa_ptr, ldc_ref]
  refine Eq.trans h ?_
  simp only [d_r08_Lines_j1, optK_s, opt2_s, opt3_s, ifK_b, guardK_t, guardK_f, guardB_bt, guardB_bf, pickV_t, pickV_f, gif_t, guardK_pure, ro_gif, pick_and, pick_or', grp_and, grp_or, grp_tt, grp_ft, grp_tf, grp_ff, letK_e, ro_bool, ro_int, ro_str, ro_lst, ro_own, ro_agg, ro_tup, ro_ptr, ro_map, ro_ref, ro_fn, ro_undef, nm_bool, nm_int, nm_str, nm_lst, nm_own, nm_agg, nm_ptr, nm_map, nm_fn, b_add, b_sub, b_mul, b_eq, b_ne, b_lt, b_le, b_gt, b_ge, s_eq, s_ne, q_int, q_str, q_bool, q_nil, q_if, b_eqS, b_neS, b_eqB, b_neB, Option.map_some, u_not, u_neg, l_str, l_lst, c_int, x_tup, after_none, fin_bool, fin_int, fin_str, fin_lst, fin_own, fin_tup, frz2_int, frz2_str, frz2_bool, frz2_lst, fa_ref, fa_ptr, ldc_ref, e_rcheck hC n l _ hl ht]
  by_cases hk : checkR l = 0 <;> simp [hk]
end
end Go.Proofs.YtiabiflaecidoaaDoor
