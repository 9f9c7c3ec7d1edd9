/-
  Searches by name: slices.IndexFunc at each kind of declaration, with its closure.
-/
import Derived.Test.YtlmfmmclnboglaaGreatTB
namespace Go.Proofs.YtlmfmmclnboglaaGreat
open Go Go.RowKit Go.Proofs.YtlmfmmclnboglaaGreat.Abs
set_option linter.all false
set_option maxRecDepth 100000

def cT (f : FuncId) : Option AFn := (tab.find? (·.1 == f)).map (·.2)
structure CfgL (C : Cfg) : Prop where
  T : C.T = cT
  L : 9223372036854775808 ≤ C.L
def nameOf : List AV → List UInt8
  | .str s :: _ => s
  | _ => []
def isN (name : List UInt8) (r : List AV) : Bool := decide (nameOf r = name)
/-- the first row that fits -/
def findI (p : List AV → Bool) : List (List AV) → Nat → Int
  | [], _ => -1
  | r :: rs, i => if p r = true then (i : Int) else findI p rs (i + 1)
/-- rows of W cells, the first of which is a text -/
def Rows1 (W : Nat) (rows : List (List AV)) : Prop := rows.length ≤ 8796093022208 ∧ ∀ r ∈ rows, r.length = W ∧ r.map AV.ro = r ∧ r = .str (nameOf r) :: r.tail
theorem callV_fn (K : FuncId → List AV → List AObj → KR) (f : FuncId) (c : List AV) (args : List AV) (hp : List AObj) : callV K (.fn f [] c) args hp = K f (args ++ c.map AV.nm) hp := rfl
section
variable {C : Cfg} (hC : CfgL C)
include hC

theorem e_ixf_Lapi_Link_api_Link__loop (n : Nat) (hp0 : List AObj) (fv : AV) (p : List AV → Bool) (rows : List (List AV)) (hl : rows.length ≤ 4611686018427387) (hrow : ∀ r ∈ rows, r.length = 3 ∧ r.map AV.ro = r) (hf : ∀ r ∈ rows, callV (evalCall C n) fv [.agg r] hp0 = some (.bool (p r), hp0, none)) : ∀ (r q : List (List AV)) (m : Nat), rows = q ++ r → r.length < m →
    d_slices_IndexFunc_Lapi_Link_api_Link__l0 C.G (evalCall C n) C.L hp0 (d_slices_IndexFunc_Lapi_Link_api_Link__j1 C.G (evalCall C n) C.L hp0) m (.lst 3 rows) fv (.int .i64 rows.length) (.int .i64 q.length) hp0 none = some (.int .i64 (findI p r q.length), hp0, none)
  | _, _, 0, _, h => by omega
  | [], q, m + 1, hs, _ => by
    have hlen : (rows.length : Int) = q.length := by rw [hs]; simp
    simp only [d_slices_IndexFunc_Lapi_Link_api_Link__l0, d_slices_IndexFunc_Lapi_Link_api_Link__j1, optK_s, opt2_s, opt3_s, ifK_b, guardK_t, guardK_f, guardB_bt, guardB_bf, pickV_t, pickV_f, gif_t, guardK_pure, ro_gif, pick_and, pick_or', grp_and, grp_or, grp_tt, grp_ft, grp_tf, grp_ff, letK_e, ro_bool, ro_int, ro_str, ro_lst, ro_own, ro_agg, ro_tup, ro_ptr, ro_map, ro_ref, ro_fn, ro_undef, nm_bool, nm_int, nm_str, nm_lst, nm_own, nm_agg, nm_ptr, nm_map, nm_fn, b_add, b_sub, b_mul, b_eq, b_ne, b_lt, b_le, b_gt, b_ge, s_eq, s_ne, q_int, q_str, q_bool, q_nil, q_if, b_eqS, b_neS, b_eqB, b_neB, Option.map_some, u_not, u_neg, l_str, l_lst, c_int, x_tup, after_none, fin_bool, fin_int, fin_str, fin_lst, fin_own, fin_tup, frz2_int, frz2_str, frz2_bool, frz2_lst, fa_ref, fa_ptr, ldc_ref, hlen, Int.lt_irrefl, decide_false, Bool.false_eq_true, if_false, findI]
  | x :: r, q, m + 1, hs, hm => by
    have hlen : (rows.length : Int) = q.length + (r.length + 1) := by rw [hs]; simp
    have hlt : (q.length : Int) < q.length + (r.length + 1) := by omega
    have hql : q.length + (r.length + 1) ≤ 4611686018427387 := by rw [hs] at hl; simpa using hl
    have hg : rows[q.length]? = some x := by rw [hs]; simp
    have hmem : x ∈ rows := by rw [hs]; simp
    obtain ⟨w1, w2⟩ := hrow x hmem
    have hro : (x.take 3).map AV.ro = x := by rw [List.take_of_length_le (by omega), w2]
    have hc := hf x hmem
    have ih := e_ixf_Lapi_Link_api_Link__loop n hp0 fv p rows hl hrow hf r (q ++ [x]) m (by rw [hs]; simp) (by simpa using hm)
    simp only [List.length_append, List.length_cons, List.length_nil, Nat.zero_add] at ih
    rw [hlen] at ih ⊢
    have hwr := wrap_nat q.length (by omega)
    have hld := lda_ref hp0 3 x (by omega)
    cases hpx : p x with
    | true =>
      rw [hpx] at hc
      simp only [d_slices_IndexFunc_Lapi_Link_api_Link__l0, optK_s, opt2_s, opt3_s, ifK_b, guardK_t, guardK_f, guardB_bt, guardB_bf, pickV_t, pickV_f, gif_t, guardK_pure, ro_gif, pick_and, pick_or', grp_and, grp_or, grp_tt, grp_ft, grp_tf, grp_ff, letK_e, ro_bool, ro_int, ro_str, ro_lst, ro_own, ro_agg, ro_tup, ro_ptr, ro_map, ro_ref, ro_fn, ro_undef, nm_bool, nm_int, nm_str, nm_lst, nm_own, nm_agg, nm_ptr, nm_map, nm_fn, b_add, b_sub, b_mul, b_eq, b_ne, b_lt, b_le, b_gt, b_ge, s_eq, s_ne, q_int, q_str, q_bool, q_nil, q_if, b_eqS, b_neS, b_eqB, b_neB, Option.map_some, u_not, u_neg, l_str, l_lst, c_int, x_tup, after_none, fin_bool, fin_int, fin_str, fin_lst, fin_own, fin_tup, frz2_int, frz2_str, frz2_bool, frz2_lst, fa_ref, fa_ptr, ldc_ref, hlt, decide_true, if_true, ia_lst, hg, hld, hro, hc, findI, hpx]
    | false =>
      rw [hpx] at hc
      simp only [d_slices_IndexFunc_Lapi_Link_api_Link__l0, optK_s, opt2_s, opt3_s, ifK_b, guardK_t, guardK_f, guardB_bt, guardB_bf, pickV_t, pickV_f, gif_t, guardK_pure, ro_gif, pick_and, pick_or', grp_and, grp_or, grp_tt, grp_ft, grp_tf, grp_ff, letK_e, ro_bool, ro_int, ro_str, ro_lst, ro_own, ro_agg, ro_tup, ro_ptr, ro_map, ro_ref, ro_fn, ro_undef, nm_bool, nm_int, nm_str, nm_lst, nm_own, nm_agg, nm_ptr, nm_map, nm_fn, b_add, b_sub, b_mul, b_eq, b_ne, b_lt, b_le, b_gt, b_ge, s_eq, s_ne, q_int, q_str, q_bool, q_nil, q_if, b_eqS, b_neS, b_eqB, b_neB, Option.map_some, u_not, u_neg, l_str, l_lst, c_int, x_tup, after_none, fin_bool, fin_int, fin_str, fin_lst, fin_own, fin_tup, frz2_int, frz2_str, frz2_bool, frz2_lst, fa_ref, fa_ptr, ldc_ref, hlt, decide_true, if_true, ia_lst, hg, hld, hro, hc, findI, hpx, Bool.false_eq_true, if_false, hwr]
      exact ih
theorem e_ixf_Lapi_Link_api_Link_ (n : Nat) (hp : List AObj) (f : FuncId) (c : List AV) (p : List AV → Bool) (rows : List (List AV)) (hl : rows.length ≤ 4611686018427387) (hrow : ∀ r ∈ rows, r.length = 3 ∧ r.map AV.ro = r) (hf : ∀ r ∈ rows, evalCall C n f ([.agg r] ++ c.map AV.nm) hp = some (.bool (p r), hp, none)) :
    evalCall C (n + 1) F_slices_IndexFunc_Lapi_Link_api_Link_ [.lst 3 rows, .fn f [] c] hp = some (.int .i64 (findI p rows 0), hp, none) := by
  refine slices_IndexFunc_Lapi_Link_api_Link__run (by rw [hC.T]; rfl) ?_
  have h := e_ixf_Lapi_Link_api_Link__loop hC n hp (.fn f [] c) p rows hl hrow (fun r hr => by rw [callV_fn]; exact hf r hr) rows [] C.L rfl (by have := hC.L; omega)
  simp only [d_slices_IndexFunc_Lapi_Link_api_Link_, optK_s, opt2_s, opt3_s, ifK_b, guardK_t, guardK_f, guardB_bt, guardB_bf, pickV_t, pickV_f, gif_t, guardK_pure, ro_gif, pick_and, pick_or', grp_and, grp_or, grp_tt, grp_ft, grp_tf, grp_ff, letK_e, ro_bool, ro_int, ro_str, ro_lst, ro_own, ro_agg, ro_tup, ro_ptr, ro_map, ro_ref, ro_fn, ro_undef, nm_bool, nm_int, nm_str, nm_lst, nm_own, nm_agg, nm_ptr, nm_map, nm_fn, b_add, b_sub, b_mul, b_eq, b_ne, b_lt, b_le, b_gt, b_ge, s_eq, s_ne, q_int, q_str, q_bool, q_nil, q_if, b_eqS, b_neS, b_eqB, b_neB, Option.map_some, u_not, u_neg, l_str, l_lst, c_int, x_tup, after_none, fin_bool, fin_int, fin_str, fin_lst, fin_own, fin_tup, frz2_int, frz2_str, frz2_bool, frz2_lst, fa_ref, fa_ptr, ldc_ref]
  exact h

theorem e_ixf_Lapi_SiteDecl_api_SiteDecl__loop (n : Nat) (hp0 : List AObj) (fv : AV) (p : List AV → Bool) (rows : List (List AV)) (hl : rows.length ≤ 4611686018427387) (hrow : ∀ r ∈ rows, r.length = 13 ∧ r.map AV.ro = r) (hf : ∀ r ∈ rows, callV (evalCall C n) fv [.agg r] hp0 = some (.bool (p r), hp0, none)) : ∀ (r q : List (List AV)) (m : Nat), rows = q ++ r → r.length < m →
    d_slices_IndexFunc_Lapi_SiteDecl_api_SiteDecl__l0 C.G (evalCall C n) C.L hp0 (d_slices_IndexFunc_Lapi_SiteDecl_api_SiteDecl__j1 C.G (evalCall C n) C.L hp0) m (.lst 13 rows) fv (.int .i64 rows.length) (.int .i64 q.length) hp0 none = some (.int .i64 (findI p r q.length), hp0, none)
  | _, _, 0, _, h => by omega
  | [], q, m + 1, hs, _ => by
    have hlen : (rows.length : Int) = q.length := by rw [hs]; simp
    simp only [d_slices_IndexFunc_Lapi_SiteDecl_api_SiteDecl__l0, d_slices_IndexFunc_Lapi_SiteDecl_api_SiteDecl__j1, optK_s, opt2_s, opt3_s, ifK_b, guardK_t, guardK_f, guardB_bt, guardB_bf, pickV_t, pickV_f, gif_t, guardK_pure, ro_gif, pick_and, pick_or', grp_and, grp_or, grp_tt, grp_ft, grp_tf, grp_ff, letK_e, ro_bool, ro_int, ro_str, ro_lst, ro_own, ro_agg, ro_tup, ro_ptr, ro_map, ro_ref, ro_fn, ro_undef, nm_bool, nm_int, nm_str, nm_lst, nm_own, nm_agg, nm_ptr, nm_map, nm_fn, b_add, b_sub, b_mul, b_eq, b_ne, b_lt, b_le, b_gt, b_ge, s_eq, s_ne, q_int, q_str, q_bool, q_nil, q_if, b_eqS, b_neS, b_eqB, b_neB, Option.map_some, u_not, u_neg, l_str, l_lst, c_int, x_tup, after_none, fin_bool, fin_int, fin_str, fin_lst, fin_own, fin_tup, frz2_int, frz2_str, frz2_bool, frz2_lst, fa_ref, fa_ptr, ldc_ref, hlen, Int.lt_irrefl, decide_false, Bool.false_eq_true, if_false, findI]
  | x :: r, q, m + 1, hs, hm => by
    have hlen : (rows.length : Int) = q.length + (r.length + 1) := by rw [hs]; simp
    have hlt : (q.length : Int) < q.length + (r.length + 1) := by omega
    have hql : q.length + (r.length + 1) ≤ 4611686018427387 := by rw [hs] at hl; simpa using hl
    have hg : rows[q.length]? = some x := by rw [hs]; simp
    have hmem : x ∈ rows := by rw [hs]; simp
    obtain ⟨w1, w2⟩ := hrow x hmem
    have hro : (x.take 13).map AV.ro = x := by rw [List.take_of_length_le (by omega), w2]
    have hc := hf x hmem
    have ih := e_ixf_Lapi_SiteDecl_api_SiteDecl__loop n hp0 fv p rows hl hrow hf r (q ++ [x]) m (by rw [hs]; simp) (by simpa using hm)
    simp only [List.length_append, List.length_cons, List.length_nil, Nat.zero_add] at ih
    rw [hlen] at ih ⊢
    have hwr := wrap_nat q.length (by omega)
    have hld := lda_ref hp0 13 x (by omega)
    cases hpx : p x with
    | true =>
      rw [hpx] at hc
      simp only [d_slices_IndexFunc_Lapi_SiteDecl_api_SiteDecl__l0, optK_s, opt2_s, opt3_s, ifK_b, guardK_t, guardK_f, guardB_bt, guardB_bf, pickV_t, pickV_f, gif_t, guardK_pure, ro_gif, pick_and, pick_or', grp_and, grp_or, grp_tt, grp_ft, grp_tf, grp_ff, letK_e, ro_bool, ro_int, ro_str, ro_lst, ro_own, ro_agg, ro_tup, ro_ptr, ro_map, ro_ref, ro_fn, ro_undef, nm_bool, nm_int, nm_str, nm_lst, nm_own, nm_agg, nm_ptr, nm_map, nm_fn, b_add, b_sub, b_mul, b_eq, b_ne, b_lt, b_le, b_gt, b_ge, s_eq, s_ne, q_int, q_str, q_bool, q_nil, q_if, b_eqS, b_neS, b_eqB, b_neB, Option.map_some, u_not, u_neg, l_str, l_lst, c_int, x_tup, after_none, fin_bool, fin_int, fin_str, fin_lst, fin_own, fin_tup, frz2_int, frz2_str, frz2_bool, frz2_lst, fa_ref, fa_ptr, ldc_ref, hlt, decide_true, if_true, ia_lst, hg, hld, hro, hc, findI, hpx]
    | false =>
      rw [hpx] at hc
      simp only [d_slices_IndexFunc_Lapi_SiteDecl_api_SiteDecl__l0, optK_s, opt2_s, opt3_s, ifK_b, guardK_t, guardK_f, guardB_bt, guardB_bf, pickV_t, pickV_f, gif_t, guardK_pure, ro_gif, pick_and, pick_or', grp_and, grp_or, grp_tt, grp_ft, grp_tf, grp_ff, letK_e, ro_bool, ro_int, ro_str, ro_lst, ro_own, ro_agg, ro_tup, ro_ptr, ro_map, ro_ref, ro_fn, ro_undef, nm_bool, nm_int, nm_str, nm_lst, nm_own, nm_agg, nm_ptr, nm_map, nm_fn, b_add, b_sub, b_mul, b_eq, b_ne, b_lt, b_le, b_gt, b_ge, s_eq, s_ne, q_int, q_str, q_bool, q_nil, q_if, b_eqS, b_neS, b_eqB, b_neB, Option.map_some, u_not, u_neg, l_str, l_lst, c_int, x_tup, after_none, fin_bool, fin_int, fin_str, fin_lst, fin_own, fin_tup, frz2_int, frz2_str, frz2_bool, frz2_lst, fa_ref, fa_ptr, ldc_ref, hlt, decide_true, if_true, ia_lst, hg, hld, hro, hc, findI, hpx, Bool.false_eq_true, if_false, hwr]
      exact ih
theorem e_ixf_Lapi_SiteDecl_api_SiteDecl_ (n : Nat) (hp : List AObj) (f : FuncId) (c : List AV) (p : List AV → Bool) (rows : List (List AV)) (hl : rows.length ≤ 4611686018427387) (hrow : ∀ r ∈ rows, r.length = 13 ∧ r.map AV.ro = r) (hf : ∀ r ∈ rows, evalCall C n f ([.agg r] ++ c.map AV.nm) hp = some (.bool (p r), hp, none)) :
    evalCall C (n + 1) F_slices_IndexFunc_Lapi_SiteDecl_api_SiteDecl_ [.lst 13 rows, .fn f [] c] hp = some (.int .i64 (findI p rows 0), hp, none) := by
  refine slices_IndexFunc_Lapi_SiteDecl_api_SiteDecl__run (by rw [hC.T]; rfl) ?_
  have h := e_ixf_Lapi_SiteDecl_api_SiteDecl__loop hC n hp (.fn f [] c) p rows hl hrow (fun r hr => by rw [callV_fn]; exact hf r hr) rows [] C.L rfl (by have := hC.L; omega)
  simp only [d_slices_IndexFunc_Lapi_SiteDecl_api_SiteDecl_, optK_s, opt2_s, opt3_s, ifK_b, guardK_t, guardK_f, guardB_bt, guardB_bf, pickV_t, pickV_f, gif_t, guardK_pure, ro_gif, pick_and, pick_or', grp_and, grp_or, grp_tt, grp_ft, grp_tf, grp_ff, letK_e, ro_bool, ro_int, ro_str, ro_lst, ro_own, ro_agg, ro_tup, ro_ptr, ro_map, ro_ref, ro_fn, ro_undef, nm_bool, nm_int, nm_str, nm_lst, nm_own, nm_agg, nm_ptr, nm_map, nm_fn, b_add, b_sub, b_mul, b_eq, b_ne, b_lt, b_le, b_gt, b_ge, s_eq, s_ne, q_int, q_str, q_bool, q_nil, q_if, b_eqS, b_neS, b_eqB, b_neB, Option.map_some, u_not, u_neg, l_str, l_lst, c_int, x_tup, after_none, fin_bool, fin_int, fin_str, fin_lst, fin_own, fin_tup, frz2_int, frz2_str, frz2_bool, frz2_lst, fa_ref, fa_ptr, ldc_ref]
  exact h

theorem e_ixf_Lapi_Routine_api_Routine__loop (n : Nat) (hp0 : List AObj) (fv : AV) (p : List AV → Bool) (rows : List (List AV)) (hl : rows.length ≤ 4611686018427387) (hrow : ∀ r ∈ rows, r.length = 4 ∧ r.map AV.ro = r) (hf : ∀ r ∈ rows, callV (evalCall C n) fv [.agg r] hp0 = some (.bool (p r), hp0, none)) : ∀ (r q : List (List AV)) (m : Nat), rows = q ++ r → r.length < m →
    d_slices_IndexFunc_Lapi_Routine_api_Routine__l0 C.G (evalCall C n) C.L hp0 (d_slices_IndexFunc_Lapi_Routine_api_Routine__j1 C.G (evalCall C n) C.L hp0) m (.lst 4 rows) fv (.int .i64 rows.length) (.int .i64 q.length) hp0 none = some (.int .i64 (findI p r q.length), hp0, none)
  | _, _, 0, _, h => by omega
  | [], q, m + 1, hs, _ => by
    have hlen : (rows.length : Int) = q.length := by rw [hs]; simp
    simp only [d_slices_IndexFunc_Lapi_Routine_api_Routine__l0, d_slices_IndexFunc_Lapi_Routine_api_Routine__j1, optK_s, opt2_s, opt3_s, ifK_b, guardK_t, guardK_f, guardB_bt, guardB_bf, pickV_t, pickV_f, gif_t, guardK_pure, ro_gif, pick_and, pick_or', grp_and, grp_or, grp_tt, grp_ft, grp_tf, grp_ff, letK_e, ro_bool, ro_int, ro_str, ro_lst, ro_own, ro_agg, ro_tup, ro_ptr, ro_map, ro_ref, ro_fn, ro_undef, nm_bool, nm_int, nm_str, nm_lst, nm_own, nm_agg, nm_ptr, nm_map, nm_fn, b_add, b_sub, b_mul, b_eq, b_ne, b_lt, b_le, b_gt, b_ge, s_eq, s_ne, q_int, q_str, q_bool, q_nil, q_if, b_eqS, b_neS, b_eqB, b_neB, Option.map_some, u_not, u_neg, l_str, l_lst, c_int, x_tup, after_none, fin_bool, fin_int, fin_str, fin_lst, fin_own, fin_tup, frz2_int, frz2_str, frz2_bool, frz2_lst, fa_ref, fa_ptr, ldc_ref, hlen, Int.lt_irrefl, decide_false, Bool.false_eq_true, if_false, findI]
  | x :: r, q, m + 1, hs, hm => by
    have hlen : (rows.length : Int) = q.length + (r.length + 1) := by rw [hs]; simp
    have hlt : (q.length : Int) < q.length + (r.length + 1) := by omega
    have hql : q.length + (r.length + 1) ≤ 4611686018427387 := by rw [hs] at hl; simpa using hl
    have hg : rows[q.length]? = some x := by rw [hs]; simp
    have hmem : x ∈ rows := by rw [hs]; simp
    obtain ⟨w1, w2⟩ := hrow x hmem
    have hro : (x.take 4).map AV.ro = x := by rw [List.take_of_length_le (by omega), w2]
    have hc := hf x hmem
    have ih := e_ixf_Lapi_Routine_api_Routine__loop n hp0 fv p rows hl hrow hf r (q ++ [x]) m (by rw [hs]; simp) (by simpa using hm)
    simp only [List.length_append, List.length_cons, List.length_nil, Nat.zero_add] at ih
    rw [hlen] at ih ⊢
    have hwr := wrap_nat q.length (by omega)
    have hld := lda_ref hp0 4 x (by omega)
    cases hpx : p x with
    | true =>
      rw [hpx] at hc
      simp only [d_slices_IndexFunc_Lapi_Routine_api_Routine__l0, optK_s, opt2_s, opt3_s, ifK_b, guardK_t, guardK_f, guardB_bt, guardB_bf, pickV_t, pickV_f, gif_t, guardK_pure, ro_gif, pick_and, pick_or', grp_and, grp_or, grp_tt, grp_ft, grp_tf, grp_ff, letK_e, ro_bool, ro_int, ro_str, ro_lst, ro_own, ro_agg, ro_tup, ro_ptr, ro_map, ro_ref, ro_fn, ro_undef, nm_bool, nm_int, nm_str, nm_lst, nm_own, nm_agg, nm_ptr, nm_map, nm_fn, b_add, b_sub, b_mul, b_eq, b_ne, b_lt, b_le, b_gt, b_ge, s_eq, s_ne, q_int, q_str, q_bool, q_nil, q_if, b_eqS, b_neS, b_eqB, b_neB, Option.map_some, u_not, u_neg, l_str, l_lst, c_int, x_tup, after_none, fin_bool, fin_int, fin_str, fin_lst, fin_own, fin_tup, frz2_int, frz2_str, frz2_bool, frz2_lst, fa_ref, fa_ptr, ldc_ref, hlt, decide_true, if_true, ia_lst, hg, hld, hro, hc, findI, hpx]
    | false =>
      rw [hpx] at hc
      simp only [d_slices_IndexFunc_Lapi_Routine_api_Routine__l0, optK_s, opt2_s, opt3_s, ifK_b, guardK_t, guardK_f, guardB_bt, guardB_bf, pickV_t, pickV_f, gif_t, guardK_pure, ro_gif, pick_and, pick_or', grp_and, grp_or, grp_tt, grp_ft, grp_tf, grp_ff, letK_e, ro_bool, ro_int, ro_str, ro_lst, ro_own, ro_agg, ro_tup, ro_ptr, ro_map, ro_ref, ro_fn, ro_undef, nm_bool, nm_int, nm_str, nm_lst, nm_own, nm_agg, nm_ptr, nm_map, nm_fn, b_add, b_sub, b_mul, b_eq, b_ne, b_lt, b_le, b_gt, b_ge, s_eq, s_ne, q_int, q_str, q_bool, q_nil, q_if, b_eqS, b_neS, b_eqB, b_neB, Option.map_some, u_not, u_neg, l_str, l_lst, c_int, x_tup, after_none, fin_bool, fin_int, fin_str, fin_lst, fin_own, fin_tup, frz2_int, frz2_str, frz2_bool, frz2_lst, fa_ref, fa_ptr, ldc_ref, hlt, decide_true, if_true, ia_lst, hg, hld, hro, hc, findI, hpx, Bool.false_eq_true, if_false, hwr]
      exact ih
theorem e_ixf_Lapi_Routine_api_Routine_ (n : Nat) (hp : List AObj) (f : FuncId) (c : List AV) (p : List AV → Bool) (rows : List (List AV)) (hl : rows.length ≤ 4611686018427387) (hrow : ∀ r ∈ rows, r.length = 4 ∧ r.map AV.ro = r) (hf : ∀ r ∈ rows, evalCall C n f ([.agg r] ++ c.map AV.nm) hp = some (.bool (p r), hp, none)) :
    evalCall C (n + 1) F_slices_IndexFunc_Lapi_Routine_api_Routine_ [.lst 4 rows, .fn f [] c] hp = some (.int .i64 (findI p rows 0), hp, none) := by
  refine slices_IndexFunc_Lapi_Routine_api_Routine__run (by rw [hC.T]; rfl) ?_
  have h := e_ixf_Lapi_Routine_api_Routine__loop hC n hp (.fn f [] c) p rows hl hrow (fun r hr => by rw [callV_fn]; exact hf r hr) rows [] C.L rfl (by have := hC.L; omega)
  simp only [d_slices_IndexFunc_Lapi_Routine_api_Routine_, optK_s, opt2_s, opt3_s, ifK_b, guardK_t, guardK_f, guardB_bt, guardB_bf, pickV_t, pickV_f, gif_t, guardK_pure, ro_gif, pick_and, pick_or', grp_and, grp_or, grp_tt, grp_ft, grp_tf, grp_ff, letK_e, ro_bool, ro_int, ro_str, ro_lst, ro_own, ro_agg, ro_tup, ro_ptr, ro_map, ro_ref, ro_fn, ro_undef, nm_bool, nm_int, nm_str, nm_lst, nm_own, nm_agg, nm_ptr, nm_map, nm_fn, b_add, b_sub, b_mul, b_eq, b_ne, b_lt, b_le, b_gt, b_ge, s_eq, s_ne, q_int, q_str, q_bool, q_nil, q_if, b_eqS, b_neS, b_eqB, b_neB, Option.map_some, u_not, u_neg, l_str, l_lst, c_int, x_tup, after_none, fin_bool, fin_int, fin_str, fin_lst, fin_own, fin_tup, frz2_int, frz2_str, frz2_bool, frz2_lst, fa_ref, fa_ptr, ldc_ref]
  exact h

theorem e_ixf_Lapi_Value_api_Value__loop (n : Nat) (hp0 : List AObj) (fv : AV) (p : List AV → Bool) (rows : List (List AV)) (hl : rows.length ≤ 4611686018427387) (hrow : ∀ r ∈ rows, r.length = 3 ∧ r.map AV.ro = r) (hf : ∀ r ∈ rows, callV (evalCall C n) fv [.agg r] hp0 = some (.bool (p r), hp0, none)) : ∀ (r q : List (List AV)) (m : Nat), rows = q ++ r → r.length < m →
    d_slices_IndexFunc_Lapi_Value_api_Value__l0 C.G (evalCall C n) C.L hp0 (d_slices_IndexFunc_Lapi_Value_api_Value__j1 C.G (evalCall C n) C.L hp0) m (.lst 3 rows) fv (.int .i64 rows.length) (.int .i64 q.length) hp0 none = some (.int .i64 (findI p r q.length), hp0, none)
  | _, _, 0, _, h => by omega
  | [], q, m + 1, hs, _ => by
    have hlen : (rows.length : Int) = q.length := by rw [hs]; simp
    simp only [d_slices_IndexFunc_Lapi_Value_api_Value__l0, d_slices_IndexFunc_Lapi_Value_api_Value__j1, optK_s, opt2_s, opt3_s, ifK_b, guardK_t, guardK_f, guardB_bt, guardB_bf, pickV_t, pickV_f, gif_t, guardK_pure, ro_gif, pick_and, pick_or', grp_and, grp_or, grp_tt, grp_ft, grp_tf, grp_ff, letK_e, ro_bool, ro_int, ro_str, ro_lst, ro_own, ro_agg, ro_tup, ro_ptr, ro_map, ro_ref, ro_fn, ro_undef, nm_bool, nm_int, nm_str, nm_lst, nm_own, nm_agg, nm_ptr, nm_map, nm_fn, b_add, b_sub, b_mul, b_eq, b_ne, b_lt, b_le, b_gt, b_ge, s_eq, s_ne, q_int, q_str, q_bool, q_nil, q_if, b_eqS, b_neS, b_eqB, b_neB, Option.map_some, u_not, u_neg, l_str, l_lst, c_int, x_tup, after_none, fin_bool, fin_int, fin_str, fin_lst, fin_own, fin_tup, frz2_int, frz2_str, frz2_bool, frz2_lst, fa_ref, fa_ptr, ldc_ref, hlen, Int.lt_irrefl, decide_false, Bool.false_eq_true, if_false, findI]
  | x :: r, q, m + 1, hs, hm => by
    have hlen : (rows.length : Int) = q.length + (r.length + 1) := by rw [hs]; simp
    have hlt : (q.length : Int) < q.length + (r.length + 1) := by omega
    have hql : q.length + (r.length + 1) ≤ 4611686018427387 := by rw [hs] at hl; simpa using hl
    have hg : rows[q.length]? = some x := by rw [hs]; simp
    have hmem : x ∈ rows := by rw [hs]; simp
    obtain ⟨w1, w2⟩ := hrow x hmem
    have hro : (x.take 3).map AV.ro = x := by rw [List.take_of_length_le (by omega), w2]
    have hc := hf x hmem
    have ih := e_ixf_Lapi_Value_api_Value__loop n hp0 fv p rows hl hrow hf r (q ++ [x]) m (by rw [hs]; simp) (by simpa using hm)
    simp only [List.length_append, List.length_cons, List.length_nil, Nat.zero_add] at ih
    rw [hlen] at ih ⊢
    have hwr := wrap_nat q.length (by omega)
    have hld := lda_ref hp0 3 x (by omega)
    cases hpx : p x with
    | true =>
      rw [hpx] at hc
      simp only [d_slices_IndexFunc_Lapi_Value_api_Value__l0, optK_s, opt2_s, opt3_s, ifK_b, guardK_t, guardK_f, guardB_bt, guardB_bf, pickV_t, pickV_f, gif_t, guardK_pure, ro_gif, pick_and, pick_or', grp_and, grp_or, grp_tt, grp_ft, grp_tf, grp_ff, letK_e, ro_bool, ro_int, ro_str, ro_lst, ro_own, ro_agg, ro_tup, ro_ptr, ro_map, ro_ref, ro_fn, ro_undef, nm_bool, nm_int, nm_str, nm_lst, nm_own, nm_agg, nm_ptr, nm_map, nm_fn, b_add, b_sub, b_mul, b_eq, b_ne, b_lt, b_le, b_gt, b_ge, s_eq, s_ne, q_int, q_str, q_bool, q_nil, q_if, b_eqS, b_neS, b_eqB, b_neB, Option.map_some, u_not, u_neg, l_str, l_lst, c_int, x_tup, after_none, fin_bool, fin_int, fin_str, fin_lst, fin_own, fin_tup, frz2_int, frz2_str, frz2_bool, frz2_lst, fa_ref, fa_ptr, ldc_ref, hlt, decide_true, if_true, ia_lst, hg, hld, hro, hc, findI, hpx]
    | false =>
      rw [hpx] at hc
      simp only [d_slices_IndexFunc_Lapi_Value_api_Value__l0, optK_s, opt2_s, opt3_s, ifK_b, guardK_t, guardK_f, guardB_bt, guardB_bf, pickV_t, pickV_f, gif_t, guardK_pure, ro_gif, pick_and, pick_or', grp_and, grp_or, grp_tt, grp_ft, grp_tf, grp_ff, letK_e, ro_bool, ro_int, ro_str, ro_lst, ro_own, ro_agg, ro_tup, ro_ptr, ro_map, ro_ref, ro_fn, ro_undef, nm_bool, nm_int, nm_str, nm_lst, nm_own, nm_agg, nm_ptr, nm_map, nm_fn, b_add, b_sub, b_mul, b_eq, b_ne, b_lt, b_le, b_gt, b_ge, s_eq, s_ne, q_int, q_str, q_bool, q_nil, q_if, b_eqS, b_neS, b_eqB, b_neB, Option.map_some, u_not, u_neg, l_str, l_lst, c_int, x_tup, after_none, fin_bool, fin_int, fin_str, fin_lst, fin_own, fin_tup, frz2_int, frz2_str, frz2_bool, frz2_lst, fa_ref, fa_ptr, ldc_ref, hlt, decide_true, if_true, ia_lst, hg, hld, hro, hc, findI, hpx, Bool.false_eq_true, if_false, hwr]
      exact ih
theorem e_ixf_Lapi_Value_api_Value_ (n : Nat) (hp : List AObj) (f : FuncId) (c : List AV) (p : List AV → Bool) (rows : List (List AV)) (hl : rows.length ≤ 4611686018427387) (hrow : ∀ r ∈ rows, r.length = 3 ∧ r.map AV.ro = r) (hf : ∀ r ∈ rows, evalCall C n f ([.agg r] ++ c.map AV.nm) hp = some (.bool (p r), hp, none)) :
    evalCall C (n + 1) F_slices_IndexFunc_Lapi_Value_api_Value_ [.lst 3 rows, .fn f [] c] hp = some (.int .i64 (findI p rows 0), hp, none) := by
  refine slices_IndexFunc_Lapi_Value_api_Value__run (by rw [hC.T]; rfl) ?_
  have h := e_ixf_Lapi_Value_api_Value__loop hC n hp (.fn f [] c) p rows hl hrow (fun r hr => by rw [callV_fn]; exact hf r hr) rows [] C.L rfl (by have := hC.L; omega)
  simp only [d_slices_IndexFunc_Lapi_Value_api_Value_, optK_s, opt2_s, opt3_s, ifK_b, guardK_t, guardK_f, guardB_bt, guardB_bf, pickV_t, pickV_f, gif_t, guardK_pure, ro_gif, pick_and, pick_or', grp_and, grp_or, grp_tt, grp_ft, grp_tf, grp_ff, letK_e, ro_bool, ro_int, ro_str, ro_lst, ro_own, ro_agg, ro_tup, ro_ptr, ro_map, ro_ref, ro_fn, ro_undef, nm_bool, nm_int, nm_str, nm_lst, nm_own, nm_agg, nm_ptr, nm_map, nm_fn, b_add, b_sub, b_mul, b_eq, b_ne, b_lt, b_le, b_gt, b_ge, s_eq, s_ne, q_int, q_str, q_bool, q_nil, q_if, b_eqS, b_neS, b_eqB, b_neB, Option.map_some, u_not, u_neg, l_str, l_lst, c_int, x_tup, after_none, fin_bool, fin_int, fin_str, fin_lst, fin_own, fin_tup, frz2_int, frz2_str, frz2_bool, frz2_lst, fa_ref, fa_ptr, ldc_ref]
  exact h

theorem e_ixf_Lapi_ResourceDecl_api_ResourceDecl__loop (n : Nat) (hp0 : List AObj) (fv : AV) (p : List AV → Bool) (rows : List (List AV)) (hl : rows.length ≤ 4611686018427387) (hrow : ∀ r ∈ rows, r.length = 17 ∧ r.map AV.ro = r) (hf : ∀ r ∈ rows, callV (evalCall C n) fv [.agg r] hp0 = some (.bool (p r), hp0, none)) : ∀ (r q : List (List AV)) (m : Nat), rows = q ++ r → r.length < m →
    d_slices_IndexFunc_Lapi_ResourceDecl_api_ResourceDecl__l0 C.G (evalCall C n) C.L hp0 (d_slices_IndexFunc_Lapi_ResourceDecl_api_ResourceDecl__j1 C.G (evalCall C n) C.L hp0) m (.lst 17 rows) fv (.int .i64 rows.length) (.int .i64 q.length) hp0 none = some (.int .i64 (findI p r q.length), hp0, none)
  | _, _, 0, _, h => by omega
  | [], q, m + 1, hs, _ => by
    have hlen : (rows.length : Int) = q.length := by rw [hs]; simp
    simp only [d_slices_IndexFunc_Lapi_ResourceDecl_api_ResourceDecl__l0, d_slices_IndexFunc_Lapi_ResourceDecl_api_ResourceDecl__j1, optK_s, opt2_s, opt3_s, ifK_b, guardK_t, guardK_f, guardB_bt, guardB_bf, pickV_t, pickV_f, gif_t, guardK_pure, ro_gif, pick_and, pick_or', grp_and, grp_or, grp_tt, grp_ft, grp_tf, grp_ff, letK_e, ro_bool, ro_int, ro_str, ro_lst, ro_own, ro_agg, ro_tup, ro_ptr, ro_map, ro_ref, ro_fn, ro_undef, nm_bool, nm_int, nm_str, nm_lst, nm_own, nm_agg, nm_ptr, nm_map, nm_fn, b_add, b_sub, b_mul, b_eq, b_ne, b_lt, b_le, b_gt, b_ge, s_eq, s_ne, q_int, q_str, q_bool, q_nil, q_if, b_eqS, b_neS, b_eqB, b_neB, Option.map_some, u_not, u_neg, l_str, l_lst, c_int, x_tup, after_none, fin_bool, fin_int, fin_str, fin_lst, fin_own, fin_tup, frz2_int, frz2_str, frz2_bool, frz2_lst, fa_ref, fa_ptr, ldc_ref, hlen, Int.lt_irrefl, decide_false, Bool.false_eq_true, if_false, findI]
  | x :: r, q, m + 1, hs, hm => by
    have hlen : (rows.length : Int) = q.length + (r.length + 1) := by rw [hs]; simp
    have hlt : (q.length : Int) < q.length + (r.length + 1) := by omega
    have hql : q.length + (r.length + 1) ≤ 4611686018427387 := by rw [hs] at hl; simpa using hl
    have hg : rows[q.length]? = some x := by rw [hs]; simp
    have hmem : x ∈ rows := by rw [hs]; simp
    obtain ⟨w1, w2⟩ := hrow x hmem
    have hro : (x.take 17).map AV.ro = x := by rw [List.take_of_length_le (by omega), w2]
    have hc := hf x hmem
    have ih := e_ixf_Lapi_ResourceDecl_api_ResourceDecl__loop n hp0 fv p rows hl hrow hf r (q ++ [x]) m (by rw [hs]; simp) (by simpa using hm)
    simp only [List.length_append, List.length_cons, List.length_nil, Nat.zero_add] at ih
    rw [hlen] at ih ⊢
    have hwr := wrap_nat q.length (by omega)
    have hld := lda_ref hp0 17 x (by omega)
    cases hpx : p x with
    | true =>
      rw [hpx] at hc
      simp only [d_slices_IndexFunc_Lapi_ResourceDecl_api_ResourceDecl__l0, optK_s, opt2_s, opt3_s, ifK_b, guardK_t, guardK_f, guardB_bt, guardB_bf, pickV_t, pickV_f, gif_t, guardK_pure, ro_gif, pick_and, pick_or', grp_and, grp_or, grp_tt, grp_ft, grp_tf, grp_ff, letK_e, ro_bool, ro_int, ro_str, ro_lst, ro_own, ro_agg, ro_tup, ro_ptr, ro_map, ro_ref, ro_fn, ro_undef, nm_bool, nm_int, nm_str, nm_lst, nm_own, nm_agg, nm_ptr, nm_map, nm_fn, b_add, b_sub, b_mul, b_eq, b_ne, b_lt, b_le, b_gt, b_ge, s_eq, s_ne, q_int, q_str, q_bool, q_nil, q_if, b_eqS, b_neS, b_eqB, b_neB, Option.map_some, u_not, u_neg, l_str, l_lst, c_int, x_tup, after_none, fin_bool, fin_int, fin_str, fin_lst, fin_own, fin_tup, frz2_int, frz2_str, frz2_bool, frz2_lst, fa_ref, fa_ptr, ldc_ref, hlt, decide_true, if_true, ia_lst, hg, hld, hro, hc, findI, hpx]
    | false =>
      rw [hpx] at hc
      simp only [d_slices_IndexFunc_Lapi_ResourceDecl_api_ResourceDecl__l0, optK_s, opt2_s, opt3_s, ifK_b, guardK_t, guardK_f, guardB_bt, guardB_bf, pickV_t, pickV_f, gif_t, guardK_pure, ro_gif, pick_and, pick_or', grp_and, grp_or, grp_tt, grp_ft, grp_tf, grp_ff, letK_e, ro_bool, ro_int, ro_str, ro_lst, ro_own, ro_agg, ro_tup, ro_ptr, ro_map, ro_ref, ro_fn, ro_undef, nm_bool, nm_int, nm_str, nm_lst, nm_own, nm_agg, nm_ptr, nm_map, nm_fn, b_add, b_sub, b_mul, b_eq, b_ne, b_lt, b_le, b_gt, b_ge, s_eq, s_ne, q_int, q_str, q_bool, q_nil, q_if, b_eqS, b_neS, b_eqB, b_neB, Option.map_some, u_not, u_neg, l_str, l_lst, c_int, x_tup, after_none, fin_bool, fin_int, fin_str, fin_lst, fin_own, fin_tup, frz2_int, frz2_str, frz2_bool, frz2_lst, fa_ref, fa_ptr, ldc_ref, hlt, decide_true, if_true, ia_lst, hg, hld, hro, hc, findI, hpx, Bool.false_eq_true, if_false, hwr]
      exact ih
theorem e_ixf_Lapi_ResourceDecl_api_ResourceDecl_ (n : Nat) (hp : List AObj) (f : FuncId) (c : List AV) (p : List AV → Bool) (rows : List (List AV)) (hl : rows.length ≤ 4611686018427387) (hrow : ∀ r ∈ rows, r.length = 17 ∧ r.map AV.ro = r) (hf : ∀ r ∈ rows, evalCall C n f ([.agg r] ++ c.map AV.nm) hp = some (.bool (p r), hp, none)) :
    evalCall C (n + 1) F_slices_IndexFunc_Lapi_ResourceDecl_api_ResourceDecl_ [.lst 17 rows, .fn f [] c] hp = some (.int .i64 (findI p rows 0), hp, none) := by
  refine slices_IndexFunc_Lapi_ResourceDecl_api_ResourceDecl__run (by rw [hC.T]; rfl) ?_
  have h := e_ixf_Lapi_ResourceDecl_api_ResourceDecl__loop hC n hp (.fn f [] c) p rows hl hrow (fun r hr => by rw [callV_fn]; exact hf r hr) rows [] C.L rfl (by have := hC.L; omega)
  simp only [d_slices_IndexFunc_Lapi_ResourceDecl_api_ResourceDecl_, optK_s, opt2_s, opt3_s, ifK_b, guardK_t, guardK_f, guardB_bt, guardB_bf, pickV_t, pickV_f, gif_t, guardK_pure, ro_gif, pick_and, pick_or', grp_and, grp_or, grp_tt, grp_ft, grp_tf, grp_ff, letK_e, ro_bool, ro_int, ro_str, ro_lst, ro_own, ro_agg, ro_tup, ro_ptr, ro_map, ro_ref, ro_fn, ro_undef, nm_bool, nm_int, nm_str, nm_lst, nm_own, nm_agg, nm_ptr, nm_map, nm_fn, b_add, b_sub, b_mul, b_eq, b_ne, b_lt, b_le, b_gt, b_ge, s_eq, s_ne, q_int, q_str, q_bool, q_nil, q_if, b_eqS, b_neS, b_eqB, b_neB, Option.map_some, u_not, u_neg, l_str, l_lst, c_int, x_tup, after_none, fin_bool, fin_int, fin_str, fin_lst, fin_own, fin_tup, frz2_int, frz2_str, frz2_bool, frz2_lst, fa_ref, fa_ptr, ldc_ref]
  exact h

theorem e_ixf_Lapi_StoreDecl_api_StoreDecl__loop (n : Nat) (hp0 : List AObj) (fv : AV) (p : List AV → Bool) (rows : List (List AV)) (hl : rows.length ≤ 4611686018427387) (hrow : ∀ r ∈ rows, r.length = 3 ∧ r.map AV.ro = r) (hf : ∀ r ∈ rows, callV (evalCall C n) fv [.agg r] hp0 = some (.bool (p r), hp0, none)) : ∀ (r q : List (List AV)) (m : Nat), rows = q ++ r → r.length < m →
    d_slices_IndexFunc_Lapi_StoreDecl_api_StoreDecl__l0 C.G (evalCall C n) C.L hp0 (d_slices_IndexFunc_Lapi_StoreDecl_api_StoreDecl__j1 C.G (evalCall C n) C.L hp0) m (.lst 3 rows) fv (.int .i64 rows.length) (.int .i64 q.length) hp0 none = some (.int .i64 (findI p r q.length), hp0, none)
  | _, _, 0, _, h => by omega
  | [], q, m + 1, hs, _ => by
    have hlen : (rows.length : Int) = q.length := by rw [hs]; simp
    simp only [d_slices_IndexFunc_Lapi_StoreDecl_api_StoreDecl__l0, d_slices_IndexFunc_Lapi_StoreDecl_api_StoreDecl__j1, optK_s, opt2_s, opt3_s, ifK_b, guardK_t, guardK_f, guardB_bt, guardB_bf, pickV_t, pickV_f, gif_t, guardK_pure, ro_gif, pick_and, pick_or', grp_and, grp_or, grp_tt, grp_ft, grp_tf, grp_ff, letK_e, ro_bool, ro_int, ro_str, ro_lst, ro_own, ro_agg, ro_tup, ro_ptr, ro_map, ro_ref, ro_fn, ro_undef, nm_bool, nm_int, nm_str, nm_lst, nm_own, nm_agg, nm_ptr, nm_map, nm_fn, b_add, b_sub, b_mul, b_eq, b_ne, b_lt, b_le, b_gt, b_ge, s_eq, s_ne, q_int, q_str, q_bool, q_nil, q_if, b_eqS, b_neS, b_eqB, b_neB, Option.map_some, u_not, u_neg, l_str, l_lst, c_int, x_tup, after_none, fin_bool, fin_int, fin_str, fin_lst, fin_own, fin_tup, frz2_int, frz2_str, frz2_bool, frz2_lst, fa_ref, fa_ptr, ldc_ref, hlen, Int.lt_irrefl, decide_false, Bool.false_eq_true, if_false, findI]
  | x :: r, q, m + 1, hs, hm => by
    have hlen : (rows.length : Int) = q.length + (r.length + 1) := by rw [hs]; simp
    have hlt : (q.length : Int) < q.length + (r.length + 1) := by omega
    have hql : q.length + (r.length + 1) ≤ 4611686018427387 := by rw [hs] at hl; simpa using hl
    have hg : rows[q.length]? = some x := by rw [hs]; simp
    have hmem : x ∈ rows := by rw [hs]; simp
    obtain ⟨w1, w2⟩ := hrow x hmem
    have hro : (x.take 3).map AV.ro = x := by rw [List.take_of_length_le (by omega), w2]
    have hc := hf x hmem
    have ih := e_ixf_Lapi_StoreDecl_api_StoreDecl__loop n hp0 fv p rows hl hrow hf r (q ++ [x]) m (by rw [hs]; simp) (by simpa using hm)
    simp only [List.length_append, List.length_cons, List.length_nil, Nat.zero_add] at ih
    rw [hlen] at ih ⊢
    have hwr := wrap_nat q.length (by omega)
    have hld := lda_ref hp0 3 x (by omega)
    cases hpx : p x with
    | true =>
      rw [hpx] at hc
      simp only [d_slices_IndexFunc_Lapi_StoreDecl_api_StoreDecl__l0, optK_s, opt2_s, opt3_s, ifK_b, guardK_t, guardK_f, guardB_bt, guardB_bf, pickV_t, pickV_f, gif_t, guardK_pure, ro_gif, pick_and, pick_or', grp_and, grp_or, grp_tt, grp_ft, grp_tf, grp_ff, letK_e, ro_bool, ro_int, ro_str, ro_lst, ro_own, ro_agg, ro_tup, ro_ptr, ro_map, ro_ref, ro_fn, ro_undef, nm_bool, nm_int, nm_str, nm_lst, nm_own, nm_agg, nm_ptr, nm_map, nm_fn, b_add, b_sub, b_mul, b_eq, b_ne, b_lt, b_le, b_gt, b_ge, s_eq, s_ne, q_int, q_str, q_bool, q_nil, q_if, b_eqS, b_neS, b_eqB, b_neB, Option.map_some, u_not, u_neg, l_str, l_lst, c_int, x_tup, after_none, fin_bool, fin_int, fin_str, fin_lst, fin_own, fin_tup, frz2_int, frz2_str, frz2_bool, frz2_lst, fa_ref, fa_ptr, ldc_ref, hlt, decide_true, if_true, ia_lst, hg, hld, hro, hc, findI, hpx]
    | false =>
      rw [hpx] at hc
      simp only [d_slices_IndexFunc_Lapi_StoreDecl_api_StoreDecl__l0, optK_s, opt2_s, opt3_s, ifK_b, guardK_t, guardK_f, guardB_bt, guardB_bf, pickV_t, pickV_f, gif_t, guardK_pure, ro_gif, pick_and, pick_or', grp_and, grp_or, grp_tt, grp_ft, grp_tf, grp_ff, letK_e, ro_bool, ro_int, ro_str, ro_lst, ro_own, ro_agg, ro_tup, ro_ptr, ro_map, ro_ref, ro_fn, ro_undef, nm_bool, nm_int, nm_str, nm_lst, nm_own, nm_agg, nm_ptr, nm_map, nm_fn, b_add, b_sub, b_mul, b_eq, b_ne, b_lt, b_le, b_gt, b_ge, s_eq, s_ne, q_int, q_str, q_bool, q_nil, q_if, b_eqS, b_neS, b_eqB, b_neB, Option.map_some, u_not, u_neg, l_str, l_lst, c_int, x_tup, after_none, fin_bool, fin_int, fin_str, fin_lst, fin_own, fin_tup, frz2_int, frz2_str, frz2_bool, frz2_lst, fa_ref, fa_ptr, ldc_ref, hlt, decide_true, if_true, ia_lst, hg, hld, hro, hc, findI, hpx, Bool.false_eq_true, if_false, hwr]
      exact ih
theorem e_ixf_Lapi_StoreDecl_api_StoreDecl_ (n : Nat) (hp : List AObj) (f : FuncId) (c : List AV) (p : List AV → Bool) (rows : List (List AV)) (hl : rows.length ≤ 4611686018427387) (hrow : ∀ r ∈ rows, r.length = 3 ∧ r.map AV.ro = r) (hf : ∀ r ∈ rows, evalCall C n f ([.agg r] ++ c.map AV.nm) hp = some (.bool (p r), hp, none)) :
    evalCall C (n + 1) F_slices_IndexFunc_Lapi_StoreDecl_api_StoreDecl_ [.lst 3 rows, .fn f [] c] hp = some (.int .i64 (findI p rows 0), hp, none) := by
  refine slices_IndexFunc_Lapi_StoreDecl_api_StoreDecl__run (by rw [hC.T]; rfl) ?_
  have h := e_ixf_Lapi_StoreDecl_api_StoreDecl__loop hC n hp (.fn f [] c) p rows hl hrow (fun r hr => by rw [callV_fn]; exact hf r hr) rows [] C.L rfl (by have := hC.L; omega)
  simp only [d_slices_IndexFunc_Lapi_StoreDecl_api_StoreDecl_, optK_s, opt2_s, opt3_s, ifK_b, guardK_t, guardK_f, guardB_bt, guardB_bf, pickV_t, pickV_f, gif_t, guardK_pure, ro_gif, pick_and, pick_or', grp_and, grp_or, grp_tt, grp_ft, grp_tf, grp_ff, letK_e, ro_bool, ro_int, ro_str, ro_lst, ro_own, ro_agg, ro_tup, ro_ptr, ro_map, ro_ref, ro_fn, ro_undef, nm_bool, nm_int, nm_str, nm_lst, nm_own, nm_agg, nm_ptr, nm_map, nm_fn, b_add, b_sub, b_mul, b_eq, b_ne, b_lt, b_le, b_gt, b_ge, s_eq, s_ne, q_int, q_str, q_bool, q_nil, q_if, b_eqS, b_neS, b_eqB, b_neB, Option.map_some, u_not, u_neg, l_str, l_lst, c_int, x_tup, after_none, fin_bool, fin_int, fin_str, fin_lst, fin_own, fin_tup, frz2_int, frz2_str, frz2_bool, frz2_lst, fa_ref, fa_ptr, ldc_ref]
  exact h

theorem e_ixf_Lapi_BeltDecl_api_BeltDecl__loop (n : Nat) (hp0 : List AObj) (fv : AV) (p : List AV → Bool) (rows : List (List AV)) (hl : rows.length ≤ 4611686018427387) (hrow : ∀ r ∈ rows, r.length = 3 ∧ r.map AV.ro = r) (hf : ∀ r ∈ rows, callV (evalCall C n) fv [.agg r] hp0 = some (.bool (p r), hp0, none)) : ∀ (r q : List (List AV)) (m : Nat), rows = q ++ r → r.length < m →
    d_slices_IndexFunc_Lapi_BeltDecl_api_BeltDecl__l0 C.G (evalCall C n) C.L hp0 (d_slices_IndexFunc_Lapi_BeltDecl_api_BeltDecl__j1 C.G (evalCall C n) C.L hp0) m (.lst 3 rows) fv (.int .i64 rows.length) (.int .i64 q.length) hp0 none = some (.int .i64 (findI p r q.length), hp0, none)
  | _, _, 0, _, h => by omega
  | [], q, m + 1, hs, _ => by
    have hlen : (rows.length : Int) = q.length := by rw [hs]; simp
    simp only [d_slices_IndexFunc_Lapi_BeltDecl_api_BeltDecl__l0, d_slices_IndexFunc_Lapi_BeltDecl_api_BeltDecl__j1, optK_s, opt2_s, opt3_s, ifK_b, guardK_t, guardK_f, guardB_bt, guardB_bf, pickV_t, pickV_f, gif_t, guardK_pure, ro_gif, pick_and, pick_or', grp_and, grp_or, grp_tt, grp_ft, grp_tf, grp_ff, letK_e, ro_bool, ro_int, ro_str, ro_lst, ro_own, ro_agg, ro_tup, ro_ptr, ro_map, ro_ref, ro_fn, ro_undef, nm_bool, nm_int, nm_str, nm_lst, nm_own, nm_agg, nm_ptr, nm_map, nm_fn, b_add, b_sub, b_mul, b_eq, b_ne, b_lt, b_le, b_gt, b_ge, s_eq, s_ne, q_int, q_str, q_bool, q_nil, q_if, b_eqS, b_neS, b_eqB, b_neB, Option.map_some, u_not, u_neg, l_str, l_lst, c_int, x_tup, after_none, fin_bool, fin_int, fin_str, fin_lst, fin_own, fin_tup, frz2_int, frz2_str, frz2_bool, frz2_lst, fa_ref, fa_ptr, ldc_ref, hlen, Int.lt_irrefl, decide_false, Bool.false_eq_true, if_false, findI]
  | x :: r, q, m + 1, hs, hm => by
    have hlen : (rows.length : Int) = q.length + (r.length + 1) := by rw [hs]; simp
    have hlt : (q.length : Int) < q.length + (r.length + 1) := by omega
    have hql : q.length + (r.length + 1) ≤ 4611686018427387 := by rw [hs] at hl; simpa using hl
    have hg : rows[q.length]? = some x := by rw [hs]; simp
    have hmem : x ∈ rows := by rw [hs]; simp
    obtain ⟨w1, w2⟩ := hrow x hmem
    have hro : (x.take 3).map AV.ro = x := by rw [List.take_of_length_le (by omega), w2]
    have hc := hf x hmem
    have ih := e_ixf_Lapi_BeltDecl_api_BeltDecl__loop n hp0 fv p rows hl hrow hf r (q ++ [x]) m (by rw [hs]; simp) (by simpa using hm)
    simp only [List.length_append, List.length_cons, List.length_nil, Nat.zero_add] at ih
    rw [hlen] at ih ⊢
    have hwr := wrap_nat q.length (by omega)
    have hld := lda_ref hp0 3 x (by omega)
    cases hpx : p x with
    | true =>
      rw [hpx] at hc
      simp only [d_slices_IndexFunc_Lapi_BeltDecl_api_BeltDecl__l0, optK_s, opt2_s, opt3_s, ifK_b, guardK_t, guardK_f, guardB_bt, guardB_bf, pickV_t, pickV_f, gif_t, guardK_pure, ro_gif, pick_and, pick_or', grp_and, grp_or, grp_tt, grp_ft, grp_tf, grp_ff, letK_e, ro_bool, ro_int, ro_str, ro_lst, ro_own, ro_agg, ro_tup, ro_ptr, ro_map, ro_ref, ro_fn, ro_undef, nm_bool, nm_int, nm_str, nm_lst, nm_own, nm_agg, nm_ptr, nm_map, nm_fn, b_add, b_sub, b_mul, b_eq, b_ne, b_lt, b_le, b_gt, b_ge, s_eq, s_ne, q_int, q_str, q_bool, q_nil, q_if, b_eqS, b_neS, b_eqB, b_neB, Option.map_some, u_not, u_neg, l_str, l_lst, c_int, x_tup, after_none, fin_bool, fin_int, fin_str, fin_lst, fin_own, fin_tup, frz2_int, frz2_str, frz2_bool, frz2_lst, fa_ref, fa_ptr, ldc_ref, hlt, decide_true, if_true, ia_lst, hg, hld, hro, hc, findI, hpx]
    | false =>
      rw [hpx] at hc
      simp only [d_slices_IndexFunc_Lapi_BeltDecl_api_BeltDecl__l0, optK_s, opt2_s, opt3_s, ifK_b, guardK_t, guardK_f, guardB_bt, guardB_bf, pickV_t, pickV_f, gif_t, guardK_pure, ro_gif, pick_and, pick_or', grp_and, grp_or, grp_tt, grp_ft, grp_tf, grp_ff, letK_e, ro_bool, ro_int, ro_str, ro_lst, ro_own, ro_agg, ro_tup, ro_ptr, ro_map, ro_ref, ro_fn, ro_undef, nm_bool, nm_int, nm_str, nm_lst, nm_own, nm_agg, nm_ptr, nm_map, nm_fn, b_add, b_sub, b_mul, b_eq, b_ne, b_lt, b_le, b_gt, b_ge, s_eq, s_ne, q_int, q_str, q_bool, q_nil, q_if, b_eqS, b_neS, b_eqB, b_neB, Option.map_some, u_not, u_neg, l_str, l_lst, c_int, x_tup, after_none, fin_bool, fin_int, fin_str, fin_lst, fin_own, fin_tup, frz2_int, frz2_str, frz2_bool, frz2_lst, fa_ref, fa_ptr, ldc_ref, hlt, decide_true, if_true, ia_lst, hg, hld, hro, hc, findI, hpx, Bool.false_eq_true, if_false, hwr]
      exact ih
theorem e_ixf_Lapi_BeltDecl_api_BeltDecl_ (n : Nat) (hp : List AObj) (f : FuncId) (c : List AV) (p : List AV → Bool) (rows : List (List AV)) (hl : rows.length ≤ 4611686018427387) (hrow : ∀ r ∈ rows, r.length = 3 ∧ r.map AV.ro = r) (hf : ∀ r ∈ rows, evalCall C n f ([.agg r] ++ c.map AV.nm) hp = some (.bool (p r), hp, none)) :
    evalCall C (n + 1) F_slices_IndexFunc_Lapi_BeltDecl_api_BeltDecl_ [.lst 3 rows, .fn f [] c] hp = some (.int .i64 (findI p rows 0), hp, none) := by
  refine slices_IndexFunc_Lapi_BeltDecl_api_BeltDecl__run (by rw [hC.T]; rfl) ?_
  have h := e_ixf_Lapi_BeltDecl_api_BeltDecl__loop hC n hp (.fn f [] c) p rows hl hrow (fun r hr => by rw [callV_fn]; exact hf r hr) rows [] C.L rfl (by have := hC.L; omega)
  simp only [d_slices_IndexFunc_Lapi_BeltDecl_api_BeltDecl_, optK_s, opt2_s, opt3_s, ifK_b, guardK_t, guardK_f, guardB_bt, guardB_bf, pickV_t, pickV_f, gif_t, guardK_pure, ro_gif, pick_and, pick_or', grp_and, grp_or, grp_tt, grp_ft, grp_tf, grp_ff, letK_e, ro_bool, ro_int, ro_str, ro_lst, ro_own, ro_agg, ro_tup, ro_ptr, ro_map, ro_ref, ro_fn, ro_undef, nm_bool, nm_int, nm_str, nm_lst, nm_own, nm_agg, nm_ptr, nm_map, nm_fn, b_add, b_sub, b_mul, b_eq, b_ne, b_lt, b_le, b_gt, b_ge, s_eq, s_ne, q_int, q_str, q_bool, q_nil, q_if, b_eqS, b_neS, b_eqB, b_neB, Option.map_some, u_not, u_neg, l_str, l_lst, c_int, x_tup, after_none, fin_bool, fin_int, fin_str, fin_lst, fin_own, fin_tup, frz2_int, frz2_str, frz2_bool, frz2_lst, fa_ref, fa_ptr, ldc_ref]
  exact h

theorem e_cl_model_Site_1 (n : Nat) (hp : List AObj) (s name : List UInt8) (r : List AV) (hr : r.length + 1 = 13) (g : Nat) (hg : hp[g]? = some (.cells [.str name] ty_string)) :
    evalCall C (n + 1) F_model_Site_1 [.agg (.str s :: r), .ptr g 0] hp = some (.bool (decide (s = name)), hp, none) := by
  refine model_Site_1_run (by rw [hC.T]; rfl) ?_
  have hlt : g < hp.length := (List.getElem?_eq_some_iff.1 hg).1
  have hg' : (hp ++ [AObj.cells (.str s :: r) ty_api_SiteDecl])[g]? = some (.cells [.str name] ty_string) := by rw [List.getElem?_append_left hlt]; exact hg
  have l0 : ldcVal (hp ++ [AObj.cells (.str s :: r) ty_api_SiteDecl]) (.ptr hp.length (0 + 0)) = some (.str s) := ldc_last hp _ _ 0
  have l1 : ldcVal (hp ++ [AObj.cells (.str s :: r) ty_api_SiteDecl]) (.ptr g 0) = some (.str name) := ldc_get hg' 0
  simp only [d_model_Site_1, optK_s, opt2_s, opt3_s, ifK_b, guardK_t, guardK_f, guardB_bt, guardB_bf, pickV_t, pickV_f, gif_t, guardK_pure, ro_gif, pick_and, pick_or', grp_and, grp_or, grp_tt, grp_ft, grp_tf, grp_ff, letK_e, ro_bool, ro_int, ro_str, ro_lst, ro_own, ro_agg, ro_tup, ro_ptr, ro_map, ro_ref, ro_fn, ro_undef, nm_bool, nm_int, nm_str, nm_lst, nm_own, nm_agg, nm_ptr, nm_map, nm_fn, b_add, b_sub, b_mul, b_eq, b_ne, b_lt, b_le, b_gt, b_ge, s_eq, s_ne, q_int, q_str, q_bool, q_nil, q_if, b_eqS, b_neS, b_eqB, b_neB, Option.map_some, u_not, u_neg, l_str, l_lst, c_int, x_tup, after_none, fin_bool, fin_int, fin_str, fin_lst, fin_own, fin_tup, frz2_int, frz2_str, frz2_bool, frz2_lst, fa_ref, fa_ptr, ldc_ref, box_agg 13 (.str s :: r) (by simpa using hr), l0, l1]

theorem e_cl_model_Routine_1 (n : Nat) (hp : List AObj) (s name : List UInt8) (r : List AV) (hr : r.length + 1 = 4) (g : Nat) (hg : hp[g]? = some (.cells [.str name] ty_string)) :
    evalCall C (n + 1) F_model_Routine_1 [.agg (.str s :: r), .ptr g 0] hp = some (.bool (decide (s = name)), hp, none) := by
  refine model_Routine_1_run (by rw [hC.T]; rfl) ?_
  have hlt : g < hp.length := (List.getElem?_eq_some_iff.1 hg).1
  have hg' : (hp ++ [AObj.cells (.str s :: r) ty_api_Routine])[g]? = some (.cells [.str name] ty_string) := by rw [List.getElem?_append_left hlt]; exact hg
  have l0 : ldcVal (hp ++ [AObj.cells (.str s :: r) ty_api_Routine]) (.ptr hp.length (0 + 0)) = some (.str s) := ldc_last hp _ _ 0
  have l1 : ldcVal (hp ++ [AObj.cells (.str s :: r) ty_api_Routine]) (.ptr g 0) = some (.str name) := ldc_get hg' 0
  simp only [d_model_Routine_1, optK_s, opt2_s, opt3_s, ifK_b, guardK_t, guardK_f, guardB_bt, guardB_bf, pickV_t, pickV_f, gif_t, guardK_pure, ro_gif, pick_and, pick_or', grp_and, grp_or, grp_tt, grp_ft, grp_tf, grp_ff, letK_e, ro_bool, ro_int, ro_str, ro_lst, ro_own, ro_agg, ro_tup, ro_ptr, ro_map, ro_ref, ro_fn, ro_undef, nm_bool, nm_int, nm_str, nm_lst, nm_own, nm_agg, nm_ptr, nm_map, nm_fn, b_add, b_sub, b_mul, b_eq, b_ne, b_lt, b_le, b_gt, b_ge, s_eq, s_ne, q_int, q_str, q_bool, q_nil, q_if, b_eqS, b_neS, b_eqB, b_neB, Option.map_some, u_not, u_neg, l_str, l_lst, c_int, x_tup, after_none, fin_bool, fin_int, fin_str, fin_lst, fin_own, fin_tup, frz2_int, frz2_str, frz2_bool, frz2_lst, fa_ref, fa_ptr, ldc_ref, box_agg 4 (.str s :: r) (by simpa using hr), l0, l1]

theorem e_cl_model_place_1 (n : Nat) (hp : List AObj) (s name : List UInt8) (r : List AV) (hr : r.length + 1 = 3) (g : Nat) (hg : hp[g]? = some (.cells [.str name] ty_string)) :
    evalCall C (n + 1) F_model_place_1 [.agg (.str s :: r), .ptr g 0] hp = some (.bool (decide (s = name)), hp, none) := by
  refine model_place_1_run (by rw [hC.T]; rfl) ?_
  have hlt : g < hp.length := (List.getElem?_eq_some_iff.1 hg).1
  have hg' : (hp ++ [AObj.cells (.str s :: r) ty_api_Value])[g]? = some (.cells [.str name] ty_string) := by rw [List.getElem?_append_left hlt]; exact hg
  have l0 : ldcVal (hp ++ [AObj.cells (.str s :: r) ty_api_Value]) (.ptr hp.length (0 + 0)) = some (.str s) := ldc_last hp _ _ 0
  have l1 : ldcVal (hp ++ [AObj.cells (.str s :: r) ty_api_Value]) (.ptr g 0) = some (.str name) := ldc_get hg' 0
  simp only [d_model_place_1, optK_s, opt2_s, opt3_s, ifK_b, guardK_t, guardK_f, guardB_bt, guardB_bf, pickV_t, pickV_f, gif_t, guardK_pure, ro_gif, pick_and, pick_or', grp_and, grp_or, grp_tt, grp_ft, grp_tf, grp_ff, letK_e, ro_bool, ro_int, ro_str, ro_lst, ro_own, ro_agg, ro_tup, ro_ptr, ro_map, ro_ref, ro_fn, ro_undef, nm_bool, nm_int, nm_str, nm_lst, nm_own, nm_agg, nm_ptr, nm_map, nm_fn, b_add, b_sub, b_mul, b_eq, b_ne, b_lt, b_le, b_gt, b_ge, s_eq, s_ne, q_int, q_str, q_bool, q_nil, q_if, b_eqS, b_neS, b_eqB, b_neB, Option.map_some, u_not, u_neg, l_str, l_lst, c_int, x_tup, after_none, fin_bool, fin_int, fin_str, fin_lst, fin_own, fin_tup, frz2_int, frz2_str, frz2_bool, frz2_lst, fa_ref, fa_ptr, ldc_ref, box_agg 3 (.str s :: r) (by simpa using hr), l0, l1]

theorem e_cl_model_place_2 (n : Nat) (hp : List AObj) (s name : List UInt8) (r : List AV) (hr : r.length + 1 = 17) (g : Nat) (hg : hp[g]? = some (.cells [.str name] ty_string)) :
    evalCall C (n + 1) F_model_place_2 [.agg (.str s :: r), .ptr g 0] hp = some (.bool (decide (s = name)), hp, none) := by
  refine model_place_2_run (by rw [hC.T]; rfl) ?_
  have hlt : g < hp.length := (List.getElem?_eq_some_iff.1 hg).1
  have hg' : (hp ++ [AObj.cells (.str s :: r) ty_api_ResourceDecl])[g]? = some (.cells [.str name] ty_string) := by rw [List.getElem?_append_left hlt]; exact hg
  have l0 : ldcVal (hp ++ [AObj.cells (.str s :: r) ty_api_ResourceDecl]) (.ptr hp.length (0 + 0)) = some (.str s) := ldc_last hp _ _ 0
  have l1 : ldcVal (hp ++ [AObj.cells (.str s :: r) ty_api_ResourceDecl]) (.ptr g 0) = some (.str name) := ldc_get hg' 0
  simp only [d_model_place_2, optK_s, opt2_s, opt3_s, ifK_b, guardK_t, guardK_f, guardB_bt, guardB_bf, pickV_t, pickV_f, gif_t, guardK_pure, ro_gif, pick_and, pick_or', grp_and, grp_or, grp_tt, grp_ft, grp_tf, grp_ff, letK_e, ro_bool, ro_int, ro_str, ro_lst, ro_own, ro_agg, ro_tup, ro_ptr, ro_map, ro_ref, ro_fn, ro_undef, nm_bool, nm_int, nm_str, nm_lst, nm_own, nm_agg, nm_ptr, nm_map, nm_fn, b_add, b_sub, b_mul, b_eq, b_ne, b_lt, b_le, b_gt, b_ge, s_eq, s_ne, q_int, q_str, q_bool, q_nil, q_if, b_eqS, b_neS, b_eqB, b_neB, Option.map_some, u_not, u_neg, l_str, l_lst, c_int, x_tup, after_none, fin_bool, fin_int, fin_str, fin_lst, fin_own, fin_tup, frz2_int, frz2_str, frz2_bool, frz2_lst, fa_ref, fa_ptr, ldc_ref, box_agg 17 (.str s :: r) (by simpa using hr), l0, l1]

theorem e_cl_model_place_3 (n : Nat) (hp : List AObj) (s name : List UInt8) (r : List AV) (hr : r.length + 1 = 3) (g : Nat) (hg : hp[g]? = some (.cells [.str name] ty_string)) :
    evalCall C (n + 1) F_model_place_3 [.agg (.str s :: r), .ptr g 0] hp = some (.bool (decide (s = name)), hp, none) := by
  refine model_place_3_run (by rw [hC.T]; rfl) ?_
  have hlt : g < hp.length := (List.getElem?_eq_some_iff.1 hg).1
  have hg' : (hp ++ [AObj.cells (.str s :: r) ty_api_StoreDecl])[g]? = some (.cells [.str name] ty_string) := by rw [List.getElem?_append_left hlt]; exact hg
  have l0 : ldcVal (hp ++ [AObj.cells (.str s :: r) ty_api_StoreDecl]) (.ptr hp.length (0 + 0)) = some (.str s) := ldc_last hp _ _ 0
  have l1 : ldcVal (hp ++ [AObj.cells (.str s :: r) ty_api_StoreDecl]) (.ptr g 0) = some (.str name) := ldc_get hg' 0
  simp only [d_model_place_3, optK_s, opt2_s, opt3_s, ifK_b, guardK_t, guardK_f, guardB_bt, guardB_bf, pickV_t, pickV_f, gif_t, guardK_pure, ro_gif, pick_and, pick_or', grp_and, grp_or, grp_tt, grp_ft, grp_tf, grp_ff, letK_e, ro_bool, ro_int, ro_str, ro_lst, ro_own, ro_agg, ro_tup, ro_ptr, ro_map, ro_ref, ro_fn, ro_undef, nm_bool, nm_int, nm_str, nm_lst, nm_own, nm_agg, nm_ptr, nm_map, nm_fn, b_add, b_sub, b_mul, b_eq, b_ne, b_lt, b_le, b_gt, b_ge, s_eq, s_ne, q_int, q_str, q_bool, q_nil, q_if, b_eqS, b_neS, b_eqB, b_neB, Option.map_some, u_not, u_neg, l_str, l_lst, c_int, x_tup, after_none, fin_bool, fin_int, fin_str, fin_lst, fin_own, fin_tup, frz2_int, frz2_str, frz2_bool, frz2_lst, fa_ref, fa_ptr, ldc_ref, box_agg 3 (.str s :: r) (by simpa using hr), l0, l1]

theorem e_cl_model_place_4 (n : Nat) (hp : List AObj) (s name : List UInt8) (r : List AV) (hr : r.length + 1 = 3) (g : Nat) (hg : hp[g]? = some (.cells [.str name] ty_string)) :
    evalCall C (n + 1) F_model_place_4 [.agg (.str s :: r), .ptr g 0] hp = some (.bool (decide (s = name)), hp, none) := by
  refine model_place_4_run (by rw [hC.T]; rfl) ?_
  have hlt : g < hp.length := (List.getElem?_eq_some_iff.1 hg).1
  have hg' : (hp ++ [AObj.cells (.str s :: r) ty_api_BeltDecl])[g]? = some (.cells [.str name] ty_string) := by rw [List.getElem?_append_left hlt]; exact hg
  have l0 : ldcVal (hp ++ [AObj.cells (.str s :: r) ty_api_BeltDecl]) (.ptr hp.length (0 + 0)) = some (.str s) := ldc_last hp _ _ 0
  have l1 : ldcVal (hp ++ [AObj.cells (.str s :: r) ty_api_BeltDecl]) (.ptr g 0) = some (.str name) := ldc_get hg' 0
  simp only [d_model_place_4, optK_s, opt2_s, opt3_s, ifK_b, guardK_t, guardK_f, guardB_bt, guardB_bf, pickV_t, pickV_f, gif_t, guardK_pure, ro_gif, pick_and, pick_or', grp_and, grp_or, grp_tt, grp_ft, grp_tf, grp_ff, letK_e, ro_bool, ro_int, ro_str, ro_lst, ro_own, ro_agg, ro_tup, ro_ptr, ro_map, ro_ref, ro_fn, ro_undef, nm_bool, nm_int, nm_str, nm_lst, nm_own, nm_agg, nm_ptr, nm_map, nm_fn, b_add, b_sub, b_mul, b_eq, b_ne, b_lt, b_le, b_gt, b_ge, s_eq, s_ne, q_int, q_str, q_bool, q_nil, q_if, b_eqS, b_neS, b_eqB, b_neB, Option.map_some, u_not, u_neg, l_str, l_lst, c_int, x_tup, after_none, fin_bool, fin_int, fin_str, fin_lst, fin_own, fin_tup, frz2_int, frz2_str, frz2_bool, frz2_lst, fa_ref, fa_ptr, ldc_ref, box_agg 3 (.str s :: r) (by simpa using hr), l0, l1]

theorem e_cl_model_Link_1 (n : Nat) (hp : List AObj) (a b from_ to_ : List UInt8) (d : Int) (g g2 : Nat) (hg : hp[g]? = some (.cells [.str from_] ty_string)) (hg2 : hp[g2]? = some (.cells [.str to_] ty_string)) :
    evalCall C (n + 1) F_model_Link_1 [.agg [.str a, .str b, .int .i64 d], .ptr g 0, .ptr g2 0] hp = some (.bool (decide (a = from_) && decide (b = to_)), hp, none) := by
  refine model_Link_1_run (by rw [hC.T]; rfl) ?_
  have hlt : g < hp.length := (List.getElem?_eq_some_iff.1 hg).1
  have hlt2 : g2 < hp.length := (List.getElem?_eq_some_iff.1 hg2).1
  have hg' : (hp ++ [AObj.cells [.str a, .str b, .int .i64 d] ty_api_Link])[g]? = some (.cells [.str from_] ty_string) := by rw [List.getElem?_append_left hlt]; exact hg
  have hg2' : (hp ++ [AObj.cells [.str a, .str b, .int .i64 d] ty_api_Link])[g2]? = some (.cells [.str to_] ty_string) := by rw [List.getElem?_append_left hlt2]; exact hg2
  have l0 : ldcVal (hp ++ [AObj.cells [.str a, .str b, .int .i64 d] ty_api_Link]) (.ptr hp.length (0 + 0)) = some (.str a) := ldc_last hp _ _ 0
  have l1 : ldcVal (hp ++ [AObj.cells [.str a, .str b, .int .i64 d] ty_api_Link]) (.ptr hp.length (0 + 1)) = some (.str b) := ldc_last hp _ _ 1
  have l2 : ldcVal (hp ++ [AObj.cells [.str a, .str b, .int .i64 d] ty_api_Link]) (.ptr g 0) = some (.str from_) := ldc_get hg' 0
  have l3 : ldcVal (hp ++ [AObj.cells [.str a, .str b, .int .i64 d] ty_api_Link]) (.ptr g2 0) = some (.str to_) := ldc_get hg2' 0
  simp only [d_model_Link_1, optK_s, opt2_s, opt3_s, ifK_b, guardK_t, guardK_f, guardB_bt, guardB_bf, pickV_t, pickV_f, gif_t, guardK_pure, ro_gif, pick_and, pick_or', grp_and, grp_or, grp_tt, grp_ft, grp_tf, grp_ff, letK_e, ro_bool, ro_int, ro_str, ro_lst, ro_own, ro_agg, ro_tup, ro_ptr, ro_map, ro_ref, ro_fn, ro_undef, nm_bool, nm_int, nm_str, nm_lst, nm_own, nm_agg, nm_ptr, nm_map, nm_fn, b_add, b_sub, b_mul, b_eq, b_ne, b_lt, b_le, b_gt, b_ge, s_eq, s_ne, q_int, q_str, q_bool, q_nil, q_if, b_eqS, b_neS, b_eqB, b_neB, Option.map_some, u_not, u_neg, l_str, l_lst, c_int, x_tup, after_none, fin_bool, fin_int, fin_str, fin_lst, fin_own, fin_tup, frz2_int, frz2_str, frz2_bool, frz2_lst, fa_ref, fa_ptr, ldc_ref, box_agg 3 [.str a, .str b, .int .i64 d] rfl, l0, l1, l2, l3]
/-- a text among texts -/
theorem e_index_loop (n : Nat) (hp0 : List AObj) (name : List UInt8) (rows : List (List AV)) (hl : rows.length ≤ 4611686018427387) (hrow : ∀ r ∈ rows, r = [.str (nameOf r)]) : ∀ (r q : List (List AV)) (m : Nat), rows = q ++ r → r.length < m →
    d_slices_Index_Lstring_string__l0 C.G (evalCall C n) C.L hp0 (d_slices_Index_Lstring_string__j1 C.G (evalCall C n) C.L hp0) m (.lst 1 rows) (.str name) (.int .i64 rows.length) (.int .i64 q.length) hp0 none = some (.int .i64 (findI (isN name) r q.length), hp0, none)
  | _, _, 0, _, h => by omega
  | [], q, m + 1, hs, _ => by
    have hlen : (rows.length : Int) = q.length := by rw [hs]; simp
    simp only [d_slices_Index_Lstring_string__l0, d_slices_Index_Lstring_string__j1, optK_s, opt2_s, opt3_s, ifK_b, guardK_t, guardK_f, guardB_bt, guardB_bf, pickV_t, pickV_f, gif_t, guardK_pure, ro_gif, pick_and, pick_or', grp_and, grp_or, grp_tt, grp_ft, grp_tf, grp_ff, letK_e, ro_bool, ro_int, ro_str, ro_lst, ro_own, ro_agg, ro_tup, ro_ptr, ro_map, ro_ref, ro_fn, ro_undef, nm_bool, nm_int, nm_str, nm_lst, nm_own, nm_agg, nm_ptr, nm_map, nm_fn, b_add, b_sub, b_mul, b_eq, b_ne, b_lt, b_le, b_gt, b_ge, s_eq, s_ne, q_int, q_str, q_bool, q_nil, q_if, b_eqS, b_neS, b_eqB, b_neB, Option.map_some, u_not, u_neg, l_str, l_lst, c_int, x_tup, after_none, fin_bool, fin_int, fin_str, fin_lst, fin_own, fin_tup, frz2_int, frz2_str, frz2_bool, frz2_lst, fa_ref, fa_ptr, ldc_ref, hlen, Int.lt_irrefl, decide_false, Bool.false_eq_true, if_false, findI]
  | x :: r, q, m + 1, hs, hm => by
    have hlen : (rows.length : Int) = q.length + (r.length + 1) := by rw [hs]; simp
    have hlt : (q.length : Int) < q.length + (r.length + 1) := by omega
    have hql : q.length + (r.length + 1) ≤ 4611686018427387 := by rw [hs] at hl; simpa using hl
    have hx := hrow x (by rw [hs]; simp)
    have hg : rows[q.length]? = some [.str (nameOf x)] := by rw [← hx, hs]; simp
    have ih := e_index_loop n hp0 name rows hl hrow r (q ++ [x]) m (by rw [hs]; simp) (by simpa using hm)
    simp only [List.length_append, List.length_cons, List.length_nil, Nat.zero_add] at ih
    rw [hlen] at ih ⊢
    have hwr := wrap_nat q.length (by omega)
    by_cases hn : nameOf x = name
    · have hp1 : isN name x = true := by simp [isN, hn]
      simp only [d_slices_Index_Lstring_string__l0, optK_s, opt2_s, opt3_s, ifK_b, guardK_t, guardK_f, guardB_bt, guardB_bf, pickV_t, pickV_f, gif_t, guardK_pure, ro_gif, pick_and, pick_or', grp_and, grp_or, grp_tt, grp_ft, grp_tf, grp_ff, letK_e, ro_bool, ro_int, ro_str, ro_lst, ro_own, ro_agg, ro_tup, ro_ptr, ro_map, ro_ref, ro_fn, ro_undef, nm_bool, nm_int, nm_str, nm_lst, nm_own, nm_agg, nm_ptr, nm_map, nm_fn, b_add, b_sub, b_mul, b_eq, b_ne, b_lt, b_le, b_gt, b_ge, s_eq, s_ne, q_int, q_str, q_bool, q_nil, q_if, b_eqS, b_neS, b_eqB, b_neB, Option.map_some, u_not, u_neg, l_str, l_lst, c_int, x_tup, after_none, fin_bool, fin_int, fin_str, fin_lst, fin_own, fin_tup, frz2_int, frz2_str, frz2_bool, frz2_lst, fa_ref, fa_ptr, ldc_ref, hlt, decide_true, if_true, ia_lst, hg, hn, findI, hp1]
    · have hp1 : isN name x = false := by simp [isN, hn]
      have hn' : ¬ name = nameOf x := fun e => hn e.symm
      simp only [d_slices_Index_Lstring_string__l0, optK_s, opt2_s, opt3_s, ifK_b, guardK_t, guardK_f, guardB_bt, guardB_bf, pickV_t, pickV_f, gif_t, guardK_pure, ro_gif, pick_and, pick_or', grp_and, grp_or, grp_tt, grp_ft, grp_tf, grp_ff, letK_e, ro_bool, ro_int, ro_str, ro_lst, ro_own, ro_agg, ro_tup, ro_ptr, ro_map, ro_ref, ro_fn, ro_undef, nm_bool, nm_int, nm_str, nm_lst, nm_own, nm_agg, nm_ptr, nm_map, nm_fn, b_add, b_sub, b_mul, b_eq, b_ne, b_lt, b_le, b_gt, b_ge, s_eq, s_ne, q_int, q_str, q_bool, q_nil, q_if, b_eqS, b_neS, b_eqB, b_neB, Option.map_some, u_not, u_neg, l_str, l_lst, c_int, x_tup, after_none, fin_bool, fin_int, fin_str, fin_lst, fin_own, fin_tup, frz2_int, frz2_str, frz2_bool, frz2_lst, fa_ref, fa_ptr, ldc_ref, hlt, decide_true, if_true, ia_lst, hg, hn', decide_false, findI, hp1, Bool.false_eq_true, if_false, hwr]
      exact ih
theorem e_index (n : Nat) (hp : List AObj) (name : List UInt8) (rows : List (List AV)) (hl : rows.length ≤ 4611686018427387) (hrow : ∀ r ∈ rows, r = [.str (nameOf r)]) :
    evalCall C (n + 1) F_slices_Index_Lstring_string_ [.lst 1 rows, .str name] hp = some (.int .i64 (findI (isN name) rows 0), hp, none) := by
  refine slices_Index_Lstring_string__run (by rw [hC.T]; rfl) ?_
  have h := e_index_loop hC n hp name rows hl hrow rows [] C.L rfl (by have := hC.L; omega)
  simp only [d_slices_Index_Lstring_string_, optK_s, opt2_s, opt3_s, ifK_b, guardK_t, guardK_f, guardB_bt, guardB_bf, pickV_t, pickV_f, gif_t, guardK_pure, ro_gif, pick_and, pick_or', grp_and, grp_or, grp_tt, grp_ft, grp_tf, grp_ff, letK_e, ro_bool, ro_int, ro_str, ro_lst, ro_own, ro_agg, ro_tup, ro_ptr, ro_map, ro_ref, ro_fn, ro_undef, nm_bool, nm_int, nm_str, nm_lst, nm_own, nm_agg, nm_ptr, nm_map, nm_fn, b_add, b_sub, b_mul, b_eq, b_ne, b_lt, b_le, b_gt, b_ge, s_eq, s_ne, q_int, q_str, q_bool, q_nil, q_if, b_eqS, b_neS, b_eqB, b_neB, Option.map_some, u_not, u_neg, l_str, l_lst, c_int, x_tup, after_none, fin_bool, fin_int, fin_str, fin_lst, fin_own, fin_tup, frz2_int, frz2_str, frz2_bool, frz2_lst, fa_ref, fa_ptr, ldc_ref]
  exact h
theorem e_rfind_loop (n : Nat) (hp0 : List AObj) (name : List UInt8) (rows : List (List AV)) (hl : rows.length ≤ 4611686018427387) (hrow : ∀ r ∈ rows, r = [.str (nameOf r)]) : ∀ (r q : List (List AV)) (m : Nat), rows = q ++ r → r.length < m →
    d_r07_Find_l0 C.G (evalCall C n) C.L hp0 (d_r07_Find_j1 C.G (evalCall C n) C.L hp0) m (.lst 1 rows) (.str name) (.int .i64 q.length) (.int .i64 q.length) hp0 none = some (.int .i64 (findI (isN name) r q.length), hp0, none)
  | _, _, 0, _, h => by omega
  | [], q, m + 1, hs, _ => by
    have hlen : (rows.length : Int) = q.length := by rw [hs]; simp
    simp only [d_r07_Find_l0, d_r07_Find_j1, optK_s, opt2_s, opt3_s, ifK_b, guardK_t, guardK_f, guardB_bt, guardB_bf, pickV_t, pickV_f, gif_t, guardK_pure, ro_gif, pick_and, pick_or', grp_and, grp_or, grp_tt, grp_ft, grp_tf, grp_ff, letK_e, ro_bool, ro_int, ro_str, ro_lst, ro_own, ro_agg, ro_tup, ro_ptr, ro_map, ro_ref, ro_fn, ro_undef, nm_bool, nm_int, nm_str, nm_lst, nm_own, nm_agg, nm_ptr, nm_map, nm_fn, b_add, b_sub, b_mul, b_eq, b_ne, b_lt, b_le, b_gt, b_ge, s_eq, s_ne, q_int, q_str, q_bool, q_nil, q_if, b_eqS, b_neS, b_eqB, b_neB, Option.map_some, u_not, u_neg, l_str, l_lst, c_int, x_tup, after_none, fin_bool, fin_int, fin_str, fin_lst, fin_own, fin_tup, frz2_int, frz2_str, frz2_bool, frz2_lst, fa_ref, fa_ptr, ldc_ref, hlen, Int.lt_irrefl, decide_false, Bool.false_eq_true, if_false, findI]
  | x :: r, q, m + 1, hs, hm => by
    have hlen : (rows.length : Int) = q.length + (r.length + 1) := by rw [hs]; simp
    have hlt : (q.length : Int) < q.length + (r.length + 1) := by omega
    have hql : q.length + (r.length + 1) ≤ 4611686018427387 := by rw [hs] at hl; simpa using hl
    have hx := hrow x (by rw [hs]; simp)
    have hg : rows[q.length]? = some [.str (nameOf x)] := by rw [← hx, hs]; simp
    have ih := e_rfind_loop n hp0 name rows hl hrow r (q ++ [x]) m (by rw [hs]; simp) (by simpa using hm)
    simp only [List.length_append, List.length_cons, List.length_nil, Nat.zero_add] at ih
    have hwr := wrap_nat q.length (by omega)
    by_cases hn : nameOf x = name
    · have hp1 : isN name x = true := by simp [isN, hn]
      simp only [d_r07_Find_l0, optK_s, opt2_s, opt3_s, ifK_b, guardK_t, guardK_f, guardB_bt, guardB_bf, pickV_t, pickV_f, gif_t, guardK_pure, ro_gif, pick_and, pick_or', grp_and, grp_or, grp_tt, grp_ft, grp_tf, grp_ff, letK_e, ro_bool, ro_int, ro_str, ro_lst, ro_own, ro_agg, ro_tup, ro_ptr, ro_map, ro_ref, ro_fn, ro_undef, nm_bool, nm_int, nm_str, nm_lst, nm_own, nm_agg, nm_ptr, nm_map, nm_fn, b_add, b_sub, b_mul, b_eq, b_ne, b_lt, b_le, b_gt, b_ge, s_eq, s_ne, q_int, q_str, q_bool, q_nil, q_if, b_eqS, b_neS, b_eqB, b_neB, Option.map_some, u_not, u_neg, l_str, l_lst, c_int, x_tup, after_none, fin_bool, fin_int, fin_str, fin_lst, fin_own, fin_tup, frz2_int, frz2_str, frz2_bool, frz2_lst, fa_ref, fa_ptr, ldc_ref, hlen, hlt, decide_true, if_true, ia_lst, hg, hn, findI, hp1]
    · have hp1 : isN name x = false := by simp [isN, hn]
      simp only [d_r07_Find_l0, optK_s, opt2_s, opt3_s, ifK_b, guardK_t, guardK_f, guardB_bt, guardB_bf, pickV_t, pickV_f, gif_t, guardK_pure, ro_gif, pick_and, pick_or', grp_and, grp_or, grp_tt, grp_ft, grp_tf, grp_ff, letK_e, ro_bool, ro_int, ro_str, ro_lst, ro_own, ro_agg, ro_tup, ro_ptr, ro_map, ro_ref, ro_fn, ro_undef, nm_bool, nm_int, nm_str, nm_lst, nm_own, nm_agg, nm_ptr, nm_map, nm_fn, b_add, b_sub, b_mul, b_eq, b_ne, b_lt, b_le, b_gt, b_ge, s_eq, s_ne, q_int, q_str, q_bool, q_nil, q_if, b_eqS, b_neS, b_eqB, b_neB, Option.map_some, u_not, u_neg, l_str, l_lst, c_int, x_tup, after_none, fin_bool, fin_int, fin_str, fin_lst, fin_own, fin_tup, frz2_int, frz2_str, frz2_bool, frz2_lst, fa_ref, fa_ptr, ldc_ref, hlen, hlt, decide_true, if_true, ia_lst, hg, hn, decide_false, findI, hp1, Bool.false_eq_true, if_false, hwr]
      exact ih
theorem e_rfind (n : Nat) (hp : List AObj) (name : List UInt8) (rows : List (List AV)) (hl : rows.length ≤ 4611686018427387) (hrow : ∀ r ∈ rows, r = [.str (nameOf r)]) :
    evalCall C (n + 1) F_r07_Find [.lst 1 rows, .str name] hp = some (.int .i64 (findI (isN name) rows 0), hp, none) := by
  refine r07_Find_run (by rw [hC.T]; rfl) ?_
  have h := e_rfind_loop hC n hp name rows hl hrow rows [] C.L rfl (by have := hC.L; omega)
  simp only [d_r07_Find, optK_s, opt2_s, opt3_s, ifK_b, guardK_t, guardK_f, guardB_bt, guardB_bf, pickV_t, pickV_f, gif_t, guardK_pure, ro_gif, pick_and, pick_or', grp_and, grp_or, grp_tt, grp_ft, grp_tf, grp_ff, letK_e, ro_bool, ro_int, ro_str, ro_lst, ro_own, ro_agg, ro_tup, ro_ptr, ro_map, ro_ref, ro_fn, ro_undef, nm_bool, nm_int, nm_str, nm_lst, nm_own, nm_agg, nm_ptr, nm_map, nm_fn, b_add, b_sub, b_mul, b_eq, b_ne, b_lt, b_le, b_gt, b_ge, s_eq, s_ne, q_int, q_str, q_bool, q_nil, q_if, b_eqS, b_neS, b_eqB, b_neB, Option.map_some, u_not, u_neg, l_str, l_lst, c_int, x_tup, after_none, fin_bool, fin_int, fin_str, fin_lst, fin_own, fin_tup, frz2_int, frz2_str, frz2_bool, frz2_lst, fa_ref, fa_ptr, ldc_ref]
  exact h
end
end Go.Proofs.YtlmfmmclnboglaaGreat
