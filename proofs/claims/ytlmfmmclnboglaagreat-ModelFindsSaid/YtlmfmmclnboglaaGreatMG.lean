/-
  ModelFinds: the law's run.
-/
import Derived.Test.YtlmfmmclnboglaaGreatMF
namespace Go.Proofs.YtlmfmmclnboglaaGreat
open Go Go.RowKit Go.Proofs.YtlmfmmclnboglaaGreat.Abs
set_option linter.all false
set_option maxRecDepth 100000

theorem quiet_int {K : FuncId → List AV → List AObj → KR} {f : FuncId} {args : List AV} {hp hp' : List AObj} {k : IntKind} {n : Int} (h : K f args hp = some (.int k n, hp', none)) : quietCall K f args hp = some (.int k n, hp, none) := by simp [quietCall, h, AV.flat, AV.flat1]
theorem quiet_str {K : FuncId → List AV → List AObj → KR} {f : FuncId} {args : List AV} {hp hp' : List AObj} {n : List UInt8} (h : K f args hp = some (.str n, hp', none)) : quietCall K f args hp = some (.str n, hp, none) := by simp [quietCall, h, AV.flat, AV.flat1]
theorem quiet_bool {K : FuncId → List AV → List AObj → KR} {f : FuncId} {args : List AV} {hp hp' : List AObj} {n : Bool} (h : K f args hp = some (.bool n, hp', none)) : quietCall K f args hp = some (.bool n, hp, none) := by simp [quietCall, h, AV.flat, AV.flat1]
/-- it answers with a truth value, and leaves no object -/
def SaysB (hp : List AObj) (r : KR) : Prop := ∃ b, r = some (.bool b, hp, none)
section
variable {C : Cfg} (hC : CfgL C)
include hC
theorem light_l1 (K : FuncId → List AV → List AObj → KR) (hp0 hp : List AObj) (k2 : AV → AV → AV → List AObj → Eff → KR) (x1 x4 : AV) (ls : List (List (List AV))) (hl : ls.length ≤ 100) (hk : ∀ k, SaysB hp0 (k2 x1 (.int .i64 k) x4 hp none)) :
    ∀ (r q : List (List (List AV))) (m : Nat) (k : Int), ls = q ++ r → r.length < m → SaysB hp0 (d_law11_light_l1 C.G K C.L hp0 k2 m x1 (.int .i64 k) x4 (.lst 1 (ls.map fun l => [.lst 1 l])) (.int .i64 q.length) hp none)
  | _, _, 0, _, _, h => by omega
  | [], q, m + 1, k, hs, _ => by
    have hlen : ((ls.map fun l => [AV.lst 1 l]).length : Int) = q.length := by rw [hs]; simp
    obtain ⟨b, h⟩ := hk k
    exact ⟨b, by simp only [d_law11_light_l1, optK_s, opt2_s, opt3_s, ifK_b, guardK_t, guardK_f, guardB_bt, guardB_bf, pickV_t, pickV_f, gif_t, guardK_pure, ro_gif, pick_and, pick_or', grp_and, grp_or, grp_tt, grp_ft, grp_tf, grp_ff, letK_e, ro_bool, ro_int, ro_str, ro_lst, ro_own, ro_agg, ro_tup, ro_ptr, ro_map, ro_ref, ro_fn, ro_undef, nm_bool, nm_int, nm_str, nm_lst, nm_own, nm_agg, nm_ptr, nm_map, nm_fn, b_add, b_sub, b_mul, b_eq, b_ne, b_lt, b_le, b_gt, b_ge, s_eq, s_ne, q_int, q_str, q_bool, q_nil, q_if, b_eqS, b_neS, b_eqB, b_neB, Option.map_some, u_not, u_neg, l_str, l_lst, c_int, x_tup, after_none, fin_bool, fin_int, fin_str, fin_lst, fin_own, fin_tup, frz2_int, frz2_str, frz2_bool, frz2_lst, fa_ref, fa_ptr, ldc_ref, hlen, Int.lt_irrefl, decide_false, Bool.false_eq_true, if_false, h]⟩
  | x :: r, q, m + 1, k, hs, hm => by
    have hlen : ((ls.map fun l => [AV.lst 1 l]).length : Int) = q.length + (r.length + 1) := by rw [hs]; simp
    have hlt : (q.length : Int) < q.length + (r.length + 1) := by omega
    have hql : q.length + (r.length + 1) ≤ 100 := by rw [hs] at hl; simpa using hl
    have hg : (ls.map fun l => [AV.lst 1 l])[q.length]? = some [.lst 1 x] := by rw [hs]; simp
    have l0 : ∀ v : AV, ldcVal hp (.ref [v]) = some v.ro := fun v => rfl
    have hwr := wrap_nat q.length (by omega)
    obtain ⟨b, ih⟩ := light_l1 K hp0 hp k2 x1 x4 ls hl hk r (q ++ [x]) m (IntKind.i64.wrap (k + x.length)) (by rw [hs]; simp) (by simpa using hm)
    simp only [List.length_append, List.length_cons, List.length_nil, Nat.zero_add] at ih
    exact ⟨b, by simp only [d_law11_light_l1, optK_s, opt2_s, opt3_s, ifK_b, guardK_t, guardK_f, guardB_bt, guardB_bf, pickV_t, pickV_f, gif_t, guardK_pure, ro_gif, pick_and, pick_or', grp_and, grp_or, grp_tt, grp_ft, grp_tf, grp_ff, letK_e, ro_bool, ro_int, ro_str, ro_lst, ro_own, ro_agg, ro_tup, ro_ptr, ro_map, ro_ref, ro_fn, ro_undef, nm_bool, nm_int, nm_str, nm_lst, nm_own, nm_agg, nm_ptr, nm_map, nm_fn, b_add, b_sub, b_mul, b_eq, b_ne, b_lt, b_le, b_gt, b_ge, s_eq, s_ne, q_int, q_str, q_bool, q_nil, q_if, b_eqS, b_neS, b_eqB, b_neB, Option.map_some, u_not, u_neg, l_str, l_lst, c_int, x_tup, after_none, fin_bool, fin_int, fin_str, fin_lst, fin_own, fin_tup, frz2_int, frz2_str, frz2_bool, frz2_lst, fa_ref, fa_ptr, ldc_ref, hlen, hlt, decide_true, if_true, ia_lst, hg, l0, hwr, ih]⟩
theorem light_l0 (n : Nat) (hp0 : List AObj) (m0 : Mdl) (hm : MdlOk m0) (hs : m0.sites.length ≤ 8796093022208) : ∀ (r q : List SiteD) (m : Nat) (k : Int), m0.sites = q ++ r → r.length < m →
    SaysB hp0 (d_law11_light_l0 C.G (evalCall C (n + 1)) C.L hp0 (d_law11_light_j4 C.G (evalCall C (n + 1)) C.L hp0) m (.ptr hp0.length 0) (.int .i64 k) (.int .i64 q.length) (hp0 ++ [AObj.cells (mrow m0) ty_api_Model]) none)
  | _, _, 0, _, _, h => by omega
  | [], q, m + 1, k, hq, _ => by
    have hlen : ((m0.sites.map srow).length : Int) = q.length := by rw [hq]; simp
    have lf : ldcVal (hp0 ++ [AObj.cells (mrow m0) ty_api_Model]) (.ptr hp0.length (0 + 2)) = some (.lst 13 (m0.sites.map srow)) := ldc_get (last_get _ _) 2
    exact ⟨_, by simp only [d_law11_light_l0, d_law11_light_j4, optK_s, opt2_s, opt3_s, ifK_b, guardK_t, guardK_f, guardB_bt, guardB_bf, pickV_t, pickV_f, gif_t, guardK_pure, ro_gif, pick_and, pick_or', grp_and, grp_or, grp_tt, grp_ft, grp_tf, grp_ff, letK_e, ro_bool, ro_int, ro_str, ro_lst, ro_own, ro_agg, ro_tup, ro_ptr, ro_map, ro_ref, ro_fn, ro_undef, nm_bool, nm_int, nm_str, nm_lst, nm_own, nm_agg, nm_ptr, nm_map, nm_fn, b_add, b_sub, b_mul, b_eq, b_ne, b_lt, b_le, b_gt, b_ge, s_eq, s_ne, q_int, q_str, q_bool, q_nil, q_if, b_eqS, b_neS, b_eqB, b_neB, Option.map_some, u_not, u_neg, l_str, l_lst, c_int, x_tup, after_none, fin_bool, fin_int, fin_str, fin_lst, fin_own, fin_tup, frz2_int, frz2_str, frz2_bool, frz2_lst, fa_ref, fa_ptr, ldc_ref, lf, hlen, Int.lt_irrefl, decide_false, Bool.false_eq_true, if_false]; rfl⟩
  | x :: r, q, m + 1, k, hq, hlm => by
    have hlen : ((m0.sites.map srow).length : Int) = q.length + (r.length + 1) := by rw [hq]; simp
    have hlt : (q.length : Int) < q.length + (r.length + 1) := by omega
    have hql : q.length + (r.length + 1) ≤ 8796093022208 := by rw [hq] at hs; simpa using hs
    have hg : (m0.sites.map srow)[q.length]? = some (srow x) := by rw [hq]; simp
    have hx := hm.site x (by rw [hq]; simp)
    have lf : ldcVal (hp0 ++ [AObj.cells (mrow m0) ty_api_Model]) (.ptr hp0.length (0 + 2)) = some (.lst 13 (m0.sites.map srow)) := ldc_get (last_get _ _) 2
    have hwr := wrap_nat q.length (by omega)
    have hld := lda_ref (hp0 ++ [AObj.cells (mrow m0) ty_api_Model]) 13 (srow x) (by simp [srow])
    have hro : ((srow x).take 13).map AV.ro = srow x := rfl
    have hn := e_names hC n (hp0 ++ [AObj.cells (mrow m0) ty_api_Model]) x hx
    have l11 : ∀ H, ldcVal H (.ref ((srow x).drop 11)) = some (.lst 5 x.starts) := fun H => rfl
    have l12 : ∀ H, ldcVal H (.ref ((srow x).drop 12)) = some (.lst 3 x.laws) := fun H => rfl
    have h1 := light_l1 hC (evalCall C (n + 1)) hp0 (hp0 ++ [AObj.cells (mrow m0) ty_api_Model]) (d_law11_light_j2 C.G (evalCall C (n + 1)) C.L hp0 (d_law11_light_j3 C.G (evalCall C (n + 1)) C.L hp0 (d_law11_light_l0 C.G (evalCall C (n + 1)) C.L hp0 (d_law11_light_j4 C.G (evalCall C (n + 1)) C.L hp0) m))) (.ptr hp0.length 0) (.int .i64 q.length) (namesL x) (by simp [namesL, kinds]) (fun k' => by
        obtain ⟨b, ih⟩ := light_l0 n hp0 m0 hm hs r (q ++ [x]) m (IntKind.i64.wrap (k' + IntKind.i64.wrap (x.starts.length + x.laws.length))) (by rw [hq]; simp) (by simpa using hlm)
        simp only [List.length_append, List.length_cons, List.length_nil, Nat.zero_add] at ih
        exact ⟨b, by simp only [d_law11_light_j2, d_law11_light_j3, optK_s, opt2_s, opt3_s, ifK_b, guardK_t, guardK_f, guardB_bt, guardB_bf, pickV_t, pickV_f, gif_t, guardK_pure, ro_gif, pick_and, pick_or', grp_and, grp_or, grp_tt, grp_ft, grp_tf, grp_ff, letK_e, ro_bool, ro_int, ro_str, ro_lst, ro_own, ro_agg, ro_tup, ro_ptr, ro_map, ro_ref, ro_fn, ro_undef, nm_bool, nm_int, nm_str, nm_lst, nm_own, nm_agg, nm_ptr, nm_map, nm_fn, b_add, b_sub, b_mul, b_eq, b_ne, b_lt, b_le, b_gt, b_ge, s_eq, s_ne, q_int, q_str, q_bool, q_nil, q_if, b_eqS, b_neS, b_eqB, b_neB, Option.map_some, u_not, u_neg, l_str, l_lst, c_int, x_tup, after_none, fin_bool, fin_int, fin_str, fin_lst, fin_own, fin_tup, frz2_int, frz2_str, frz2_bool, frz2_lst, fa_ref, fa_ptr, ldc_ref, lf, ia_lst, hg, l11, l12, hwr, ih]⟩) (namesL x) [] C.L k rfl (by have := hC.L; simp [namesL, kinds]; omega)
    obtain ⟨b, h1⟩ := h1
    exact ⟨b, by simp only [d_law11_light_l0, optK_s, opt2_s, opt3_s, ifK_b, guardK_t, guardK_f, guardB_bt, guardB_bf, pickV_t, pickV_f, gif_t, guardK_pure, ro_gif, pick_and, pick_or', grp_and, grp_or, grp_tt, grp_ft, grp_tf, grp_ff, letK_e, ro_bool, ro_int, ro_str, ro_lst, ro_own, ro_agg, ro_tup, ro_ptr, ro_map, ro_ref, ro_fn, ro_undef, nm_bool, nm_int, nm_str, nm_lst, nm_own, nm_agg, nm_ptr, nm_map, nm_fn, b_add, b_sub, b_mul, b_eq, b_ne, b_lt, b_le, b_gt, b_ge, s_eq, s_ne, q_int, q_str, q_bool, q_nil, q_if, b_eqS, b_neS, b_eqB, b_neB, Option.map_some, u_not, u_neg, l_str, l_lst, c_int, x_tup, after_none, fin_bool, fin_int, fin_str, fin_lst, fin_own, fin_tup, frz2_int, frz2_str, frz2_bool, frz2_lst, fa_ref, fa_ptr, ldc_ref, lf, hlen, hlt, decide_true, if_true, ia_lst, hg, hld, hro, hn]; exact h1⟩
theorem e_light (n : Nat) (hp : List AObj) (m : Mdl) (hm : MdlOk m) : SaysB hp (evalCall C (n + 2) F_law11_light [.agg (mrow m)] hp) := by
  have l1 : ldcVal (hp ++ [AObj.cells (mrow m) ty_api_Model]) (.ptr hp.length (0 + 1)) = some (.lst 3 m.params) := ldc_get (last_get _ _) 1
  have l2 : ldcVal (hp ++ [AObj.cells (mrow m) ty_api_Model]) (.ptr hp.length (0 + 2)) = some (.lst 13 (m.sites.map srow)) := ldc_get (last_get _ _) 2
  have l3 : ldcVal (hp ++ [AObj.cells (mrow m) ty_api_Model]) (.ptr hp.length (0 + 3)) = some (.lst 3 m.links) := ldc_get (last_get _ _) 3
  obtain ⟨b, h⟩ := light_l0 hC n hp m hm hm.sites m.sites [] C.L 0 rfl (by have := hC.L; have := hm.sites; omega)
  have h0 : ((([] : List SiteD).length : Nat) : Int) = 0 := rfl
  rw [h0] at h
  by_cases c1 : ((m.sites.map srow).length : Int) > 20
  · exact ⟨false, law11_light_run (by rw [hC.T]; rfl) (by simp only [d_law11_light, optK_s, opt2_s, opt3_s, ifK_b, guardK_t, guardK_f, guardB_bt, guardB_bf, pickV_t, pickV_f, gif_t, guardK_pure, ro_gif, pick_and, pick_or', grp_and, grp_or, grp_tt, grp_ft, grp_tf, grp_ff, letK_e, ro_bool, ro_int, ro_str, ro_lst, ro_own, ro_agg, ro_tup, ro_ptr, ro_map, ro_ref, ro_fn, ro_undef, nm_bool, nm_int, nm_str, nm_lst, nm_own, nm_agg, nm_ptr, nm_map, nm_fn, b_add, b_sub, b_mul, b_eq, b_ne, b_lt, b_le, b_gt, b_ge, s_eq, s_ne, q_int, q_str, q_bool, q_nil, q_if, b_eqS, b_neS, b_eqB, b_neB, Option.map_some, u_not, u_neg, l_str, l_lst, c_int, x_tup, after_none, fin_bool, fin_int, fin_str, fin_lst, fin_own, fin_tup, frz2_int, frz2_str, frz2_bool, frz2_lst, fa_ref, fa_ptr, ldc_ref, box_agg 4 (mrow m) rfl, l1, l2, l3, c1, decide_true, if_true, Bool.true_or])⟩
  by_cases c2 : (m.params.length : Int) > 40
  · exact ⟨false, law11_light_run (by rw [hC.T]; rfl) (by simp only [d_law11_light, optK_s, opt2_s, opt3_s, ifK_b, guardK_t, guardK_f, guardB_bt, guardB_bf, pickV_t, pickV_f, gif_t, guardK_pure, ro_gif, pick_and, pick_or', grp_and, grp_or, grp_tt, grp_ft, grp_tf, grp_ff, letK_e, ro_bool, ro_int, ro_str, ro_lst, ro_own, ro_agg, ro_tup, ro_ptr, ro_map, ro_ref, ro_fn, ro_undef, nm_bool, nm_int, nm_str, nm_lst, nm_own, nm_agg, nm_ptr, nm_map, nm_fn, b_add, b_sub, b_mul, b_eq, b_ne, b_lt, b_le, b_gt, b_ge, s_eq, s_ne, q_int, q_str, q_bool, q_nil, q_if, b_eqS, b_neS, b_eqB, b_neB, Option.map_some, u_not, u_neg, l_str, l_lst, c_int, x_tup, after_none, fin_bool, fin_int, fin_str, fin_lst, fin_own, fin_tup, frz2_int, frz2_str, frz2_bool, frz2_lst, fa_ref, fa_ptr, ldc_ref, box_agg 4 (mrow m) rfl, l1, l2, l3, c1, c2, decide_true, decide_false, if_true, Bool.false_or, Bool.true_or])⟩
  by_cases c3 : (m.links.length : Int) > 40
  · exact ⟨false, law11_light_run (by rw [hC.T]; rfl) (by simp only [d_law11_light, optK_s, opt2_s, opt3_s, ifK_b, guardK_t, guardK_f, guardB_bt, guardB_bf, pickV_t, pickV_f, gif_t, guardK_pure, ro_gif, pick_and, pick_or', grp_and, grp_or, grp_tt, grp_ft, grp_tf, grp_ff, letK_e, ro_bool, ro_int, ro_str, ro_lst, ro_own, ro_agg, ro_tup, ro_ptr, ro_map, ro_ref, ro_fn, ro_undef, nm_bool, nm_int, nm_str, nm_lst, nm_own, nm_agg, nm_ptr, nm_map, nm_fn, b_add, b_sub, b_mul, b_eq, b_ne, b_lt, b_le, b_gt, b_ge, s_eq, s_ne, q_int, q_str, q_bool, q_nil, q_if, b_eqS, b_neS, b_eqB, b_neB, Option.map_some, u_not, u_neg, l_str, l_lst, c_int, x_tup, after_none, fin_bool, fin_int, fin_str, fin_lst, fin_own, fin_tup, frz2_int, frz2_str, frz2_bool, frz2_lst, fa_ref, fa_ptr, ldc_ref, box_agg 4 (mrow m) rfl, l1, l2, l3, c1, c2, c3, decide_true, decide_false, if_true, Bool.false_or, Bool.true_or])⟩
  exact ⟨b, law11_light_run (by rw [hC.T]; rfl) (by simp only [d_law11_light, optK_s, opt2_s, opt3_s, ifK_b, guardK_t, guardK_f, guardB_bt, guardB_bf, pickV_t, pickV_f, gif_t, guardK_pure, ro_gif, pick_and, pick_or', grp_and, grp_or, grp_tt, grp_ft, grp_tf, grp_ff, letK_e, ro_bool, ro_int, ro_str, ro_lst, ro_own, ro_agg, ro_tup, ro_ptr, ro_map, ro_ref, ro_fn, ro_undef, nm_bool, nm_int, nm_str, nm_lst, nm_own, nm_agg, nm_ptr, nm_map, nm_fn, b_add, b_sub, b_mul, b_eq, b_ne, b_lt, b_le, b_gt, b_ge, s_eq, s_ne, q_int, q_str, q_bool, q_nil, q_if, b_eqS, b_neS, b_eqB, b_neB, Option.map_some, u_not, u_neg, l_str, l_lst, c_int, x_tup, after_none, fin_bool, fin_int, fin_str, fin_lst, fin_own, fin_tup, frz2_int, frz2_str, frz2_bool, frz2_lst, fa_ref, fa_ptr, ldc_ref, box_agg 4 (mrow m) rfl, l1, l2, l3, c1, c2, c3, decide_false, Bool.false_eq_true, if_false, Bool.false_or]; exact h)⟩
theorem finds_l0 (n : Nat) (hp0 : List AObj) (m0 : Mdl) (a : List UInt8) (hm : MdlOk m0) (haw : ∀ hp, evalCall C (n + 5) F_law11_awake [] hp = some (.bool true, hp, none)) (O : List AObj) (hO : O = hp0 ++ [AObj.cells (mrow m0) ty_api_Model]) : ∀ (r q : List SiteD) (m : Nat) (X : List AObj), m0.sites = q ++ r → r.length < m →
    d_law11_ModelFinds_l0 C.G (evalCall C (n + 5)) C.L hp0 (d_law11_ModelFinds_j1 C.G (evalCall C (n + 5)) C.L hp0) m (.str a) (.ptr hp0.length 0) (.int .i64 q.length) (O ++ X) none = some (.bool true, hp0, none)
  | _, _, 0, _, _, h => by omega
  | [], q, m + 1, X, hq, _ => by
    have hlen : ((m0.sites.map srow).length : Int) = q.length := by rw [hq]; simp
    have g0 : (O ++ X)[hp0.length]? = some (.cells (mrow m0) ty_api_Model) := by rw [hO, List.getElem?_append_left (by simp)]; exact last_get _ _
    have lf : ldcVal (O ++ X) (.ptr hp0.length (0 + 2)) = some (.lst 13 (m0.sites.map srow)) := ldc_get g0 2
    simp only [d_law11_ModelFinds_l0, d_law11_ModelFinds_j1, optK_s, opt2_s, opt3_s, ifK_b, guardK_t, guardK_f, guardB_bt, guardB_bf, pickV_t, pickV_f, gif_t, guardK_pure, ro_gif, pick_and, pick_or', grp_and, grp_or, grp_tt, grp_ft, grp_tf, grp_ff, letK_e, ro_bool, ro_int, ro_str, ro_lst, ro_own, ro_agg, ro_tup, ro_ptr, ro_map, ro_ref, ro_fn, ro_undef, nm_bool, nm_int, nm_str, nm_lst, nm_own, nm_agg, nm_ptr, nm_map, nm_fn, b_add, b_sub, b_mul, b_eq, b_ne, b_lt, b_le, b_gt, b_ge, s_eq, s_ne, q_int, q_str, q_bool, q_nil, q_if, b_eqS, b_neS, b_eqB, b_neB, Option.map_some, u_not, u_neg, l_str, l_lst, c_int, x_tup, after_none, fin_bool, fin_int, fin_str, fin_lst, fin_own, fin_tup, frz2_int, frz2_str, frz2_bool, frz2_lst, fa_ref, fa_ptr, ldc_ref, lf, hlen, Int.lt_irrefl, decide_false, Bool.false_eq_true, if_false, haw]
  | x :: r, q, m + 1, X, hq, hlm => by
    have hlen : ((m0.sites.map srow).length : Int) = q.length + (r.length + 1) := by rw [hq]; simp
    have hlt : (q.length : Int) < q.length + (r.length + 1) := by omega
    have hql : q.length + (r.length + 1) ≤ 8796093022208 := by have := hm.sites; rw [hq] at this; simpa using this
    have hg : (m0.sites.map srow)[q.length]? = some (srow x) := by rw [hq]; simp
    have hx := hm.site x (by rw [hq]; simp)
    have g0 : (O ++ X)[hp0.length]? = some (.cells (mrow m0) ty_api_Model) := by rw [hO, List.getElem?_append_left (by simp)]; exact last_get _ _
    have lf : ldcVal (O ++ X) (.ptr hp0.length (0 + 2)) = some (.lst 13 (m0.sites.map srow)) := ldc_get g0 2
    have hwr := wrap_nat q.length (by omega)
    have hld := lda_ref (O ++ X) 13 (srow x) (by simp [srow])
    have hro : ((srow x).take 13).map AV.ro = srow x := rfl
    have ih := finds_l0 n hp0 m0 a hm haw O hO r (q ++ [x]) m (X ++ [AObj.cells (srow x) ty_api_SiteDecl]) (by rw [hq]; simp) (by simpa using hlm)
    simp only [List.length_append, List.length_cons, List.length_nil, Nat.zero_add] at ih
    rw [← List.append_assoc] at ih
    have hbs : hp0.length ≤ (O ++ X).length := by rw [hO]; simp
    have hst := stV_last hp0.length 13 (O ++ X) [(.str []), (.own 3 []), (.own 17 []), (.own 3 []), (.own 3 []), (.own 1 []), (.own 1 []), (.own 1 []), (.own 1 []), (.own 1 []), (.own 4 []), (.own 5 []), (.own 3 [])] ty_api_SiteDecl 0 (.agg (srow x)) none rfl (by simp) rfl hbs
    have la : ldaVal ((O ++ X) ++ [AObj.cells (srow x) ty_api_SiteDecl]) 13 (.ptr (O ++ X).length 0) = some (.agg (srow x)) := lda_last 13 (O ++ X) _ _ 0 (by simp [srow])
    have e1 := e_mroutine hC (n + 2) ((O ++ X) ++ [AObj.cells (srow x) ty_api_SiteDecl]) x a hx
    have e2 := e_rroutine hC (n + 3) ((O ++ X) ++ [AObj.cells (srow x) ty_api_SiteDecl]) x a hx
    have e3 := e_mkind hC n ((O ++ X) ++ [AObj.cells (srow x) ty_api_SiteDecl]) x a hx
    have e4 := e_rkind hC (n + 3) ((O ++ X) ++ [AObj.cells (srow x) ty_api_SiteDecl]) x a hx
    have e5 := e_mindex hC n ((O ++ X) ++ [AObj.cells (srow x) ty_api_SiteDecl]) x a hx
    have e6 := e_rindex hC (n + 3) ((O ++ X) ++ [AObj.cells (srow x) ty_api_SiteDecl]) x a hx
    simp only [Nat.add_assoc, Nat.reduceAdd] at e1 e2 e3 e4 e5 e6
    generalize evalCall C (n + 5) = K at *
    have hsp : splice [(.str []), (.own 3 []), (.own 17 []), (.own 3 []), (.own 3 []), (.own 1 []), (.own 1 []), (.own 1 []), (.own 1 []), (.own 1 []), (.own 4 []), (.own 5 []), (.own 3 [])] 0 (AV.agg (srow x)).cells = srow x := rfl
    rw [hsp] at hst
    simp only [d_law11_ModelFinds_l0, optK_s, opt2_s, opt3_s, ifK_b, guardK_t, guardK_f, guardB_bt, guardB_bf, pickV_t, pickV_f, gif_t, guardK_pure, ro_gif, pick_and, pick_or', grp_and, grp_or, grp_tt, grp_ft, grp_tf, grp_ff, letK_e, ro_bool, ro_int, ro_str, ro_lst, ro_own, ro_agg, ro_tup, ro_ptr, ro_map, ro_ref, ro_fn, ro_undef, nm_bool, nm_int, nm_str, nm_lst, nm_own, nm_agg, nm_ptr, nm_map, nm_fn, b_add, b_sub, b_mul, b_eq, b_ne, b_lt, b_le, b_gt, b_ge, s_eq, s_ne, q_int, q_str, q_bool, q_nil, q_if, b_eqS, b_neS, b_eqB, b_neB, Option.map_some, u_not, u_neg, l_str, l_lst, c_int, x_tup, after_none, fin_bool, fin_int, fin_str, fin_lst, fin_own, fin_tup, frz2_int, frz2_str, frz2_bool, frz2_lst, fa_ref, fa_ptr, ldc_ref, lf, hlen, hlt, decide_true, if_true, ia_lst, hg, hld, hro, hst, la, quiet_int e1, quiet_int e2, quiet_str e3, quiet_str e4, quiet_int e5, quiet_int e6, bne_self_eq_false, beq_self_eq_true, ne_eq, not_true_eq_false, decide_false, Bool.not_true, Bool.false_eq_true, if_false, Bool.or_self, hwr, ih]
theorem finds_true (n : Nat) (m : Mdl) (a b : List UInt8) (hm : MdlOk m) (haw : ∀ hp, evalCall C (n + 5) F_law11_awake [] hp = some (.bool true, hp, none)) : evalCall C (n + 6) F_law11_ModelFinds [.agg (mrow m), .str a, .str b] [] = some (.bool true, [], none) := by
  refine law11_ModelFinds_run (by rw [hC.T]; rfl) ?_
  have la : ldaVal ([] ++ [AObj.cells (mrow m) ty_api_Model]) 4 (.ptr ([] : List AObj).length 0) = some (.agg (mrow m)) := lda_last 4 [] _ _ 0 (by simp [mrow])
  obtain ⟨lb, hl⟩ := e_light hC (n + 3) ([] ++ [AObj.cells (mrow m) ty_api_Model]) m hm
  have e1 := e_mlink hC (n + 2) ([] ++ [AObj.cells (mrow m) ty_api_Model]) m a b hm
  have e2 := e_rlink hC (n + 4) ([] ++ [AObj.cells (mrow m) ty_api_Model]) m a b hm
  have e3 := e_msite hC (n + 2) ([] ++ [AObj.cells (mrow m) ty_api_Model]) m a hm
  have e4 := e_rsite hC (n + 4) ([] ++ [AObj.cells (mrow m) ty_api_Model]) m a hm
  have lp := finds_l0 hC n [] m a hm haw ([] ++ [AObj.cells (mrow m) ty_api_Model]) rfl m.sites [] C.L [] rfl (by have := hC.L; have := hm.sites; omega)
  rw [List.append_nil] at lp
  have h0 : ((([] : List SiteD).length : Nat) : Int) = 0 := rfl
  rw [h0] at lp
  simp only [Nat.add_assoc, Nat.reduceAdd] at e1 e2 e3 e4 hl
  generalize evalCall C (n + 5) = K at *
  have hbb : ∀ u v : Bool, (u != u) = false := fun u _ => by cases u <;> rfl
  cases lb with
  | false => simp only [d_law11_ModelFinds, optK_s, opt2_s, opt3_s, ifK_b, guardK_t, guardK_f, guardB_bt, guardB_bf, pickV_t, pickV_f, gif_t, guardK_pure, ro_gif, pick_and, pick_or', grp_and, grp_or, grp_tt, grp_ft, grp_tf, grp_ff, letK_e, ro_bool, ro_int, ro_str, ro_lst, ro_own, ro_agg, ro_tup, ro_ptr, ro_map, ro_ref, ro_fn, ro_undef, nm_bool, nm_int, nm_str, nm_lst, nm_own, nm_agg, nm_ptr, nm_map, nm_fn, b_add, b_sub, b_mul, b_eq, b_ne, b_lt, b_le, b_gt, b_ge, s_eq, s_ne, q_int, q_str, q_bool, q_nil, q_if, b_eqS, b_neS, b_eqB, b_neB, Option.map_some, u_not, u_neg, l_str, l_lst, c_int, x_tup, after_none, fin_bool, fin_int, fin_str, fin_lst, fin_own, fin_tup, frz2_int, frz2_str, frz2_bool, frz2_lst, fa_ref, fa_ptr, ldc_ref, box_agg 4 (mrow m) rfl, la, hl, haw, Bool.not_false, if_true]
  | true => simp only [d_law11_ModelFinds, optK_s, opt2_s, opt3_s, ifK_b, guardK_t, guardK_f, guardB_bt, guardB_bf, pickV_t, pickV_f, gif_t, guardK_pure, ro_gif, pick_and, pick_or', grp_and, grp_or, grp_tt, grp_ft, grp_tf, grp_ff, letK_e, ro_bool, ro_int, ro_str, ro_lst, ro_own, ro_agg, ro_tup, ro_ptr, ro_map, ro_ref, ro_fn, ro_undef, nm_bool, nm_int, nm_str, nm_lst, nm_own, nm_agg, nm_ptr, nm_map, nm_fn, b_add, b_sub, b_mul, b_eq, b_ne, b_lt, b_le, b_gt, b_ge, s_eq, s_ne, q_int, q_str, q_bool, q_nil, q_if, b_eqS, b_neS, b_eqB, b_neB, Option.map_some, u_not, u_neg, l_str, l_lst, c_int, x_tup, after_none, fin_bool, fin_int, fin_str, fin_lst, fin_own, fin_tup, frz2_int, frz2_str, frz2_bool, frz2_lst, fa_ref, fa_ptr, ldc_ref, box_agg 4 (mrow m) rfl, la, hl, e1, e2, quiet_int e3, quiet_int e4, Bool.not_true, Bool.false_eq_true, if_false, List.getElem?_cons_zero, List.getElem?_cons_succ, bne_self_eq_false, beq_self_eq_true, ne_eq, not_true_eq_false, decide_false, Bool.or_self, lp]
end
end Go.Proofs.YtlmfmmclnboglaaGreat
