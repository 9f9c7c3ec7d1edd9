/-
  Link of the program; the reference's Link, Site, Kind, Index.
-/
import Derived.Test.YtlmfmmclnboglaaGreatME
namespace Go.Proofs.YtlmfmmclnboglaaGreat
open Go Go.RowKit Go.Proofs.YtlmfmmclnboglaaGreat.Abs
set_option linter.all false
set_option maxRecDepth 100000

def delayOf : List AV → Int
  | [_, _, .int .i64 d] => d
  | _ => 0
def linkV (p : List AV → Bool) : List (List AV) → Int × Bool
  | [] => (0, false)
  | r :: rs => if p r = true then (delayOf r, true) else linkV p rs
theorem find_link (p : List AV → Bool) : ∀ (rows : List (List AV)) (k : Nat), (findI p rows k = -1 ∧ linkV p rows = (0, false)) ∨ ∃ j x, findI p rows k = ((k + j : Nat) : Int) ∧ rows[j]? = some x ∧ linkV p rows = (delayOf x, true)
  | [], _ => .inl ⟨rfl, rfl⟩
  | r :: rs, k => by
    cases hp : p r with
    | true => exact .inr ⟨0, r, by simp [findI, hp], rfl, by simp [linkV, hp]⟩
    | false =>
      rcases find_link p rs (k + 1) with ⟨h1, h2⟩ | ⟨j, x, h1, h2, h3⟩
      · exact .inl ⟨by simp [findI, hp, h1], by simp [linkV, hp, h2]⟩
      · exact .inr ⟨j + 1, x, by simp only [findI, hp, Bool.false_eq_true, if_false, h1]; congr 1; omega, by simpa using h2, by simp [linkV, hp, h3]⟩
theorem link_row {r : List AV} (h : LinkOk r) : ∃ a b, r = [.str a, .str b, .int .i64 (delayOf r)] := by
  obtain ⟨a, b, d, rfl⟩ := h.ex
  exact ⟨a, b, rfl⟩
/-- the names of each kind, found one after the other -/
theorem kinds_rows (s : SiteD) (hs : SiteOk s) : ∀ p ∈ kinds s, p.2.length ≤ 8796093022208 := by
  intro p hp
  simp only [kinds, List.mem_cons, List.not_mem_nil, or_false] at hp
  rcases hp with rfl | rfl | rfl | rfl | rfl | rfl | rfl | rfl | rfl | rfl
  · exact hs.vars.1
  · exact hs.res.1
  · exact hs.stores.1
  · exact hs.belts.1
  · exact hs.queues.1
  · exact hs.streams.1
  · exact hs.tallies.1
  · exact hs.levels.1
  · exact hs.counts.1
  · exact hs.routines.1
section
variable {C : Cfg} (hC : CfgL C)
include hC
theorem e_cl_link (n : Nat) (H : List AObj) (x y a b : List UInt8) (d : Int) (g g' : Nat) (hg : H[g]? = some (.cells [.str a] ty_string)) (hg' : H[g']? = some (.cells [.str b] ty_string)) :
    evalCall C (n + 1) F_model_Link_1 [.agg [.str x, .str y, .int .i64 d], .ptr g 0, .ptr g' 0] H = some (.bool (isL a b [.str x, .str y, .int .i64 d]), H, none) := by
  refine model_Link_1_run (by rw [hC.T]; rfl) ?_
  have hgl : g < H.length := getElem?_lt hg
  have hgl' : g' < H.length := getElem?_lt hg'
  have l0 : ldcVal (H ++ [AObj.cells [.str x, .str y, .int .i64 d] ty_api_Link]) (.ptr H.length (0 + 0)) = some (.str x) := ldc_get (g := H.length) (last_get _ _) 0
  have l1 : ldcVal (H ++ [AObj.cells [.str x, .str y, .int .i64 d] ty_api_Link]) (.ptr H.length (0 + 1)) = some (.str y) := ldc_get (g := H.length) (last_get _ _) 1
  have k2 : (H ++ [AObj.cells [.str x, .str y, .int .i64 d] ty_api_Link])[g]? = some (.cells [.str a] ty_string) := by rw [List.getElem?_append_left hgl]; exact hg
  have k3 : (H ++ [AObj.cells [.str x, .str y, .int .i64 d] ty_api_Link])[g']? = some (.cells [.str b] ty_string) := by rw [List.getElem?_append_left hgl']; exact hg'
  have l2 : ldcVal (H ++ [AObj.cells [.str x, .str y, .int .i64 d] ty_api_Link]) (.ptr g 0) = some (.str a) := ldc_get k2 0
  have l3 : ldcVal (H ++ [AObj.cells [.str x, .str y, .int .i64 d] ty_api_Link]) (.ptr g' 0) = some (.str b) := ldc_get k3 0
  simp only [d_model_Link_1, optK_s, opt2_s, opt3_s, ifK_b, guardK_t, guardK_f, guardB_bt, guardB_bf, pickV_t, pickV_f, gif_t, guardK_pure, ro_gif, pick_and, pick_or', grp_and, grp_or, grp_tt, grp_ft, grp_tf, grp_ff, letK_e, ro_bool, ro_int, ro_str, ro_lst, ro_own, ro_agg, ro_tup, ro_ptr, ro_map, ro_ref, ro_fn, ro_undef, nm_bool, nm_int, nm_str, nm_lst, nm_own, nm_agg, nm_ptr, nm_map, nm_fn, b_add, b_sub, b_mul, b_eq, b_ne, b_lt, b_le, b_gt, b_ge, s_eq, s_ne, q_int, q_str, q_bool, q_nil, q_if, b_eqS, b_neS, b_eqB, b_neB, Option.map_some, u_not, u_neg, l_str, l_lst, c_int, x_tup, after_none, fin_bool, fin_int, fin_str, fin_lst, fin_own, fin_tup, frz2_int, frz2_str, frz2_bool, frz2_lst, fa_ref, fa_ptr, ldc_ref, box_agg 3 [.str x, .str y, .int .i64 d] rfl, l0, l1, l2, l3, isL]
theorem e_mlink (n : Nat) (hp : List AObj) (m : Mdl) (a b : List UInt8) (hm : MdlOk m) : evalCall C (n + 3) F_model_Link [.agg (mrow m), .str a, .str b] hp = some (.tup [.int .i64 (linkV (isL a b) m.links).1, .bool (linkV (isL a b) m.links).2], hp, none) := by
  refine model_Link_run (by rw [hC.T]; rfl) ?_
  obtain ⟨H, hH⟩ : ∃ H, (((hp ++ [AObj.cells (mrow m) ty_api_Model]) ++ [AObj.cells [.str a] ty_string]) ++ [AObj.cells [.str b] ty_string]) = H := ⟨_, rfl⟩
  have g0 : H[hp.length]? = some (.cells (mrow m) ty_api_Model) := by rw [← hH, List.getElem?_append_left (by simp)]; exact get_H
  have g1 : H[(hp ++ [AObj.cells (mrow m) ty_api_Model]).length]? = some (.cells [.str a] ty_string) := by rw [← hH]; exact get_H
  have g2 : H[((hp ++ [AObj.cells (mrow m) ty_api_Model]) ++ [AObj.cells [.str a] ty_string]).length]? = some (.cells [.str b] ty_string) := by rw [← hH]; exact last_get _ _
  have lf : ldcVal H (.ptr hp.length (0 + 3)) = some (.lst 3 m.links) := ldc_get g0 3
  have hc := e_ixf_Lapi_Link_api_Link_ hC (n + 1) H F_model_Link_1 [.ptr (hp ++ [AObj.cells (mrow m) ty_api_Model]).length 0, .ptr ((hp ++ [AObj.cells (mrow m) ty_api_Model]) ++ [AObj.cells [.str a] ty_string]).length 0] (isL a b) m.links (by have := hm.links; omega) (fun r hr => by
      obtain ⟨x, y, h⟩ := link_row (hm.link r hr)
      rw [h]; exact ⟨rfl, rfl⟩) fun r hr => by
    obtain ⟨x, y, h⟩ := link_row (hm.link r hr)
    have := e_cl_link hC n H x y a b (delayOf r) _ _ g1 g2
    rw [← h] at this
    exact this
  generalize evalCall C (n + 2) = K at *
  rcases find_link (isL a b) m.links 0 with ⟨h1, h2⟩ | ⟨j, x, h1, h2, h3⟩
  · rw [h1] at hc
    have hlt : ((-1 : Int) < 0) := by omega
    simp only [d_model_Link, optK_s, opt2_s, opt3_s, ifK_b, guardK_t, guardK_f, guardB_bt, guardB_bf, pickV_t, pickV_f, gif_t, guardK_pure, ro_gif, pick_and, pick_or', grp_and, grp_or, grp_tt, grp_ft, grp_tf, grp_ff, letK_e, ro_bool, ro_int, ro_str, ro_lst, ro_own, ro_agg, ro_tup, ro_ptr, ro_map, ro_ref, ro_fn, ro_undef, nm_bool, nm_int, nm_str, nm_lst, nm_own, nm_agg, nm_ptr, nm_map, nm_fn, b_add, b_sub, b_mul, b_eq, b_ne, b_lt, b_le, b_gt, b_ge, s_eq, s_ne, q_int, q_str, q_bool, q_nil, q_if, b_eqS, b_neS, b_eqB, b_neB, Option.map_some, u_not, u_neg, l_str, l_lst, c_int, x_tup, after_none, fin_bool, fin_int, fin_str, fin_lst, fin_own, fin_tup, frz2_int, frz2_str, frz2_bool, frz2_lst, fa_ref, fa_ptr, ldc_ref, box_agg 4 (mrow m) rfl, box_str, hH, lf, hc, hlt, decide_true, if_true, h2]
    rfl
  · rw [h1] at hc
    have hlt : ¬ (((0 + j : Nat) : Int) < 0) := by omega
    obtain ⟨u, v, hx⟩ := link_row (hm.link x (List.mem_of_getElem? h2))
    have hia : iaVal (.slice 3) (.lst 3 m.links) (.int .i64 ((0 + j : Nat) : Int)) = some (.ref x) := by rw [Nat.zero_add, ia_lst, h2]; rfl
    have lx : ldcVal H (.ref (x.drop 2)) = some (.int .i64 (delayOf x)) := by rw [hx]; rfl
    simp only [d_model_Link, optK_s, opt2_s, opt3_s, ifK_b, guardK_t, guardK_f, guardB_bt, guardB_bf, pickV_t, pickV_f, gif_t, guardK_pure, ro_gif, pick_and, pick_or', grp_and, grp_or, grp_tt, grp_ft, grp_tf, grp_ff, letK_e, ro_bool, ro_int, ro_str, ro_lst, ro_own, ro_agg, ro_tup, ro_ptr, ro_map, ro_ref, ro_fn, ro_undef, nm_bool, nm_int, nm_str, nm_lst, nm_own, nm_agg, nm_ptr, nm_map, nm_fn, b_add, b_sub, b_mul, b_eq, b_ne, b_lt, b_le, b_gt, b_ge, s_eq, s_ne, q_int, q_str, q_bool, q_nil, q_if, b_eqS, b_neS, b_eqB, b_neB, Option.map_some, u_not, u_neg, l_str, l_lst, c_int, x_tup, after_none, fin_bool, fin_int, fin_str, fin_lst, fin_own, fin_tup, frz2_int, frz2_str, frz2_bool, frz2_lst, fa_ref, fa_ptr, ldc_ref, box_agg 4 (mrow m) rfl, box_str, hH, lf, hc, hlt, decide_false, Bool.false_eq_true, if_false, h3, hia, lx]
    rfl
theorem e_rlink_l (K : FuncId → List AV → List AObj → KR) (hp0 : List AObj) (m0 : Mdl) (a b : List UInt8) (hm : MdlOk m0) : ∀ (r q : List (List AV)) (m : Nat), m0.links = q ++ r → r.length < m →
    d_r11_Link_l0 C.G K C.L hp0 (d_r11_Link_j1 C.G K C.L hp0) m (.str a) (.str b) (.ptr hp0.length 0) (.int .i64 q.length) (hp0 ++ [AObj.cells (mrow m0) ty_api_Model]) none = some (.tup [.int .i64 (linkV (isL a b) r).1, .bool (linkV (isL a b) r).2], hp0, none)
  | _, _, 0, _, h => by omega
  | [], q, m + 1, hs, _ => by
    have hlen : (m0.links.length : Int) = q.length := by rw [hs]; simp
    have lf : ldcVal (hp0 ++ [AObj.cells (mrow m0) ty_api_Model]) (.ptr hp0.length (0 + 3)) = some (.lst 3 m0.links) := ldc_get (last_get _ _) 3
    simp only [d_r11_Link_l0, d_r11_Link_j1, optK_s, opt2_s, opt3_s, ifK_b, guardK_t, guardK_f, guardB_bt, guardB_bf, pickV_t, pickV_f, gif_t, guardK_pure, ro_gif, pick_and, pick_or', grp_and, grp_or, grp_tt, grp_ft, grp_tf, grp_ff, letK_e, ro_bool, ro_int, ro_str, ro_lst, ro_own, ro_agg, ro_tup, ro_ptr, ro_map, ro_ref, ro_fn, ro_undef, nm_bool, nm_int, nm_str, nm_lst, nm_own, nm_agg, nm_ptr, nm_map, nm_fn, b_add, b_sub, b_mul, b_eq, b_ne, b_lt, b_le, b_gt, b_ge, s_eq, s_ne, q_int, q_str, q_bool, q_nil, q_if, b_eqS, b_neS, b_eqB, b_neB, Option.map_some, u_not, u_neg, l_str, l_lst, c_int, x_tup, after_none, fin_bool, fin_int, fin_str, fin_lst, fin_own, fin_tup, frz2_int, frz2_str, frz2_bool, frz2_lst, fa_ref, fa_ptr, ldc_ref, lf, hlen, Int.lt_irrefl, decide_false, Bool.false_eq_true, if_false, linkV]
    rfl
  | x :: r, q, m + 1, hs, hlm => by
    have hlen : (m0.links.length : Int) = q.length + (r.length + 1) := by rw [hs]; simp
    have hlt : (q.length : Int) < q.length + (r.length + 1) := by omega
    have hql : q.length + (r.length + 1) ≤ 8796093022208 := by have := hm.links; rw [hs] at this; simpa using this
    have hg : m0.links[q.length]? = some x := by rw [hs]; simp
    have lf : ldcVal (hp0 ++ [AObj.cells (mrow m0) ty_api_Model]) (.ptr hp0.length (0 + 3)) = some (.lst 3 m0.links) := ldc_get (last_get _ _) 3
    obtain ⟨u, v, hx⟩ := link_row (hm.link x (by rw [hs]; simp))
    have l0 : ∀ H, ldcVal H (.ref (x.drop 0)) = some (.str u) := fun H => by rw [hx]; rfl
    have l1 : ∀ H, ldcVal H (.ref (x.drop 1)) = some (.str v) := fun H => by rw [hx]; rfl
    have l2 : ∀ H, ldcVal H (.ref (x.drop 2)) = some (.int .i64 (delayOf x)) := fun H => by rw [hx]; rfl
    have hpx : isL a b x = (decide (u = a) && decide (v = b)) := by rw [hx]; rfl
    have ih := e_rlink_l K hp0 m0 a b hm r (q ++ [x]) m (by rw [hs]; simp) (by simpa using hlm)
    simp only [List.length_append, List.length_cons, List.length_nil, Nat.zero_add] at ih
    have hwr := wrap_nat q.length (by omega)
    simp only [d_r11_Link_l0, optK_s, opt2_s, opt3_s, ifK_b, guardK_t, guardK_f, guardB_bt, guardB_bf, pickV_t, pickV_f, gif_t, guardK_pure, ro_gif, pick_and, pick_or', grp_and, grp_or, grp_tt, grp_ft, grp_tf, grp_ff, letK_e, ro_bool, ro_int, ro_str, ro_lst, ro_own, ro_agg, ro_tup, ro_ptr, ro_map, ro_ref, ro_fn, ro_undef, nm_bool, nm_int, nm_str, nm_lst, nm_own, nm_agg, nm_ptr, nm_map, nm_fn, b_add, b_sub, b_mul, b_eq, b_ne, b_lt, b_le, b_gt, b_ge, s_eq, s_ne, q_int, q_str, q_bool, q_nil, q_if, b_eqS, b_neS, b_eqB, b_neB, Option.map_some, u_not, u_neg, l_str, l_lst, c_int, x_tup, after_none, fin_bool, fin_int, fin_str, fin_lst, fin_own, fin_tup, frz2_int, frz2_str, frz2_bool, frz2_lst, fa_ref, fa_ptr, ldc_ref, lf, hlen, hlt, decide_true, if_true, ia_lst, hg, l0, l1, linkV, hpx]
    by_cases h1 : u = a
    · by_cases h2 : v = b
      · simp only [h1, h2, decide_true, if_true, optK_s, opt2_s, opt3_s, ifK_b, guardK_t, guardK_f, guardB_bt, guardB_bf, pickV_t, pickV_f, gif_t, guardK_pure, ro_gif, pick_and, pick_or', grp_and, grp_or, grp_tt, grp_ft, grp_tf, grp_ff, letK_e, ro_bool, ro_int, ro_str, ro_lst, ro_own, ro_agg, ro_tup, ro_ptr, ro_map, ro_ref, ro_fn, ro_undef, nm_bool, nm_int, nm_str, nm_lst, nm_own, nm_agg, nm_ptr, nm_map, nm_fn, b_add, b_sub, b_mul, b_eq, b_ne, b_lt, b_le, b_gt, b_ge, s_eq, s_ne, q_int, q_str, q_bool, q_nil, q_if, b_eqS, b_neS, b_eqB, b_neB, Option.map_some, u_not, u_neg, l_str, l_lst, c_int, x_tup, after_none, fin_bool, fin_int, fin_str, fin_lst, fin_own, fin_tup, frz2_int, frz2_str, frz2_bool, frz2_lst, fa_ref, fa_ptr, ldc_ref, beq_self_eq_true, Bool.and_self, lf, ia_lst, hg, l2]
        rfl
      · have hb : (v == b) = false := by simpa using h2
        simp only [h1, h2, decide_true, decide_false, if_true, optK_s, opt2_s, opt3_s, ifK_b, guardK_t, guardK_f, guardB_bt, guardB_bf, pickV_t, pickV_f, gif_t, guardK_pure, ro_gif, pick_and, pick_or', grp_and, grp_or, grp_tt, grp_ft, grp_tf, grp_ff, letK_e, ro_bool, ro_int, ro_str, ro_lst, ro_own, ro_agg, ro_tup, ro_ptr, ro_map, ro_ref, ro_fn, ro_undef, nm_bool, nm_int, nm_str, nm_lst, nm_own, nm_agg, nm_ptr, nm_map, nm_fn, b_add, b_sub, b_mul, b_eq, b_ne, b_lt, b_le, b_gt, b_ge, s_eq, s_ne, q_int, q_str, q_bool, q_nil, q_if, b_eqS, b_neS, b_eqB, b_neB, Option.map_some, u_not, u_neg, l_str, l_lst, c_int, x_tup, after_none, fin_bool, fin_int, fin_str, fin_lst, fin_own, fin_tup, frz2_int, frz2_str, frz2_bool, frz2_lst, fa_ref, fa_ptr, ldc_ref, beq_self_eq_true, Bool.and_false, Bool.false_eq_true, if_false, hb, hwr, ih]
    · have hb : (u == a) = false := by simpa using h1
      simp only [h1, decide_false, optK_s, opt2_s, opt3_s, ifK_b, guardK_t, guardK_f, guardB_bt, guardB_bf, pickV_t, pickV_f, gif_t, guardK_pure, ro_gif, pick_and, pick_or', grp_and, grp_or, grp_tt, grp_ft, grp_tf, grp_ff, letK_e, ro_bool, ro_int, ro_str, ro_lst, ro_own, ro_agg, ro_tup, ro_ptr, ro_map, ro_ref, ro_fn, ro_undef, nm_bool, nm_int, nm_str, nm_lst, nm_own, nm_agg, nm_ptr, nm_map, nm_fn, b_add, b_sub, b_mul, b_eq, b_ne, b_lt, b_le, b_gt, b_ge, s_eq, s_ne, q_int, q_str, q_bool, q_nil, q_if, b_eqS, b_neS, b_eqB, b_neB, Option.map_some, u_not, u_neg, l_str, l_lst, c_int, x_tup, after_none, fin_bool, fin_int, fin_str, fin_lst, fin_own, fin_tup, frz2_int, frz2_str, frz2_bool, frz2_lst, fa_ref, fa_ptr, ldc_ref, Bool.false_and, Bool.false_eq_true, if_false, hb, hwr, ih]
theorem e_rlink (n : Nat) (hp : List AObj) (m : Mdl) (a b : List UInt8) (hm : MdlOk m) : evalCall C (n + 1) F_r11_Link [.agg (mrow m), .str a, .str b] hp = some (.tup [.int .i64 (linkV (isL a b) m.links).1, .bool (linkV (isL a b) m.links).2], hp, none) := by
  refine r11_Link_run (by rw [hC.T]; rfl) ?_
  simp only [d_r11_Link, optK_s, opt2_s, opt3_s, ifK_b, guardK_t, guardK_f, guardB_bt, guardB_bf, pickV_t, pickV_f, gif_t, guardK_pure, ro_gif, pick_and, pick_or', grp_and, grp_or, grp_tt, grp_ft, grp_tf, grp_ff, letK_e, ro_bool, ro_int, ro_str, ro_lst, ro_own, ro_agg, ro_tup, ro_ptr, ro_map, ro_ref, ro_fn, ro_undef, nm_bool, nm_int, nm_str, nm_lst, nm_own, nm_agg, nm_ptr, nm_map, nm_fn, b_add, b_sub, b_mul, b_eq, b_ne, b_lt, b_le, b_gt, b_ge, s_eq, s_ne, q_int, q_str, q_bool, q_nil, q_if, b_eqS, b_neS, b_eqB, b_neB, Option.map_some, u_not, u_neg, l_str, l_lst, c_int, x_tup, after_none, fin_bool, fin_int, fin_str, fin_lst, fin_own, fin_tup, frz2_int, frz2_str, frz2_bool, frz2_lst, fa_ref, fa_ptr, ldc_ref, box_agg 4 (mrow m) rfl]
  exact e_rlink_l hC (evalCall C n) hp m a b hm m.links [] C.L rfl (by have := hC.L; have := hm.links; omega)
theorem e_rsite_l (K : FuncId → List AV → List AObj → KR) (hp0 : List AObj) (m0 : Mdl) (name : List UInt8) (hm : MdlOk m0) : ∀ (r q : List SiteD) (m : Nat), m0.sites = q ++ r → r.length < m →
    d_r11_Site_l0 C.G K C.L hp0 (d_r11_Site_j1 C.G K C.L hp0) m (.str name) (.ptr hp0.length 0) (.int .i64 q.length) (.int .i64 q.length) (hp0 ++ [AObj.cells (mrow m0) ty_api_Model]) none = some (.int .i64 (findI (isN name) (r.map srow) q.length), hp0, none)
  | _, _, 0, _, h => by omega
  | [], q, m + 1, hs, _ => by
    have hlen : ((m0.sites.map srow).length : Int) = q.length := by rw [hs]; simp
    have lf : ldcVal (hp0 ++ [AObj.cells (mrow m0) ty_api_Model]) (.ptr hp0.length (0 + 2)) = some (.lst 13 (m0.sites.map srow)) := ldc_get (last_get _ _) 2
    simp only [d_r11_Site_l0, d_r11_Site_j1, optK_s, opt2_s, opt3_s, ifK_b, guardK_t, guardK_f, guardB_bt, guardB_bf, pickV_t, pickV_f, gif_t, guardK_pure, ro_gif, pick_and, pick_or', grp_and, grp_or, grp_tt, grp_ft, grp_tf, grp_ff, letK_e, ro_bool, ro_int, ro_str, ro_lst, ro_own, ro_agg, ro_tup, ro_ptr, ro_map, ro_ref, ro_fn, ro_undef, nm_bool, nm_int, nm_str, nm_lst, nm_own, nm_agg, nm_ptr, nm_map, nm_fn, b_add, b_sub, b_mul, b_eq, b_ne, b_lt, b_le, b_gt, b_ge, s_eq, s_ne, q_int, q_str, q_bool, q_nil, q_if, b_eqS, b_neS, b_eqB, b_neB, Option.map_some, u_not, u_neg, l_str, l_lst, c_int, x_tup, after_none, fin_bool, fin_int, fin_str, fin_lst, fin_own, fin_tup, frz2_int, frz2_str, frz2_bool, frz2_lst, fa_ref, fa_ptr, ldc_ref, lf, hlen, Int.lt_irrefl, decide_false, Bool.false_eq_true, if_false, findI, List.map_nil]
  | x :: r, q, m + 1, hs, hlm => by
    have hlen : ((m0.sites.map srow).length : Int) = q.length + (r.length + 1) := by rw [hs]; simp
    have hlt : (q.length : Int) < q.length + (r.length + 1) := by omega
    have hql : q.length + (r.length + 1) ≤ 8796093022208 := by have := hm.sites; rw [hs] at this; simpa using this
    have hg : (m0.sites.map srow)[q.length]? = some (srow x) := by rw [hs]; simp
    have lf : ldcVal (hp0 ++ [AObj.cells (mrow m0) ty_api_Model]) (.ptr hp0.length (0 + 2)) = some (.lst 13 (m0.sites.map srow)) := ldc_get (last_get _ _) 2
    have l0 : ∀ H, ldcVal H (.ref ((srow x).drop 0)) = some (.str x.name) := fun H => rfl
    have ih := e_rsite_l K hp0 m0 name hm r (q ++ [x]) m (by rw [hs]; simp) (by simpa using hlm)
    simp only [List.length_append, List.length_cons, List.length_nil, Nat.zero_add] at ih
    have hwr := wrap_nat q.length (by omega)
    have hpx : isN name (srow x) = decide (x.name = name) := rfl
    simp only [d_r11_Site_l0, optK_s, opt2_s, opt3_s, ifK_b, guardK_t, guardK_f, guardB_bt, guardB_bf, pickV_t, pickV_f, gif_t, guardK_pure, ro_gif, pick_and, pick_or', grp_and, grp_or, grp_tt, grp_ft, grp_tf, grp_ff, letK_e, ro_bool, ro_int, ro_str, ro_lst, ro_own, ro_agg, ro_tup, ro_ptr, ro_map, ro_ref, ro_fn, ro_undef, nm_bool, nm_int, nm_str, nm_lst, nm_own, nm_agg, nm_ptr, nm_map, nm_fn, b_add, b_sub, b_mul, b_eq, b_ne, b_lt, b_le, b_gt, b_ge, s_eq, s_ne, q_int, q_str, q_bool, q_nil, q_if, b_eqS, b_neS, b_eqB, b_neB, Option.map_some, u_not, u_neg, l_str, l_lst, c_int, x_tup, after_none, fin_bool, fin_int, fin_str, fin_lst, fin_own, fin_tup, frz2_int, frz2_str, frz2_bool, frz2_lst, fa_ref, fa_ptr, ldc_ref, lf, hlen, hlt, decide_true, if_true, ia_lst, hg, l0, findI, hpx, List.map_cons]
    by_cases h1 : x.name = name
    · simp only [h1, decide_true, beq_self_eq_true, if_true, optK_s, opt2_s, opt3_s, ifK_b, guardK_t, guardK_f, guardB_bt, guardB_bf, pickV_t, pickV_f, gif_t, guardK_pure, ro_gif, pick_and, pick_or', grp_and, grp_or, grp_tt, grp_ft, grp_tf, grp_ff, letK_e, ro_bool, ro_int, ro_str, ro_lst, ro_own, ro_agg, ro_tup, ro_ptr, ro_map, ro_ref, ro_fn, ro_undef, nm_bool, nm_int, nm_str, nm_lst, nm_own, nm_agg, nm_ptr, nm_map, nm_fn, b_add, b_sub, b_mul, b_eq, b_ne, b_lt, b_le, b_gt, b_ge, s_eq, s_ne, q_int, q_str, q_bool, q_nil, q_if, b_eqS, b_neS, b_eqB, b_neB, Option.map_some, u_not, u_neg, l_str, l_lst, c_int, x_tup, after_none, fin_bool, fin_int, fin_str, fin_lst, fin_own, fin_tup, frz2_int, frz2_str, frz2_bool, frz2_lst, fa_ref, fa_ptr, ldc_ref]
    · have hb : (x.name == name) = false := by simpa using h1
      simp only [h1, hb, decide_false, Bool.false_eq_true, if_false, hwr, optK_s, opt2_s, opt3_s, ifK_b, guardK_t, guardK_f, guardB_bt, guardB_bf, pickV_t, pickV_f, gif_t, guardK_pure, ro_gif, pick_and, pick_or', grp_and, grp_or, grp_tt, grp_ft, grp_tf, grp_ff, letK_e, ro_bool, ro_int, ro_str, ro_lst, ro_own, ro_agg, ro_tup, ro_ptr, ro_map, ro_ref, ro_fn, ro_undef, nm_bool, nm_int, nm_str, nm_lst, nm_own, nm_agg, nm_ptr, nm_map, nm_fn, b_add, b_sub, b_mul, b_eq, b_ne, b_lt, b_le, b_gt, b_ge, s_eq, s_ne, q_int, q_str, q_bool, q_nil, q_if, b_eqS, b_neS, b_eqB, b_neB, Option.map_some, u_not, u_neg, l_str, l_lst, c_int, x_tup, after_none, fin_bool, fin_int, fin_str, fin_lst, fin_own, fin_tup, frz2_int, frz2_str, frz2_bool, frz2_lst, fa_ref, fa_ptr, ldc_ref, ih]
theorem e_rsite (n : Nat) (hp : List AObj) (m : Mdl) (name : List UInt8) (hm : MdlOk m) : evalCall C (n + 1) F_r11_Site [.agg (mrow m), .str name] hp = some (.int .i64 (siteN name m), hp, none) := by
  refine r11_Site_run (by rw [hC.T]; rfl) ?_
  simp only [d_r11_Site, optK_s, opt2_s, opt3_s, ifK_b, guardK_t, guardK_f, guardB_bt, guardB_bf, pickV_t, pickV_f, gif_t, guardK_pure, ro_gif, pick_and, pick_or', grp_and, grp_or, grp_tt, grp_ft, grp_tf, grp_ff, letK_e, ro_bool, ro_int, ro_str, ro_lst, ro_own, ro_agg, ro_tup, ro_ptr, ro_map, ro_ref, ro_fn, ro_undef, nm_bool, nm_int, nm_str, nm_lst, nm_own, nm_agg, nm_ptr, nm_map, nm_fn, b_add, b_sub, b_mul, b_eq, b_ne, b_lt, b_le, b_gt, b_ge, s_eq, s_ne, q_int, q_str, q_bool, q_nil, q_if, b_eqS, b_neS, b_eqB, b_neB, Option.map_some, u_not, u_neg, l_str, l_lst, c_int, x_tup, after_none, fin_bool, fin_int, fin_str, fin_lst, fin_own, fin_tup, frz2_int, frz2_str, frz2_bool, frz2_lst, fa_ref, fa_ptr, ldc_ref, box_agg 4 (mrow m) rfl]
  exact e_rsite_l hC (evalCall C n) hp m name hm m.sites [] C.L rfl (by have := hC.L; have := hm.sites; omega)
theorem e_find_kind (n : Nat) (hp : List AObj) (s : SiteD) (name : List UInt8) (hs : SiteOk s) (p : List UInt8 × List (List AV)) (hp' : p ∈ kinds s) : evalCall C (n + 1) F_r07_Find [.lst 1 (p.2.map nm1), .str name] hp = some (.int .i64 (findI (isN name) p.2 0), hp, none) := by
  have hf := e_rfind hC n hp name (p.2.map nm1) (by have := kinds_rows s hs p hp'; simp; omega) (fun r hr => by obtain ⟨x, _, rfl⟩ := List.mem_map.1 hr; rfl)
  rw [find_nm1] at hf
  exact hf
theorem e_rkind_l (n : Nat) (hp0 hp : List AObj) (s : SiteD) (name : List UInt8) (hs : SiteOk s) : ∀ (r q : List (List UInt8 × List (List AV))) (m : Nat), kinds s = q ++ r → r.length < m →
    d_r11_Kind_l0 C.G (evalCall C (n + 1)) C.L hp0 (d_r11_Kind_j1 C.G (evalCall C (n + 1)) C.L hp0) m (.str name) (.lst 1 ((namesL s).map fun l => [.lst 1 l])) (.lst 1 ((kinds s).map fun p => [.str p.1])) (.int .i64 q.length) hp none = some (.str (firstIn name r).1, hp0, none)
  | _, _, 0, _, h => by omega
  | [], q, m + 1, hq, _ => by
    have hlen : (((namesL s).map fun l => [AV.lst 1 l]).length : Int) = q.length := by simp only [namesL, hq]; simp
    simp only [d_r11_Kind_l0, d_r11_Kind_j1, optK_s, opt2_s, opt3_s, ifK_b, guardK_t, guardK_f, guardB_bt, guardB_bf, pickV_t, pickV_f, gif_t, guardK_pure, ro_gif, pick_and, pick_or', grp_and, grp_or, grp_tt, grp_ft, grp_tf, grp_ff, letK_e, ro_bool, ro_int, ro_str, ro_lst, ro_own, ro_agg, ro_tup, ro_ptr, ro_map, ro_ref, ro_fn, ro_undef, nm_bool, nm_int, nm_str, nm_lst, nm_own, nm_agg, nm_ptr, nm_map, nm_fn, b_add, b_sub, b_mul, b_eq, b_ne, b_lt, b_le, b_gt, b_ge, s_eq, s_ne, q_int, q_str, q_bool, q_nil, q_if, b_eqS, b_neS, b_eqB, b_neB, Option.map_some, u_not, u_neg, l_str, l_lst, c_int, x_tup, after_none, fin_bool, fin_int, fin_str, fin_lst, fin_own, fin_tup, frz2_int, frz2_str, frz2_bool, frz2_lst, fa_ref, fa_ptr, ldc_ref, hlen, Int.lt_irrefl, decide_false, Bool.false_eq_true, if_false, firstIn]
  | x :: r, q, m + 1, hq, hlm => by
    have hlen : (((namesL s).map fun l => [AV.lst 1 l]).length : Int) = q.length + (r.length + 1) := by simp only [namesL, hq]; simp
    have hlt : (q.length : Int) < q.length + (r.length + 1) := by omega
    have hql : q.length + (r.length + 1) = 10 := by have : (kinds s).length = 10 := rfl; rw [hq] at this; simpa using this
    have hg : ((namesL s).map fun l => [AV.lst 1 l])[q.length]? = some [.lst 1 (x.2.map nm1)] := by simp only [namesL, hq]; simp
    have hw : ((kinds s).map fun p => [AV.str p.1])[q.length]? = some [.str x.1] := by simp only [hq]; simp
    have hf := e_find_kind hC n hp s name hs x (by rw [hq]; simp)
    have ih := e_rkind_l n hp0 hp s name hs r (q ++ [x]) m (by rw [hq]; simp) (by simpa using hlm)
    simp only [List.length_append, List.length_cons, List.length_nil, Nat.zero_add] at ih
    have hwr := wrap_nat q.length (by omega)
    have l0 : ∀ v : AV, ldcVal hp (.ref [v]) = some v.ro := fun v => rfl
    simp only [d_r11_Kind_l0, optK_s, opt2_s, opt3_s, ifK_b, guardK_t, guardK_f, guardB_bt, guardB_bf, pickV_t, pickV_f, gif_t, guardK_pure, ro_gif, pick_and, pick_or', grp_and, grp_or, grp_tt, grp_ft, grp_tf, grp_ff, letK_e, ro_bool, ro_int, ro_str, ro_lst, ro_own, ro_agg, ro_tup, ro_ptr, ro_map, ro_ref, ro_fn, ro_undef, nm_bool, nm_int, nm_str, nm_lst, nm_own, nm_agg, nm_ptr, nm_map, nm_fn, b_add, b_sub, b_mul, b_eq, b_ne, b_lt, b_le, b_gt, b_ge, s_eq, s_ne, q_int, q_str, q_bool, q_nil, q_if, b_eqS, b_neS, b_eqB, b_neB, Option.map_some, u_not, u_neg, l_str, l_lst, c_int, x_tup, after_none, fin_bool, fin_int, fin_str, fin_lst, fin_own, fin_tup, frz2_int, frz2_str, frz2_bool, frz2_lst, fa_ref, fa_ptr, ldc_ref, hlen, hlt, decide_true, if_true, ia_lst, hg, l0, hf]
    by_cases h1 : 0 ≤ findI (isN name) x.2 0
    · simp only [h1, ge_iff_le, decide_true, if_true, optK_s, opt2_s, opt3_s, ifK_b, guardK_t, guardK_f, guardB_bt, guardB_bf, pickV_t, pickV_f, gif_t, guardK_pure, ro_gif, pick_and, pick_or', grp_and, grp_or, grp_tt, grp_ft, grp_tf, grp_ff, letK_e, ro_bool, ro_int, ro_str, ro_lst, ro_own, ro_agg, ro_tup, ro_ptr, ro_map, ro_ref, ro_fn, ro_undef, nm_bool, nm_int, nm_str, nm_lst, nm_own, nm_agg, nm_ptr, nm_map, nm_fn, b_add, b_sub, b_mul, b_eq, b_ne, b_lt, b_le, b_gt, b_ge, s_eq, s_ne, q_int, q_str, q_bool, q_nil, q_if, b_eqS, b_neS, b_eqB, b_neB, Option.map_some, u_not, u_neg, l_str, l_lst, c_int, x_tup, after_none, fin_bool, fin_int, fin_str, fin_lst, fin_own, fin_tup, frz2_int, frz2_str, frz2_bool, frz2_lst, fa_ref, fa_ptr, ldc_ref, ia_lst, hw, l0, firstIn]
    · simp only [h1, ge_iff_le, decide_false, Bool.false_eq_true, if_false, hwr, optK_s, opt2_s, opt3_s, ifK_b, guardK_t, guardK_f, guardB_bt, guardB_bf, pickV_t, pickV_f, gif_t, guardK_pure, ro_gif, pick_and, pick_or', grp_and, grp_or, grp_tt, grp_ft, grp_tf, grp_ff, letK_e, ro_bool, ro_int, ro_str, ro_lst, ro_own, ro_agg, ro_tup, ro_ptr, ro_map, ro_ref, ro_fn, ro_undef, nm_bool, nm_int, nm_str, nm_lst, nm_own, nm_agg, nm_ptr, nm_map, nm_fn, b_add, b_sub, b_mul, b_eq, b_ne, b_lt, b_le, b_gt, b_ge, s_eq, s_ne, q_int, q_str, q_bool, q_nil, q_if, b_eqS, b_neS, b_eqB, b_neB, Option.map_some, u_not, u_neg, l_str, l_lst, c_int, x_tup, after_none, fin_bool, fin_int, fin_str, fin_lst, fin_own, fin_tup, frz2_int, frz2_str, frz2_bool, frz2_lst, fa_ref, fa_ptr, ldc_ref, firstIn]
      exact ih
theorem e_rkind (n : Nat) (hp : List AObj) (s : SiteD) (name : List UInt8) (hs : SiteOk s) : evalCall C (n + 2) F_r11_Kind [.agg (srow s), .str name] hp = some (.str (firstIn name (kinds s)).1, hp, none) := by
  refine r11_Kind_run (by rw [hC.T]; rfl) ?_
  have la : ldaVal (hp ++ [AObj.cells (srow s) ty_api_SiteDecl]) 13 (.ptr hp.length 0) = some (.agg (srow s)) := lda_last 13 hp _ _ 0 (by simp [srow])
  have hn := e_names hC n (hp ++ [AObj.cells (srow s) ty_api_SiteDecl]) s hs
  have hl : litV ty_string 1 [(.str [118, 97, 114]), (.str [114, 101, 115, 111, 117, 114, 99, 101]), (.str [115, 116, 111, 114, 101]), (.str [98, 101, 108, 116]), (.str [113, 117, 101, 117, 101]), (.str [115, 116, 114, 101, 97, 109]), (.str [116, 97, 108, 108, 121]), (.str [108, 101, 118, 101, 108]), (.str [99, 111, 117, 110, 116]), (.str [114, 111, 117, 116, 105, 110, 101])] (hp ++ [AObj.cells (srow s) ty_api_SiteDecl]) = some (.own 1 ((kinds s).map fun p => [.str p.1]), hp ++ [AObj.cells (srow s) ty_api_SiteDecl]) := rfl
  have h := e_rkind_l hC n hp (hp ++ [AObj.cells (srow s) ty_api_SiteDecl]) s name hs (kinds s) [] C.L rfl (by have := hC.L; have : (kinds s).length = 10 := rfl; omega)
  simp only [d_r11_Kind, optK_s, opt2_s, opt3_s, ifK_b, guardK_t, guardK_f, guardB_bt, guardB_bf, pickV_t, pickV_f, gif_t, guardK_pure, ro_gif, pick_and, pick_or', grp_and, grp_or, grp_tt, grp_ft, grp_tf, grp_ff, letK_e, ro_bool, ro_int, ro_str, ro_lst, ro_own, ro_agg, ro_tup, ro_ptr, ro_map, ro_ref, ro_fn, ro_undef, nm_bool, nm_int, nm_str, nm_lst, nm_own, nm_agg, nm_ptr, nm_map, nm_fn, b_add, b_sub, b_mul, b_eq, b_ne, b_lt, b_le, b_gt, b_ge, s_eq, s_ne, q_int, q_str, q_bool, q_nil, q_if, b_eqS, b_neS, b_eqB, b_neB, Option.map_some, u_not, u_neg, l_str, l_lst, c_int, x_tup, after_none, fin_bool, fin_int, fin_str, fin_lst, fin_own, fin_tup, frz2_int, frz2_str, frz2_bool, frz2_lst, fa_ref, fa_ptr, ldc_ref, box_agg 13 (srow s) rfl, la, hn, hl]
  exact h
theorem e_rindex_l (n : Nat) (hp0 hp : List AObj) (s : SiteD) (name : List UInt8) (hs : SiteOk s) : ∀ (r q : List (List UInt8 × List (List AV))) (m : Nat), kinds s = q ++ r → r.length < m →
    d_r11_Index_l0 C.G (evalCall C (n + 1)) C.L hp0 (d_r11_Index_j1 C.G (evalCall C (n + 1)) C.L hp0) m (.str name) (.lst 1 ((namesL s).map fun l => [.lst 1 l])) (.int .i64 q.length) hp none = some (.int .i64 (firstIn name r).2, hp0, none)
  | _, _, 0, _, h => by omega
  | [], q, m + 1, hq, _ => by
    have hlen : (((namesL s).map fun l => [AV.lst 1 l]).length : Int) = q.length := by simp only [namesL, hq]; simp
    simp only [d_r11_Index_l0, d_r11_Index_j1, optK_s, opt2_s, opt3_s, ifK_b, guardK_t, guardK_f, guardB_bt, guardB_bf, pickV_t, pickV_f, gif_t, guardK_pure, ro_gif, pick_and, pick_or', grp_and, grp_or, grp_tt, grp_ft, grp_tf, grp_ff, letK_e, ro_bool, ro_int, ro_str, ro_lst, ro_own, ro_agg, ro_tup, ro_ptr, ro_map, ro_ref, ro_fn, ro_undef, nm_bool, nm_int, nm_str, nm_lst, nm_own, nm_agg, nm_ptr, nm_map, nm_fn, b_add, b_sub, b_mul, b_eq, b_ne, b_lt, b_le, b_gt, b_ge, s_eq, s_ne, q_int, q_str, q_bool, q_nil, q_if, b_eqS, b_neS, b_eqB, b_neB, Option.map_some, u_not, u_neg, l_str, l_lst, c_int, x_tup, after_none, fin_bool, fin_int, fin_str, fin_lst, fin_own, fin_tup, frz2_int, frz2_str, frz2_bool, frz2_lst, fa_ref, fa_ptr, ldc_ref, hlen, Int.lt_irrefl, decide_false, Bool.false_eq_true, if_false, firstIn]
  | x :: r, q, m + 1, hq, hlm => by
    have hlen : (((namesL s).map fun l => [AV.lst 1 l]).length : Int) = q.length + (r.length + 1) := by simp only [namesL, hq]; simp
    have hlt : (q.length : Int) < q.length + (r.length + 1) := by omega
    have hql : q.length + (r.length + 1) = 10 := by have : (kinds s).length = 10 := rfl; rw [hq] at this; simpa using this
    have hg : ((namesL s).map fun l => [AV.lst 1 l])[q.length]? = some [.lst 1 (x.2.map nm1)] := by simp only [namesL, hq]; simp
    have hf := e_find_kind hC n hp s name hs x (by rw [hq]; simp)
    have ih := e_rindex_l n hp0 hp s name hs r (q ++ [x]) m (by rw [hq]; simp) (by simpa using hlm)
    simp only [List.length_append, List.length_cons, List.length_nil, Nat.zero_add] at ih
    have hwr := wrap_nat q.length (by omega)
    have l0 : ∀ v : AV, ldcVal hp (.ref [v]) = some v.ro := fun v => rfl
    simp only [d_r11_Index_l0, optK_s, opt2_s, opt3_s, ifK_b, guardK_t, guardK_f, guardB_bt, guardB_bf, pickV_t, pickV_f, gif_t, guardK_pure, ro_gif, pick_and, pick_or', grp_and, grp_or, grp_tt, grp_ft, grp_tf, grp_ff, letK_e, ro_bool, ro_int, ro_str, ro_lst, ro_own, ro_agg, ro_tup, ro_ptr, ro_map, ro_ref, ro_fn, ro_undef, nm_bool, nm_int, nm_str, nm_lst, nm_own, nm_agg, nm_ptr, nm_map, nm_fn, b_add, b_sub, b_mul, b_eq, b_ne, b_lt, b_le, b_gt, b_ge, s_eq, s_ne, q_int, q_str, q_bool, q_nil, q_if, b_eqS, b_neS, b_eqB, b_neB, Option.map_some, u_not, u_neg, l_str, l_lst, c_int, x_tup, after_none, fin_bool, fin_int, fin_str, fin_lst, fin_own, fin_tup, frz2_int, frz2_str, frz2_bool, frz2_lst, fa_ref, fa_ptr, ldc_ref, hlen, hlt, decide_true, if_true, ia_lst, hg, l0, hf]
    by_cases h1 : 0 ≤ findI (isN name) x.2 0
    · simp only [h1, ge_iff_le, decide_true, if_true, optK_s, opt2_s, opt3_s, ifK_b, guardK_t, guardK_f, guardB_bt, guardB_bf, pickV_t, pickV_f, gif_t, guardK_pure, ro_gif, pick_and, pick_or', grp_and, grp_or, grp_tt, grp_ft, grp_tf, grp_ff, letK_e, ro_bool, ro_int, ro_str, ro_lst, ro_own, ro_agg, ro_tup, ro_ptr, ro_map, ro_ref, ro_fn, ro_undef, nm_bool, nm_int, nm_str, nm_lst, nm_own, nm_agg, nm_ptr, nm_map, nm_fn, b_add, b_sub, b_mul, b_eq, b_ne, b_lt, b_le, b_gt, b_ge, s_eq, s_ne, q_int, q_str, q_bool, q_nil, q_if, b_eqS, b_neS, b_eqB, b_neB, Option.map_some, u_not, u_neg, l_str, l_lst, c_int, x_tup, after_none, fin_bool, fin_int, fin_str, fin_lst, fin_own, fin_tup, frz2_int, frz2_str, frz2_bool, frz2_lst, fa_ref, fa_ptr, ldc_ref, firstIn]
    · simp only [h1, ge_iff_le, decide_false, Bool.false_eq_true, if_false, hwr, optK_s, opt2_s, opt3_s, ifK_b, guardK_t, guardK_f, guardB_bt, guardB_bf, pickV_t, pickV_f, gif_t, guardK_pure, ro_gif, pick_and, pick_or', grp_and, grp_or, grp_tt, grp_ft, grp_tf, grp_ff, letK_e, ro_bool, ro_int, ro_str, ro_lst, ro_own, ro_agg, ro_tup, ro_ptr, ro_map, ro_ref, ro_fn, ro_undef, nm_bool, nm_int, nm_str, nm_lst, nm_own, nm_agg, nm_ptr, nm_map, nm_fn, b_add, b_sub, b_mul, b_eq, b_ne, b_lt, b_le, b_gt, b_ge, s_eq, s_ne, q_int, q_str, q_bool, q_nil, q_if, b_eqS, b_neS, b_eqB, b_neB, Option.map_some, u_not, u_neg, l_str, l_lst, c_int, x_tup, after_none, fin_bool, fin_int, fin_str, fin_lst, fin_own, fin_tup, frz2_int, frz2_str, frz2_bool, frz2_lst, fa_ref, fa_ptr, ldc_ref, firstIn]
      exact ih
theorem e_rindex (n : Nat) (hp : List AObj) (s : SiteD) (name : List UInt8) (hs : SiteOk s) : evalCall C (n + 2) F_r11_Index [.agg (srow s), .str name] hp = some (.int .i64 (firstIn name (kinds s)).2, hp, none) := by
  refine r11_Index_run (by rw [hC.T]; rfl) ?_
  have la : ldaVal (hp ++ [AObj.cells (srow s) ty_api_SiteDecl]) 13 (.ptr hp.length 0) = some (.agg (srow s)) := lda_last 13 hp _ _ 0 (by simp [srow])
  have hn := e_names hC n (hp ++ [AObj.cells (srow s) ty_api_SiteDecl]) s hs
  have h := e_rindex_l hC n hp (hp ++ [AObj.cells (srow s) ty_api_SiteDecl]) s name hs (kinds s) [] C.L rfl (by have := hC.L; have : (kinds s).length = 10 := rfl; omega)
  simp only [d_r11_Index, optK_s, opt2_s, opt3_s, ifK_b, guardK_t, guardK_f, guardB_bt, guardB_bf, pickV_t, pickV_f, gif_t, guardK_pure, ro_gif, pick_and, pick_or', grp_and, grp_or, grp_tt, grp_ft, grp_tf, grp_ff, letK_e, ro_bool, ro_int, ro_str, ro_lst, ro_own, ro_agg, ro_tup, ro_ptr, ro_map, ro_ref, ro_fn, ro_undef, nm_bool, nm_int, nm_str, nm_lst, nm_own, nm_agg, nm_ptr, nm_map, nm_fn, b_add, b_sub, b_mul, b_eq, b_ne, b_lt, b_le, b_gt, b_ge, s_eq, s_ne, q_int, q_str, q_bool, q_nil, q_if, b_eqS, b_neS, b_eqB, b_neB, Option.map_some, u_not, u_neg, l_str, l_lst, c_int, x_tup, after_none, fin_bool, fin_int, fin_str, fin_lst, fin_own, fin_tup, frz2_int, frz2_str, frz2_bool, frz2_lst, fa_ref, fa_ptr, ldc_ref, box_agg 13 (srow s) rfl, la, hn]
  exact h
end
end Go.Proofs.YtlmfmmclnboglaaGreat
