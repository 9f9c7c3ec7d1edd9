/-
  Site, Routine, place, Kind, Index, Link of the program, and the reference's.
-/
import Derived.Test.YtlmfmmclnboglaaGreatMD
namespace Go.Proofs.YtlmfmmclnboglaaGreat
open Go Go.RowKit Go.Proofs.YtlmfmmclnboglaaGreat.Abs
set_option linter.all false
set_option maxRecDepth 100000

structure Mdl where
  name : List UInt8
  params : List (List AV)
  sites : List SiteD
  links : List (List AV)
def mrow (m : Mdl) : List AV := [.str m.name, .lst 3 m.params, .lst 13 (m.sites.map srow), .lst 3 m.links]
structure LinkOk (r : List AV) : Prop where
  ex : ∃ a b d, r = [.str a, .str b, .int .i64 d]
structure MdlOk (m : Mdl) : Prop where
  params : m.params.length ≤ 8796093022208
  sites : m.sites.length ≤ 8796093022208
  site : ∀ s ∈ m.sites, SiteOk s
  links : m.links.length ≤ 8796093022208
  link : ∀ r ∈ m.links, LinkOk r
def siteN (name : List UInt8) (m : Mdl) : Int := findI (isN name) (m.sites.map srow) 0
def isL (a b : List UInt8) (r : List AV) : Bool :=
  match r with
  | [.str x, .str y, .int .i64 _] => decide (x = a) && decide (y = b)
  | _ => false
theorem get_H {hp : List AObj} {a b : AObj} : ((hp ++ [a]) ++ [b])[hp.length]? = some a := by
  rw [List.getElem?_append_left (by simp)]; exact last_get _ _
theorem srow_rows (l : List SiteD) : ∀ r ∈ l.map srow, r.length = 13 ∧ r.map AV.ro = r ∧ r = .str (nameOf r) :: r.tail := by
  intro r hr
  obtain ⟨s, _, rfl⟩ := List.mem_map.1 hr
  exact ⟨rfl, rfl, rfl⟩
section
variable {C : Cfg} (hC : CfgL C)
include hC
theorem e_msite (n : Nat) (hp : List AObj) (m : Mdl) (name : List UInt8) (hm : MdlOk m) : evalCall C (n + 3) F_model_Site [.agg (mrow m), .str name] hp = some (.int .i64 (siteN name m), hp, none) := by
  refine model_Site_run (by rw [hC.T]; rfl) ?_
  have lf : ldcVal ((hp ++ [AObj.cells (mrow m) ty_api_Model]) ++ [AObj.cells [.str name] ty_string]) (.ptr hp.length (0 + 2)) = some (.lst 13 (m.sites.map srow)) := ldc_get get_H 2
  have hg : ((hp ++ [AObj.cells (mrow m) ty_api_Model]) ++ [AObj.cells [.str name] ty_string])[(hp ++ [AObj.cells (mrow m) ty_api_Model]).length]? = some (.cells [.str name] ty_string) := last_get _ _
  have hc := e_ixf_Lapi_SiteDecl_api_SiteDecl_ hC (n + 1) ((hp ++ [AObj.cells (mrow m) ty_api_Model]) ++ [AObj.cells [.str name] ty_string]) F_model_Site_1 [.ptr (hp ++ [AObj.cells (mrow m) ty_api_Model]).length 0] (isN name) (m.sites.map srow) (by have := hm.sites; simp; omega) (fun r hr => let ⟨a, b, _⟩ := srow_rows m.sites r hr; ⟨a, b⟩) fun r hr => by
    obtain ⟨h1, _, h3⟩ := srow_rows m.sites r hr
    have := e_cl_model_Site_1 hC n ((hp ++ [AObj.cells (mrow m) ty_api_Model]) ++ [AObj.cells [.str name] ty_string]) (nameOf r) name r.tail (by rw [h3] at h1; simpa using h1) _ hg
    rw [← h3] at this
    exact this
  simp only [d_model_Site, optK_s, opt2_s, opt3_s, ifK_b, guardK_t, guardK_f, guardB_bt, guardB_bf, pickV_t, pickV_f, gif_t, guardK_pure, ro_gif, pick_and, pick_or', grp_and, grp_or, grp_tt, grp_ft, grp_tf, grp_ff, letK_e, ro_bool, ro_int, ro_str, ro_lst, ro_own, ro_agg, ro_tup, ro_ptr, ro_map, ro_ref, ro_fn, ro_undef, nm_bool, nm_int, nm_str, nm_lst, nm_own, nm_agg, nm_ptr, nm_map, nm_fn, b_add, b_sub, b_mul, b_eq, b_ne, b_lt, b_le, b_gt, b_ge, s_eq, s_ne, q_int, q_str, q_bool, q_nil, q_if, b_eqS, b_neS, b_eqB, b_neB, Option.map_some, u_not, u_neg, l_str, l_lst, c_int, x_tup, after_none, fin_bool, fin_int, fin_str, fin_lst, fin_own, fin_tup, frz2_int, frz2_str, frz2_bool, frz2_lst, fa_ref, fa_ptr, ldc_ref, box_agg 4 (mrow m) rfl, box_str, lf, hc]
  rfl

theorem e_mroutine (n : Nat) (hp : List AObj) (s : SiteD) (name : List UInt8) (hs : SiteOk s) : evalCall C (n + 3) F_model_Routine [.agg (srow s), .str name] hp = some (.int .i64 (findI (isN name) s.routines 0), hp, none) := by
  refine model_Routine_run (by rw [hC.T]; rfl) ?_
  have lf : ldcVal ((hp ++ [AObj.cells (srow s) ty_api_SiteDecl]) ++ [AObj.cells [.str name] ty_string]) (.ptr hp.length (0 + 10)) = some (.lst 4 s.routines) := ldc_get get_H 10
  have hg : ((hp ++ [AObj.cells (srow s) ty_api_SiteDecl]) ++ [AObj.cells [.str name] ty_string])[(hp ++ [AObj.cells (srow s) ty_api_SiteDecl]).length]? = some (.cells [.str name] ty_string) := last_get _ _
  have hc := e_ixf_Lapi_Routine_api_Routine_ hC (n + 1) ((hp ++ [AObj.cells (srow s) ty_api_SiteDecl]) ++ [AObj.cells [.str name] ty_string]) F_model_Routine_1 [.ptr (hp ++ [AObj.cells (srow s) ty_api_SiteDecl]).length 0] (isN name) s.routines (by have := hs.routines.1; omega) (fun r hr => let ⟨a, b, _⟩ := hs.routines.2 r hr; ⟨a, b⟩) fun r hr => by
    obtain ⟨h1, _, h3⟩ := hs.routines.2 r hr
    have := e_cl_model_Routine_1 hC n ((hp ++ [AObj.cells (srow s) ty_api_SiteDecl]) ++ [AObj.cells [.str name] ty_string]) (nameOf r) name r.tail (by rw [h3] at h1; simpa using h1) _ hg
    rw [← h3] at this
    exact this
  simp only [d_model_Routine, optK_s, opt2_s, opt3_s, ifK_b, guardK_t, guardK_f, guardB_bt, guardB_bf, pickV_t, pickV_f, gif_t, guardK_pure, ro_gif, pick_and, pick_or', grp_and, grp_or, grp_tt, grp_ft, grp_tf, grp_ff, letK_e, ro_bool, ro_int, ro_str, ro_lst, ro_own, ro_agg, ro_tup, ro_ptr, ro_map, ro_ref, ro_fn, ro_undef, nm_bool, nm_int, nm_str, nm_lst, nm_own, nm_agg, nm_ptr, nm_map, nm_fn, b_add, b_sub, b_mul, b_eq, b_ne, b_lt, b_le, b_gt, b_ge, s_eq, s_ne, q_int, q_str, q_bool, q_nil, q_if, b_eqS, b_neS, b_eqB, b_neB, Option.map_some, u_not, u_neg, l_str, l_lst, c_int, x_tup, after_none, fin_bool, fin_int, fin_str, fin_lst, fin_own, fin_tup, frz2_int, frz2_str, frz2_bool, frz2_lst, fa_ref, fa_ptr, ldc_ref, box_agg 13 (srow s) rfl, box_str, lf, hc]
theorem e_place (n : Nat) (hp : List AObj) (s : SiteD) (name : List UInt8) (hs : SiteOk s) : evalCall C (n + 4) F_model_place [.agg (srow s), .str name] hp = some (.tup [.str (firstIn name (kinds s)).1, .int .i64 (firstIn name (kinds s)).2], hp, none) := by
  refine model_place_run (by rw [hC.T]; rfl) ?_
  obtain ⟨H, hH⟩ : ∃ H, ((hp ++ [AObj.cells (srow s) ty_api_SiteDecl]) ++ [AObj.cells [.str name] ty_string]) = H := ⟨_, rfl⟩
  have hg : H[(hp ++ [AObj.cells (srow s) ty_api_SiteDecl]).length]? = some (.cells [.str name] ty_string) := by rw [← hH]; exact last_get _ _
  have hg0 : H[hp.length]? = some (.cells (srow s) ty_api_SiteDecl) := by rw [← hH]; exact get_H
  have lf : ∀ (i : Nat) (v : AV), (srow s)[i]? = some v → ldcVal H (.ptr hp.length (0 + i)) = some v.ro := fun i v hv => by
    rw [Nat.zero_add, ldc_get hg0 i, hv]; rfl
  have ln : ldcVal H (.ptr (hp ++ [AObj.cells (srow s) ty_api_SiteDecl]).length 0) = some (.str name) := ldc_get hg 0
  have la : ldaVal H 13 (.ptr hp.length 0) = some (.agg (srow s)) := lda_get hg0 13 0 (by simp [srow])
  have f1 := lf 1 (.lst 3 s.vars) rfl
  have f2 := lf 2 (.lst 17 s.res) rfl
  have f3 := lf 3 (.lst 3 s.stores) rfl
  have f4 := lf 4 (.lst 3 s.belts) rfl
  have f5 := lf 5 (.lst 1 s.queues) rfl
  have f6 := lf 6 (.lst 1 s.streams) rfl
  have f7 := lf 7 (.lst 1 s.tallies) rfl
  have f8 := lf 8 (.lst 1 s.levels) rfl
  have f9 := lf 9 (.lst 1 s.counts) rfl

  have c1 := e_ixf_Lapi_Value_api_Value_ hC (n + 2) H F_model_place_1 [.ptr (hp ++ [AObj.cells (srow s) ty_api_SiteDecl]).length 0] (isN name) s.vars (by have := hs.vars.1; omega) (fun r hr => let ⟨a, b, _⟩ := hs.vars.2 r hr; ⟨a, b⟩) fun r hr => by
    obtain ⟨h1, _, h3⟩ := hs.vars.2 r hr
    have := e_cl_model_place_1 hC (n + 1) H (nameOf r) name r.tail (by rw [h3] at h1; simpa using h1) _ hg
    rw [← h3] at this
    exact this

  have c2 := e_ixf_Lapi_ResourceDecl_api_ResourceDecl_ hC (n + 2) H F_model_place_2 [.ptr (hp ++ [AObj.cells (srow s) ty_api_SiteDecl]).length 0] (isN name) s.res (by have := hs.res.1; omega) (fun r hr => let ⟨a, b, _⟩ := hs.res.2 r hr; ⟨a, b⟩) fun r hr => by
    obtain ⟨h1, _, h3⟩ := hs.res.2 r hr
    have := e_cl_model_place_2 hC (n + 1) H (nameOf r) name r.tail (by rw [h3] at h1; simpa using h1) _ hg
    rw [← h3] at this
    exact this

  have c3 := e_ixf_Lapi_StoreDecl_api_StoreDecl_ hC (n + 2) H F_model_place_3 [.ptr (hp ++ [AObj.cells (srow s) ty_api_SiteDecl]).length 0] (isN name) s.stores (by have := hs.stores.1; omega) (fun r hr => let ⟨a, b, _⟩ := hs.stores.2 r hr; ⟨a, b⟩) fun r hr => by
    obtain ⟨h1, _, h3⟩ := hs.stores.2 r hr
    have := e_cl_model_place_3 hC (n + 1) H (nameOf r) name r.tail (by rw [h3] at h1; simpa using h1) _ hg
    rw [← h3] at this
    exact this

  have c4 := e_ixf_Lapi_BeltDecl_api_BeltDecl_ hC (n + 2) H F_model_place_4 [.ptr (hp ++ [AObj.cells (srow s) ty_api_SiteDecl]).length 0] (isN name) s.belts (by have := hs.belts.1; omega) (fun r hr => let ⟨a, b, _⟩ := hs.belts.2 r hr; ⟨a, b⟩) fun r hr => by
    obtain ⟨h1, _, h3⟩ := hs.belts.2 r hr
    have := e_cl_model_place_4 hC (n + 1) H (nameOf r) name r.tail (by rw [h3] at h1; simpa using h1) _ hg
    rw [← h3] at this
    exact this

  have c5 := e_index hC (n + 2) H name s.queues (by have := hs.queues.1; omega) (rows_nm1 hs.queues).2

  have c6 := e_index hC (n + 2) H name s.streams (by have := hs.streams.1; omega) (rows_nm1 hs.streams).2

  have c7 := e_index hC (n + 2) H name s.tallies (by have := hs.tallies.1; omega) (rows_nm1 hs.tallies).2

  have c8 := e_index hC (n + 2) H name s.levels (by have := hs.levels.1; omega) (rows_nm1 hs.levels).2

  have c9 := e_index hC (n + 2) H name s.counts (by have := hs.counts.1; omega) (rows_nm1 hs.counts).2

  have c10 := e_mroutine hC n H s name hs
  generalize evalCall C (n + 3) = K at *
  simp only [d_model_place, optK_s, opt2_s, opt3_s, ifK_b, guardK_t, guardK_f, guardB_bt, guardB_bf, pickV_t, pickV_f, gif_t, guardK_pure, ro_gif, pick_and, pick_or', grp_and, grp_or, grp_tt, grp_ft, grp_tf, grp_ff, letK_e, ro_bool, ro_int, ro_str, ro_lst, ro_own, ro_agg, ro_tup, ro_ptr, ro_map, ro_ref, ro_fn, ro_undef, nm_bool, nm_int, nm_str, nm_lst, nm_own, nm_agg, nm_ptr, nm_map, nm_fn, b_add, b_sub, b_mul, b_eq, b_ne, b_lt, b_le, b_gt, b_ge, s_eq, s_ne, q_int, q_str, q_bool, q_nil, q_if, b_eqS, b_neS, b_eqB, b_neB, Option.map_some, u_not, u_neg, l_str, l_lst, c_int, x_tup, after_none, fin_bool, fin_int, fin_str, fin_lst, fin_own, fin_tup, frz2_int, frz2_str, frz2_bool, frz2_lst, fa_ref, fa_ptr, ldc_ref, box_agg 13 (srow s) rfl, box_str, hH, f1, f2, f3, f4, f5, f6, f7, f8, f9, ln, la, c1, c2, c3, c4, c5, c6, c7, c8, c9, c10, kinds, firstIn]
  by_cases q1 : 0 ≤ findI (isN name) s.vars 0
  · simp only [q1, decide_true, if_true]; rfl
  simp only [q1, decide_false, Bool.false_eq_true, if_false]
  by_cases q2 : 0 ≤ findI (isN name) s.res 0
  · simp only [q2, decide_true, if_true]; rfl
  simp only [q2, decide_false, Bool.false_eq_true, if_false]
  by_cases q3 : 0 ≤ findI (isN name) s.stores 0
  · simp only [q3, decide_true, if_true]; rfl
  simp only [q3, decide_false, Bool.false_eq_true, if_false]
  by_cases q4 : 0 ≤ findI (isN name) s.belts 0
  · simp only [q4, decide_true, if_true]; rfl
  simp only [q4, decide_false, Bool.false_eq_true, if_false]
  by_cases q5 : 0 ≤ findI (isN name) s.queues 0
  · simp only [q5, decide_true, if_true]; rfl
  simp only [q5, decide_false, Bool.false_eq_true, if_false]
  by_cases q6 : 0 ≤ findI (isN name) s.streams 0
  · simp only [q6, decide_true, if_true]; rfl
  simp only [q6, decide_false, Bool.false_eq_true, if_false]
  by_cases q7 : 0 ≤ findI (isN name) s.tallies 0
  · simp only [q7, decide_true, if_true]; rfl
  simp only [q7, decide_false, Bool.false_eq_true, if_false]
  by_cases q8 : 0 ≤ findI (isN name) s.levels 0
  · simp only [q8, decide_true, if_true]; rfl
  simp only [q8, decide_false, Bool.false_eq_true, if_false]
  by_cases q9 : 0 ≤ findI (isN name) s.counts 0
  · simp only [q9, decide_true, if_true]; rfl
  simp only [q9, decide_false, Bool.false_eq_true, if_false]
  by_cases q10 : 0 ≤ findI (isN name) s.routines 0
  · simp only [q10, decide_true, if_true]; rfl
  simp only [q10, decide_false, Bool.false_eq_true, if_false]
  rfl
theorem e_mkind (n : Nat) (hp : List AObj) (s : SiteD) (name : List UInt8) (hs : SiteOk s) : evalCall C (n + 5) F_model_Kind [.agg (srow s), .str name] hp = some (.str (firstIn name (kinds s)).1, hp, none) := by
  refine model_Kind_run (by rw [hC.T]; rfl) ?_
  have la : ldaVal (hp ++ [AObj.cells (srow s) ty_api_SiteDecl]) 13 (.ptr hp.length 0) = some (.agg (srow s)) := lda_last 13 hp _ _ 0 (by simp [srow])
  have hc := e_place hC n (hp ++ [AObj.cells (srow s) ty_api_SiteDecl]) s name hs
  simp only [d_model_Kind, optK_s, opt2_s, opt3_s, ifK_b, guardK_t, guardK_f, guardB_bt, guardB_bf, pickV_t, pickV_f, gif_t, guardK_pure, ro_gif, pick_and, pick_or', grp_and, grp_or, grp_tt, grp_ft, grp_tf, grp_ff, letK_e, ro_bool, ro_int, ro_str, ro_lst, ro_own, ro_agg, ro_tup, ro_ptr, ro_map, ro_ref, ro_fn, ro_undef, nm_bool, nm_int, nm_str, nm_lst, nm_own, nm_agg, nm_ptr, nm_map, nm_fn, b_add, b_sub, b_mul, b_eq, b_ne, b_lt, b_le, b_gt, b_ge, s_eq, s_ne, q_int, q_str, q_bool, q_nil, q_if, b_eqS, b_neS, b_eqB, b_neB, Option.map_some, u_not, u_neg, l_str, l_lst, c_int, x_tup, after_none, fin_bool, fin_int, fin_str, fin_lst, fin_own, fin_tup, frz2_int, frz2_str, frz2_bool, frz2_lst, fa_ref, fa_ptr, ldc_ref, box_agg 13 (srow s) rfl, la, hc, List.getElem?_cons_zero, List.getElem?_cons_succ]
theorem e_mindex (n : Nat) (hp : List AObj) (s : SiteD) (name : List UInt8) (hs : SiteOk s) : evalCall C (n + 5) F_model_Index [.agg (srow s), .str name] hp = some (.int .i64 (firstIn name (kinds s)).2, hp, none) := by
  refine model_Index_run (by rw [hC.T]; rfl) ?_
  have la : ldaVal (hp ++ [AObj.cells (srow s) ty_api_SiteDecl]) 13 (.ptr hp.length 0) = some (.agg (srow s)) := lda_last 13 hp _ _ 0 (by simp [srow])
  have hc := e_place hC n (hp ++ [AObj.cells (srow s) ty_api_SiteDecl]) s name hs
  simp only [d_model_Index, optK_s, opt2_s, opt3_s, ifK_b, guardK_t, guardK_f, guardB_bt, guardB_bf, pickV_t, pickV_f, gif_t, guardK_pure, ro_gif, pick_and, pick_or', grp_and, grp_or, grp_tt, grp_ft, grp_tf, grp_ff, letK_e, ro_bool, ro_int, ro_str, ro_lst, ro_own, ro_agg, ro_tup, ro_ptr, ro_map, ro_ref, ro_fn, ro_undef, nm_bool, nm_int, nm_str, nm_lst, nm_own, nm_agg, nm_ptr, nm_map, nm_fn, b_add, b_sub, b_mul, b_eq, b_ne, b_lt, b_le, b_gt, b_ge, s_eq, s_ne, q_int, q_str, q_bool, q_nil, q_if, b_eqS, b_neS, b_eqB, b_neB, Option.map_some, u_not, u_neg, l_str, l_lst, c_int, x_tup, after_none, fin_bool, fin_int, fin_str, fin_lst, fin_own, fin_tup, frz2_int, frz2_str, frz2_bool, frz2_lst, fa_ref, fa_ptr, ldc_ref, box_agg 13 (srow s) rfl, la, hc, List.getElem?_cons_zero, List.getElem?_cons_succ]
theorem e_rroutine (n : Nat) (hp : List AObj) (s : SiteD) (name : List UInt8) (hs : SiteOk s) : evalCall C (n + 2) F_r11_Routine [.agg (srow s), .str name] hp = some (.int .i64 (findI (isN name) s.routines 0), hp, none) := by
  refine r11_Routine_run (by rw [hC.T]; rfl) ?_
  have la : ldaVal (hp ++ [AObj.cells (srow s) ty_api_SiteDecl]) 13 (.ptr hp.length 0) = some (.agg (srow s)) := lda_last 13 hp _ _ 0 (by simp [srow])
  have hn := e_names hC n (hp ++ [AObj.cells (srow s) ty_api_SiteDecl]) s hs
  have hf := e_rfind hC n (hp ++ [AObj.cells (srow s) ty_api_SiteDecl]) name (s.routines.map nm1) (by have := hs.routines.1; simp; omega) (fun r hr => by obtain ⟨x, _, rfl⟩ := List.mem_map.1 hr; rfl)
  rw [find_nm1] at hf
  have hi : iaVal (.slice 1) (.lst 1 ((namesL s).map fun l => [.lst 1 l])) (.int .i64 9) = some (.ref [.lst 1 (s.routines.map nm1)]) := rfl
  simp only [d_r11_Routine, optK_s, opt2_s, opt3_s, ifK_b, guardK_t, guardK_f, guardB_bt, guardB_bf, pickV_t, pickV_f, gif_t, guardK_pure, ro_gif, pick_and, pick_or', grp_and, grp_or, grp_tt, grp_ft, grp_tf, grp_ff, letK_e, ro_bool, ro_int, ro_str, ro_lst, ro_own, ro_agg, ro_tup, ro_ptr, ro_map, ro_ref, ro_fn, ro_undef, nm_bool, nm_int, nm_str, nm_lst, nm_own, nm_agg, nm_ptr, nm_map, nm_fn, b_add, b_sub, b_mul, b_eq, b_ne, b_lt, b_le, b_gt, b_ge, s_eq, s_ne, q_int, q_str, q_bool, q_nil, q_if, b_eqS, b_neS, b_eqB, b_neB, Option.map_some, u_not, u_neg, l_str, l_lst, c_int, x_tup, after_none, fin_bool, fin_int, fin_str, fin_lst, fin_own, fin_tup, frz2_int, frz2_str, frz2_bool, frz2_lst, fa_ref, fa_ptr, ldc_ref, box_agg 13 (srow s) rfl, la, hn, hi, hf]
end
end Go.Proofs.YtlmfmmclnboglaaGreat
