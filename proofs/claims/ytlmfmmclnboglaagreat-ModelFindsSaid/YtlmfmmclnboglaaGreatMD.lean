/-
  Names as a whole; Site, Routine, place, Kind, Index of the program.
-/
import Derived.Test.YtlmfmmclnboglaaGreatMC
namespace Go.Proofs.YtlmfmmclnboglaaGreat
open Go Go.RowKit Go.Proofs.YtlmfmmclnboglaaGreat.Abs
set_option linter.all false
set_option maxRecDepth 100000

theorem frz_names (bs : Nat) (h : List AObj) (ty : TypeId) (hh : h.length = bs + 1) (a b c d e f g i j k : List (List AV)) :
    frz bs (h ++ [.cells [.own 1 a, .own 1 b, .own 1 c, .own 1 d, .lst 1 e, .lst 1 f, .lst 1 g, .lst 1 i, .lst 1 j, .own 1 k] ty]) (.arr (bs + 1) 0 10 1) = some (.lst 1 [[.lst 1 a], [.lst 1 b], [.lst 1 c], [.lst 1 d], [.lst 1 e], [.lst 1 f], [.lst 1 g], [.lst 1 i], [.lst 1 j], [.lst 1 k]]) := by
  rw [← hh]
  simp only [frz, frz2, frz1]
  rw [if_neg (by omega), last_get]
  simp [frz1, chunk, AV.ro, AV.noId1]
theorem mksl_names (h : List AObj) : mkslV ty_Lstring [(.own 1 [])] (.int .i64 10) h = some (.arr h.length 0 10 1, h ++ [.cells [.own 1 [], .own 1 [], .own 1 [], .own 1 [], .own 1 [], .own 1 [], .own 1 [], .own 1 [], .own 1 [], .own 1 []] ty_Lstring]) := rfl
section
variable {C : Cfg} (hC : CfgL C)
include hC
theorem e_names (n : Nat) (hp : List AObj) (s : SiteD) (hs : SiteOk s) : evalCall C (n + 1) F_r11_Names [.agg (srow s)] hp = some (.lst 1 ((namesL s).map fun l => [.lst 1 l]), hp, none) := by
  refine r11_Names_run (by rw [hC.T]; rfl) ?_
  have hL := hC.L
  generalize evalCall C n = K
  have t0 := e_names_l0 hC K hp (d_r11_Names_j1 C.G K C.L hp) (.arr (hp.length + 1) 0 10 1) s hs s.vars [] C.L [.own 1 [], .own 1 [], .own 1 [], .own 1 [], .own 1 [], .own 1 [], .own 1 [], .own 1 [], .own 1 [], .own 1 []] rfl (by have := hs.vars.1; omega) rfl rfl
  have t2 := e_names_l2 hC K hp (d_r11_Names_j3 C.G K C.L hp) (.arr (hp.length + 1) 0 10 1) s hs s.res [] C.L [.own 1 (s.vars.map nm1), .own 1 [], .own 1 [], .own 1 [], .own 1 [], .own 1 [], .own 1 [], .own 1 [], .own 1 [], .own 1 []] rfl (by have := hs.res.1; omega) rfl rfl
  have t4 := e_names_l4 hC K hp (d_r11_Names_j5 C.G K C.L hp) (.arr (hp.length + 1) 0 10 1) s hs s.stores [] C.L [.own 1 (s.vars.map nm1), .own 1 (s.res.map nm1), .own 1 [], .own 1 [], .own 1 [], .own 1 [], .own 1 [], .own 1 [], .own 1 [], .own 1 []] rfl (by have := hs.stores.1; omega) rfl rfl
  have t6 := e_names_l6 hC K hp (d_r11_Names_j7 C.G K C.L hp) (.arr (hp.length + 1) 0 10 1) s hs s.belts [] C.L [.own 1 (s.vars.map nm1), .own 1 (s.res.map nm1), .own 1 (s.stores.map nm1), .own 1 [], .own 1 [], .own 1 [], .own 1 [], .own 1 [], .own 1 [], .own 1 []] rfl (by have := hs.belts.1; omega) rfl rfl
  have t8 := e_names_l8 hC K hp (d_r11_Names_j9 C.G K C.L hp) (.arr (hp.length + 1) 0 10 1) s hs s.routines [] C.L [.own 1 (s.vars.map nm1), .own 1 (s.res.map nm1), .own 1 (s.stores.map nm1), .own 1 (s.belts.map nm1), .lst 1 s.queues, .lst 1 s.streams, .lst 1 s.tallies, .lst 1 s.levels, .lst 1 s.counts, .own 1 []] rfl (by have := hs.routines.1; omega) rfl rfl
  have hh : (hp ++ [AObj.cells (srow s) ty_api_SiteDecl]).length = hp.length + 1 := by simp
  have lf : ∀ (X : List AV) (i : Nat) (v : AV), (srow s)[i]? = some v → ldcVal ((hp ++ [AObj.cells (srow s) ty_api_SiteDecl]) ++ [.cells X ty_Lstring]) (.ptr hp.length (0 + i)) = some v.ro := fun X i v hv => by
    rw [Nat.zero_add, ldc_get (g := hp.length) (cs := srow s) (t := ty_api_SiteDecl) (by rw [List.getElem?_append_left (by simp)]; exact last_get _ _) i, hv]; rfl
  have hia : ∀ k : Nat, k < 10 → iaVal (.slice 1) (.arr (hp.length + 1) 0 10 1) (.int .i64 k) = some (.ptr (hp ++ [AObj.cells (srow s) ty_api_SiteDecl]).length (k * 1)) := fun k hk => by rw [hh]; exact ia_arr 1 (hp.length + 1) 10 k hk
  have hia4 : iaVal (.slice 1) (.arr (hp.length + 1) 0 10 1) (.int .i64 4) = some (.ptr (hp ++ [AObj.cells (srow s) ty_api_SiteDecl]).length 4) := hia 4 (by omega)
  have hia5 : iaVal (.slice 1) (.arr (hp.length + 1) 0 10 1) (.int .i64 5) = some (.ptr (hp ++ [AObj.cells (srow s) ty_api_SiteDecl]).length 5) := hia 5 (by omega)
  have hia6 : iaVal (.slice 1) (.arr (hp.length + 1) 0 10 1) (.int .i64 6) = some (.ptr (hp ++ [AObj.cells (srow s) ty_api_SiteDecl]).length 6) := hia 6 (by omega)
  have hia7 : iaVal (.slice 1) (.arr (hp.length + 1) 0 10 1) (.int .i64 7) = some (.ptr (hp ++ [AObj.cells (srow s) ty_api_SiteDecl]).length 7) := hia 7 (by omega)
  have hia8 : iaVal (.slice 1) (.arr (hp.length + 1) 0 10 1) (.int .i64 8) = some (.ptr (hp ++ [AObj.cells (srow s) ty_api_SiteDecl]).length 8) := hia 8 (by omega)
  have hst := fun (X : List AV) (k : Nat) (r : List (List AV)) (hk : k < X.length) => stt_last hp.length (hp ++ [AObj.cells (srow s) ty_api_SiteDecl]) X ty_Lstring k (.lst 1 r) none rfl hk (by simp)
  have f5 := fun X => lf X 5 (.lst 1 s.queues) rfl
  have f6 := fun X => lf X 6 (.lst 1 s.streams) rfl
  have f7 := fun X => lf X 7 (.lst 1 s.tallies) rfl
  have f8 := fun X => lf X 8 (.lst 1 s.levels) rfl
  have f9 := fun X => lf X 9 (.lst 1 s.counts) rfl
  simp only [List.length_nil, List.set, List.map_nil] at t0 t2 t4 t6 t8
  have hz : (((0 : Nat) : Int)) = 0 := rfl
  simp only [d_r11_Names, optK_s, opt2_s, opt3_s, ifK_b, guardK_t, guardK_f, guardB_bt, guardB_bf, pickV_t, pickV_f, gif_t, guardK_pure, ro_gif, pick_and, pick_or', grp_and, grp_or, grp_tt, grp_ft, grp_tf, grp_ff, letK_e, ro_bool, ro_int, ro_str, ro_lst, ro_own, ro_agg, ro_tup, ro_ptr, ro_map, ro_ref, ro_fn, ro_undef, nm_bool, nm_int, nm_str, nm_lst, nm_own, nm_agg, nm_ptr, nm_map, nm_fn, b_add, b_sub, b_mul, b_eq, b_ne, b_lt, b_le, b_gt, b_ge, s_eq, s_ne, q_int, q_str, q_bool, q_nil, q_if, b_eqS, b_neS, b_eqB, b_neB, Option.map_some, u_not, u_neg, l_str, l_lst, c_int, x_tup, after_none, fin_bool, fin_int, fin_str, fin_lst, fin_own, fin_tup, frz2_int, frz2_str, frz2_bool, frz2_lst, fa_ref, fa_ptr, ldc_ref, box_agg 13 (srow s) rfl, mksl_names, hh]
  refine Eq.trans t0 ?_
  simp only [d_r11_Names_j1]
  refine Eq.trans t2 ?_
  simp only [d_r11_Names_j3]
  refine Eq.trans t4 ?_
  simp only [d_r11_Names_j5]
  refine Eq.trans t6 ?_
  simp only [d_r11_Names_j7, optK_s, opt2_s, opt3_s, ifK_b, guardK_t, guardK_f, guardB_bt, guardB_bf, pickV_t, pickV_f, gif_t, guardK_pure, ro_gif, pick_and, pick_or', grp_and, grp_or, grp_tt, grp_ft, grp_tf, grp_ff, letK_e, ro_bool, ro_int, ro_str, ro_lst, ro_own, ro_agg, ro_tup, ro_ptr, ro_map, ro_ref, ro_fn, ro_undef, nm_bool, nm_int, nm_str, nm_lst, nm_own, nm_agg, nm_ptr, nm_map, nm_fn, b_add, b_sub, b_mul, b_eq, b_ne, b_lt, b_le, b_gt, b_ge, s_eq, s_ne, q_int, q_str, q_bool, q_nil, q_if, b_eqS, b_neS, b_eqB, b_neB, Option.map_some, u_not, u_neg, l_str, l_lst, c_int, x_tup, after_none, fin_bool, fin_int, fin_str, fin_lst, fin_own, fin_tup, frz2_int, frz2_str, frz2_bool, frz2_lst, fa_ref, fa_ptr, ldc_ref, f5, f6, f7, f8, f9, hia4, hia5, hia6, hia7, hia8]
  rw [hst _ 4 _ (by simp)]
  simp only [optK_s, opt2_s, opt3_s, ifK_b, guardK_t, guardK_f, guardB_bt, guardB_bf, pickV_t, pickV_f, gif_t, guardK_pure, ro_gif, pick_and, pick_or', grp_and, grp_or, grp_tt, grp_ft, grp_tf, grp_ff, letK_e, ro_bool, ro_int, ro_str, ro_lst, ro_own, ro_agg, ro_tup, ro_ptr, ro_map, ro_ref, ro_fn, ro_undef, nm_bool, nm_int, nm_str, nm_lst, nm_own, nm_agg, nm_ptr, nm_map, nm_fn, b_add, b_sub, b_mul, b_eq, b_ne, b_lt, b_le, b_gt, b_ge, s_eq, s_ne, q_int, q_str, q_bool, q_nil, q_if, b_eqS, b_neS, b_eqB, b_neB, Option.map_some, u_not, u_neg, l_str, l_lst, c_int, x_tup, after_none, fin_bool, fin_int, fin_str, fin_lst, fin_own, fin_tup, frz2_int, frz2_str, frz2_bool, frz2_lst, fa_ref, fa_ptr, ldc_ref, List.set, f6]
  rw [hst _ 5 _ (by simp)]
  simp only [optK_s, opt2_s, opt3_s, ifK_b, guardK_t, guardK_f, guardB_bt, guardB_bf, pickV_t, pickV_f, gif_t, guardK_pure, ro_gif, pick_and, pick_or', grp_and, grp_or, grp_tt, grp_ft, grp_tf, grp_ff, letK_e, ro_bool, ro_int, ro_str, ro_lst, ro_own, ro_agg, ro_tup, ro_ptr, ro_map, ro_ref, ro_fn, ro_undef, nm_bool, nm_int, nm_str, nm_lst, nm_own, nm_agg, nm_ptr, nm_map, nm_fn, b_add, b_sub, b_mul, b_eq, b_ne, b_lt, b_le, b_gt, b_ge, s_eq, s_ne, q_int, q_str, q_bool, q_nil, q_if, b_eqS, b_neS, b_eqB, b_neB, Option.map_some, u_not, u_neg, l_str, l_lst, c_int, x_tup, after_none, fin_bool, fin_int, fin_str, fin_lst, fin_own, fin_tup, frz2_int, frz2_str, frz2_bool, frz2_lst, fa_ref, fa_ptr, ldc_ref, List.set, f7]
  rw [hst _ 6 _ (by simp)]
  simp only [optK_s, opt2_s, opt3_s, ifK_b, guardK_t, guardK_f, guardB_bt, guardB_bf, pickV_t, pickV_f, gif_t, guardK_pure, ro_gif, pick_and, pick_or', grp_and, grp_or, grp_tt, grp_ft, grp_tf, grp_ff, letK_e, ro_bool, ro_int, ro_str, ro_lst, ro_own, ro_agg, ro_tup, ro_ptr, ro_map, ro_ref, ro_fn, ro_undef, nm_bool, nm_int, nm_str, nm_lst, nm_own, nm_agg, nm_ptr, nm_map, nm_fn, b_add, b_sub, b_mul, b_eq, b_ne, b_lt, b_le, b_gt, b_ge, s_eq, s_ne, q_int, q_str, q_bool, q_nil, q_if, b_eqS, b_neS, b_eqB, b_neB, Option.map_some, u_not, u_neg, l_str, l_lst, c_int, x_tup, after_none, fin_bool, fin_int, fin_str, fin_lst, fin_own, fin_tup, frz2_int, frz2_str, frz2_bool, frz2_lst, fa_ref, fa_ptr, ldc_ref, List.set, f8]
  rw [hst _ 7 _ (by simp)]
  simp only [optK_s, opt2_s, opt3_s, ifK_b, guardK_t, guardK_f, guardB_bt, guardB_bf, pickV_t, pickV_f, gif_t, guardK_pure, ro_gif, pick_and, pick_or', grp_and, grp_or, grp_tt, grp_ft, grp_tf, grp_ff, letK_e, ro_bool, ro_int, ro_str, ro_lst, ro_own, ro_agg, ro_tup, ro_ptr, ro_map, ro_ref, ro_fn, ro_undef, nm_bool, nm_int, nm_str, nm_lst, nm_own, nm_agg, nm_ptr, nm_map, nm_fn, b_add, b_sub, b_mul, b_eq, b_ne, b_lt, b_le, b_gt, b_ge, s_eq, s_ne, q_int, q_str, q_bool, q_nil, q_if, b_eqS, b_neS, b_eqB, b_neB, Option.map_some, u_not, u_neg, l_str, l_lst, c_int, x_tup, after_none, fin_bool, fin_int, fin_str, fin_lst, fin_own, fin_tup, frz2_int, frz2_str, frz2_bool, frz2_lst, fa_ref, fa_ptr, ldc_ref, List.set, f9]
  rw [hst _ 8 _ (by simp)]
  simp only [optK_s, opt2_s, opt3_s, ifK_b, guardK_t, guardK_f, guardB_bt, guardB_bf, pickV_t, pickV_f, gif_t, guardK_pure, ro_gif, pick_and, pick_or', grp_and, grp_or, grp_tt, grp_ft, grp_tf, grp_ff, letK_e, ro_bool, ro_int, ro_str, ro_lst, ro_own, ro_agg, ro_tup, ro_ptr, ro_map, ro_ref, ro_fn, ro_undef, nm_bool, nm_int, nm_str, nm_lst, nm_own, nm_agg, nm_ptr, nm_map, nm_fn, b_add, b_sub, b_mul, b_eq, b_ne, b_lt, b_le, b_gt, b_ge, s_eq, s_ne, q_int, q_str, q_bool, q_nil, q_if, b_eqS, b_neS, b_eqB, b_neB, Option.map_some, u_not, u_neg, l_str, l_lst, c_int, x_tup, after_none, fin_bool, fin_int, fin_str, fin_lst, fin_own, fin_tup, frz2_int, frz2_str, frz2_bool, frz2_lst, fa_ref, fa_ptr, ldc_ref, List.set]
  refine Eq.trans t8 ?_
  simp only [d_r11_Names_j9, fin_any (frz_names hp.length _ ty_Lstring hh _ _ _ _ _ _ _ _ _ _)]
  simp only [namesL, kinds, List.map_cons, List.map_nil, (rows_nm1 hs.queues).1, (rows_nm1 hs.streams).1, (rows_nm1 hs.tallies).1, (rows_nm1 hs.levels).1, (rows_nm1 hs.counts).1]
end
end Go.Proofs.YtlmfmmclnboglaaGreat
