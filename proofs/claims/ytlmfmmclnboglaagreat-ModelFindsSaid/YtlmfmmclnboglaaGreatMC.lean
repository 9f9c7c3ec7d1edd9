/-
  Names, place, Site, Link, Routine, Kind, Index: the program's and the reference's.
-/
import Derived.Test.YtlmfmmclnboglaaGreatMB
namespace Go.Proofs.YtlmfmmclnboglaaGreat
open Go Go.RowKit Go.Proofs.YtlmfmmclnboglaaGreat.Abs
set_option linter.all false
set_option maxRecDepth 100000

structure SiteD where
  name : List UInt8
  vars : List (List AV)
  res : List (List AV)
  stores : List (List AV)
  belts : List (List AV)
  queues : List (List AV)
  streams : List (List AV)
  tallies : List (List AV)
  levels : List (List AV)
  counts : List (List AV)
  routines : List (List AV)
  starts : List (List AV)
  laws : List (List AV)
def srow (s : SiteD) : List AV := [.str s.name, .lst 3 s.vars, .lst 17 s.res, .lst 3 s.stores, .lst 3 s.belts, .lst 1 s.queues, .lst 1 s.streams, .lst 1 s.tallies, .lst 1 s.levels, .lst 1 s.counts, .lst 4 s.routines, .lst 5 s.starts, .lst 3 s.laws]
structure SiteOk (s : SiteD) : Prop where
  vars : Rows1 3 s.vars
  res : Rows1 17 s.res
  stores : Rows1 3 s.stores
  belts : Rows1 3 s.belts
  queues : Rows1 1 s.queues
  streams : Rows1 1 s.streams
  tallies : Rows1 1 s.tallies
  levels : Rows1 1 s.levels
  counts : Rows1 1 s.counts
  routines : Rows1 4 s.routines
  starts : s.starts.length ≤ 8796093022208
  laws : s.laws.length ≤ 8796093022208
def nm1 (r : List AV) : List AV := [.str (nameOf r)]
theorem rows_nm1 {rows : List (List AV)} (h : Rows1 1 rows) : rows.map nm1 = rows ∧ ∀ r ∈ rows, r = [.str (nameOf r)] := by
  have key : ∀ r ∈ rows, r = [.str (nameOf r)] := fun r hr => by
    obtain ⟨h1, h2, h3⟩ := h.2 r hr
    have : r.tail = [] := by
      rw [h3] at h1
      exact List.eq_nil_of_length_eq_zero (by simpa using h1)
    rw [this] at h3; exact h3
  refine ⟨?_, key⟩
  have : rows.map nm1 = rows.map id := List.map_congr_left fun r hr => (key r hr).symm
  simpa using this
theorem find_nm1 (name : List UInt8) : ∀ (rows : List (List AV)) (i : Nat), findI (isN name) (rows.map nm1) i = findI (isN name) rows i
  | [], _ => rfl
  | r :: rs, i => by
    have : isN name (nm1 r) = isN name r := rfl
    simp only [List.map_cons, findI, this, find_nm1 name rs]
/-- the kinds of a site's names: the words, and the declarations -/
def kinds (s : SiteD) : List (List UInt8 × List (List AV)) := [([118, 97, 114], s.vars), ([114, 101, 115, 111, 117, 114, 99, 101], s.res), ([115, 116, 111, 114, 101], s.stores), ([98, 101, 108, 116], s.belts), ([113, 117, 101, 117, 101], s.queues), ([115, 116, 114, 101, 97, 109], s.streams), ([116, 97, 108, 108, 121], s.tallies), ([108, 101, 118, 101, 108], s.levels), ([99, 111, 117, 110, 116], s.counts), ([114, 111, 117, 116, 105, 110, 101], s.routines)]
def firstIn (name : List UInt8) : List (List UInt8 × List (List AV)) → List UInt8 × Int
  | [] => ([], -1)
  | (w, rows) :: l => if 0 ≤ findI (isN name) rows 0 then (w, findI (isN name) rows 0) else firstIn name l
def namesL (s : SiteD) : List (List (List AV)) := (kinds s).map fun p => p.2.map nm1
theorem box_one (v : AV) (h : v.cells = [v]) (hl : v.laid = true) : boxV 1 v = some [v] := by simp [boxV, h, hl]
theorem box_str (s : List UInt8) : boxV 1 (.str s) = some [.str s] := rfl
theorem box_lst (k : Nat) (r : List (List AV)) : boxV 1 (.lst k r) = some [.lst k r] := rfl
theorem ia_arr (k g n : Nat) (i : Nat) (h : i < n) : iaVal (.slice k) (.arr g 0 n k) (.int .i64 i) = some (.ptr g (i * k)) := by simp [iaVal, h]
theorem ldt_last (bs : Nat) (h : List AObj) (cs : List AV) (t : TypeId) (o : Nat) (v : AV) (ef : Eff) (hv : cs[o]? = some v) (hb : bs ≤ h.length) : ldtV bs (.ptr h.length o) (h ++ [.cells cs t]) ef = some (v, h ++ [.cells (cs.set o v.ro) t], ef) := by
  have e := last_get h (.cells cs t)
  simp only [ldtV, e, hv, last_set]
  have : noteK bs ef h.length 0 = ef := by simp [noteK]; omega
  rw [this]
theorem stt_last (bs : Nat) (h : List AObj) (cs : List AV) (t : TypeId) (o : Nat) (v : AV) (ef : Eff) (h1 : v.one = true) (h2 : o < cs.length) (hb : bs ≤ h.length) : sttV bs (.ptr h.length o) v (h ++ [.cells cs t]) ef = some (h ++ [.cells (cs.set o v) t], ef) := by
  have e := last_get h (.cells cs t)
  simp only [sttV, e, last_set]
  have : noteK bs ef h.length 0 = ef := by simp [noteK]; omega
  simp [h1, h2, this]
theorem lit_str (e : TypeId) (s : List UInt8) (hp : List AObj) : litV e 1 [.str s] hp = some (.own 1 [[.str s]], hp) := rfl
theorem app_str (r : List (List AV)) (s : List UInt8) (hp : List AObj) (h : r.length + 1 ≤ 8796093022208) : appV 1 16 (.own 1 r) (.lst 1 [[.str s]]) hp = some (.own 1 (r ++ [[.str s]])) := by
  have : (r.length + 1) * 16 ≤ 140737488355328 := by omega
  simp [appV, rowsOf, AV.noId1, this]
section
variable {C : Cfg} (hC : CfgL C)
include hC

theorem e_names_l0 (K : FuncId → List AV → List AObj → KR) (hp0 : List AObj) (k0 : AV → AV → AV → List AObj → Eff → KR) (y3 : AV) (s : SiteD) (hs : SiteOk s) : ∀ (r q : List (List AV)) (m : Nat) (O : List AV), s.vars = q ++ r → r.length < m → O.length = 10 → O[0]? = some (.own 1 (q.map nm1)) →
    d_r11_Names_l0 C.G K C.L hp0 k0 m (.ptr hp0.length 0) (.arr (hp0.length + 1) 0 10 1) y3 (.int .i64 q.length) ((hp0 ++ [AObj.cells (srow s) ty_api_SiteDecl]) ++ [.cells O ty_Lstring]) none =
      k0 (.ptr hp0.length 0) (.arr (hp0.length + 1) 0 10 1) y3 ((hp0 ++ [AObj.cells (srow s) ty_api_SiteDecl]) ++ [.cells (O.set 0 (.own 1 (s.vars.map nm1))) ty_Lstring]) none
  | _, _, 0, _, _, h, _, _ => by omega
  | [], q, m + 1, O, hr, _, hO, hq => by
    have hlen : (s.vars.length : Int) = q.length := by rw [hr]; simp
    have lf : ∀ X : List AV, ldcVal ((hp0 ++ [AObj.cells (srow s) ty_api_SiteDecl]) ++ [.cells X ty_Lstring]) (.ptr hp0.length (0 + 1)) = some (.lst 3 s.vars) := fun X => ldc_get (g := hp0.length) (cs := srow s) (t := ty_api_SiteDecl) (by rw [List.getElem?_append_left (by simp)]; exact last_get _ _) 1
    have he : O.set 0 (.own 1 (s.vars.map nm1)) = O := by
      rw [hr, List.append_nil]
      refine List.ext_getElem? fun i => ?_
      rw [List.getElem?_set]
      split
      · rename_i e; subst e; rw [if_pos (by omega), hq]
      · rfl
    rw [he]
    simp only [d_r11_Names_l0, optK_s, opt2_s, opt3_s, ifK_b, guardK_t, guardK_f, guardB_bt, guardB_bf, pickV_t, pickV_f, gif_t, guardK_pure, ro_gif, pick_and, pick_or', grp_and, grp_or, grp_tt, grp_ft, grp_tf, grp_ff, letK_e, ro_bool, ro_int, ro_str, ro_lst, ro_own, ro_agg, ro_tup, ro_ptr, ro_map, ro_ref, ro_fn, ro_undef, nm_bool, nm_int, nm_str, nm_lst, nm_own, nm_agg, nm_ptr, nm_map, nm_fn, b_add, b_sub, b_mul, b_eq, b_ne, b_lt, b_le, b_gt, b_ge, s_eq, s_ne, q_int, q_str, q_bool, q_nil, q_if, b_eqS, b_neS, b_eqB, b_neB, Option.map_some, u_not, u_neg, l_str, l_lst, c_int, x_tup, after_none, fin_bool, fin_int, fin_str, fin_lst, fin_own, fin_tup, frz2_int, frz2_str, frz2_bool, frz2_lst, fa_ref, fa_ptr, ldc_ref, lf, hlen, Int.lt_irrefl, decide_false, Bool.false_eq_true, if_false]
  | x :: r, q, m + 1, O, hr, hm, hO, hq => by
    have hlen : (s.vars.length : Int) = q.length + (r.length + 1) := by rw [hr]; simp
    have hlt : (q.length : Int) < q.length + (r.length + 1) := by omega
    have hql : q.length + (r.length + 1) ≤ 8796093022208 := by have := hs.vars.1; rw [hr] at this; simpa using this
    have hg : s.vars[q.length]? = some x := by rw [hr]; simp
    have hx := (hs.vars.2 x (by rw [hr]; simp)).2.2
    have lf : ∀ X : List AV, ldcVal ((hp0 ++ [AObj.cells (srow s) ty_api_SiteDecl]) ++ [.cells X ty_Lstring]) (.ptr hp0.length (0 + 1)) = some (.lst 3 s.vars) := fun X => ldc_get (g := hp0.length) (cs := srow s) (t := ty_api_SiteDecl) (by rw [List.getElem?_append_left (by simp)]; exact last_get _ _) 1
    have hh : (hp0 ++ [AObj.cells (srow s) ty_api_SiteDecl]).length = hp0.length + 1 := by simp
    have hia : iaVal (.slice 1) (.arr (hp0.length + 1) 0 10 1) (.int .i64 0) = some (.ptr (hp0 ++ [AObj.cells (srow s) ty_api_SiteDecl]).length 0) := by rw [hh]; exact ia_arr 1 (hp0.length + 1) 10 0 (by omega)
    have hld := ldt_last hp0.length (hp0 ++ [AObj.cells (srow s) ty_api_SiteDecl]) O ty_Lstring 0 _ none hq (by simp)
    have hst := fun (X : List AV) (hX : X.length = 10) => stt_last hp0.length (hp0 ++ [AObj.cells (srow s) ty_api_SiteDecl]) X ty_Lstring 0 (.own 1 (q.map nm1 ++ [[.str (nameOf x)]])) none rfl (by omega) (by simp)
    have hap := fun hp => app_str (q.map nm1) (nameOf x) hp (by simp; omega)
    have lx : ∀ hp, ldcVal hp (.ref (x.drop 0)) = some (.str (nameOf x)) := fun hp => by rw [hx]; rfl
    have ih := e_names_l0 K hp0 k0 y3 s hs r (q ++ [x]) m (O.set 0 (.own 1 (q.map nm1 ++ [[.str (nameOf x)]]))) (by rw [hr]; simp) (by simpa using hm) (by simpa using hO) (by rw [List.getElem?_set_self (by omega)]; simp [nm1])
    simp only [List.length_append, List.length_cons, List.length_nil, Nat.zero_add, List.set_set] at ih
    have hwr := wrap_nat q.length (by omega)
    simp only [d_r11_Names_l0, optK_s, opt2_s, opt3_s, ifK_b, guardK_t, guardK_f, guardB_bt, guardB_bf, pickV_t, pickV_f, gif_t, guardK_pure, ro_gif, pick_and, pick_or', grp_and, grp_or, grp_tt, grp_ft, grp_tf, grp_ff, letK_e, ro_bool, ro_int, ro_str, ro_lst, ro_own, ro_agg, ro_tup, ro_ptr, ro_map, ro_ref, ro_fn, ro_undef, nm_bool, nm_int, nm_str, nm_lst, nm_own, nm_agg, nm_ptr, nm_map, nm_fn, b_add, b_sub, b_mul, b_eq, b_ne, b_lt, b_le, b_gt, b_ge, s_eq, s_ne, q_int, q_str, q_bool, q_nil, q_if, b_eqS, b_neS, b_eqB, b_neB, Option.map_some, u_not, u_neg, l_str, l_lst, c_int, x_tup, after_none, fin_bool, fin_int, fin_str, fin_lst, fin_own, fin_tup, frz2_int, frz2_str, frz2_bool, frz2_lst, fa_ref, fa_ptr, ldc_ref, lf, hlen, hlt, decide_true, if_true, hia, hld, ia_lst, hg, lx, lit_str, hap, hst (O.set 0 (.lst 1 (q.map nm1))) (by simpa using hO), List.set_set, hwr, ih]

theorem e_names_l2 (K : FuncId → List AV → List AObj → KR) (hp0 : List AObj) (k0 : AV → AV → AV → List AObj → Eff → KR) (y3 : AV) (s : SiteD) (hs : SiteOk s) : ∀ (r q : List (List AV)) (m : Nat) (O : List AV), s.res = q ++ r → r.length < m → O.length = 10 → O[1]? = some (.own 1 (q.map nm1)) →
    d_r11_Names_l2 C.G K C.L hp0 k0 m (.ptr hp0.length 0) (.arr (hp0.length + 1) 0 10 1) y3 (.int .i64 q.length) ((hp0 ++ [AObj.cells (srow s) ty_api_SiteDecl]) ++ [.cells O ty_Lstring]) none =
      k0 (.ptr hp0.length 0) (.arr (hp0.length + 1) 0 10 1) y3 ((hp0 ++ [AObj.cells (srow s) ty_api_SiteDecl]) ++ [.cells (O.set 1 (.own 1 (s.res.map nm1))) ty_Lstring]) none
  | _, _, 0, _, _, h, _, _ => by omega
  | [], q, m + 1, O, hr, _, hO, hq => by
    have hlen : (s.res.length : Int) = q.length := by rw [hr]; simp
    have lf : ∀ X : List AV, ldcVal ((hp0 ++ [AObj.cells (srow s) ty_api_SiteDecl]) ++ [.cells X ty_Lstring]) (.ptr hp0.length (0 + 2)) = some (.lst 17 s.res) := fun X => ldc_get (g := hp0.length) (cs := srow s) (t := ty_api_SiteDecl) (by rw [List.getElem?_append_left (by simp)]; exact last_get _ _) 2
    have he : O.set 1 (.own 1 (s.res.map nm1)) = O := by
      rw [hr, List.append_nil]
      refine List.ext_getElem? fun i => ?_
      rw [List.getElem?_set]
      split
      · rename_i e; subst e; rw [if_pos (by omega), hq]
      · rfl
    rw [he]
    simp only [d_r11_Names_l2, optK_s, opt2_s, opt3_s, ifK_b, guardK_t, guardK_f, guardB_bt, guardB_bf, pickV_t, pickV_f, gif_t, guardK_pure, ro_gif, pick_and, pick_or', grp_and, grp_or, grp_tt, grp_ft, grp_tf, grp_ff, letK_e, ro_bool, ro_int, ro_str, ro_lst, ro_own, ro_agg, ro_tup, ro_ptr, ro_map, ro_ref, ro_fn, ro_undef, nm_bool, nm_int, nm_str, nm_lst, nm_own, nm_agg, nm_ptr, nm_map, nm_fn, b_add, b_sub, b_mul, b_eq, b_ne, b_lt, b_le, b_gt, b_ge, s_eq, s_ne, q_int, q_str, q_bool, q_nil, q_if, b_eqS, b_neS, b_eqB, b_neB, Option.map_some, u_not, u_neg, l_str, l_lst, c_int, x_tup, after_none, fin_bool, fin_int, fin_str, fin_lst, fin_own, fin_tup, frz2_int, frz2_str, frz2_bool, frz2_lst, fa_ref, fa_ptr, ldc_ref, lf, hlen, Int.lt_irrefl, decide_false, Bool.false_eq_true, if_false]
  | x :: r, q, m + 1, O, hr, hm, hO, hq => by
    have hlen : (s.res.length : Int) = q.length + (r.length + 1) := by rw [hr]; simp
    have hlt : (q.length : Int) < q.length + (r.length + 1) := by omega
    have hql : q.length + (r.length + 1) ≤ 8796093022208 := by have := hs.res.1; rw [hr] at this; simpa using this
    have hg : s.res[q.length]? = some x := by rw [hr]; simp
    have hx := (hs.res.2 x (by rw [hr]; simp)).2.2
    have lf : ∀ X : List AV, ldcVal ((hp0 ++ [AObj.cells (srow s) ty_api_SiteDecl]) ++ [.cells X ty_Lstring]) (.ptr hp0.length (0 + 2)) = some (.lst 17 s.res) := fun X => ldc_get (g := hp0.length) (cs := srow s) (t := ty_api_SiteDecl) (by rw [List.getElem?_append_left (by simp)]; exact last_get _ _) 2
    have hh : (hp0 ++ [AObj.cells (srow s) ty_api_SiteDecl]).length = hp0.length + 1 := by simp
    have hia : iaVal (.slice 1) (.arr (hp0.length + 1) 0 10 1) (.int .i64 1) = some (.ptr (hp0 ++ [AObj.cells (srow s) ty_api_SiteDecl]).length 1) := by rw [hh]; exact ia_arr 1 (hp0.length + 1) 10 1 (by omega)
    have hld := ldt_last hp0.length (hp0 ++ [AObj.cells (srow s) ty_api_SiteDecl]) O ty_Lstring 1 _ none hq (by simp)
    have hst := fun (X : List AV) (hX : X.length = 10) => stt_last hp0.length (hp0 ++ [AObj.cells (srow s) ty_api_SiteDecl]) X ty_Lstring 1 (.own 1 (q.map nm1 ++ [[.str (nameOf x)]])) none rfl (by omega) (by simp)
    have hap := fun hp => app_str (q.map nm1) (nameOf x) hp (by simp; omega)
    have lx : ∀ hp, ldcVal hp (.ref (x.drop 0)) = some (.str (nameOf x)) := fun hp => by rw [hx]; rfl
    have ih := e_names_l2 K hp0 k0 y3 s hs r (q ++ [x]) m (O.set 1 (.own 1 (q.map nm1 ++ [[.str (nameOf x)]]))) (by rw [hr]; simp) (by simpa using hm) (by simpa using hO) (by rw [List.getElem?_set_self (by omega)]; simp [nm1])
    simp only [List.length_append, List.length_cons, List.length_nil, Nat.zero_add, List.set_set] at ih
    have hwr := wrap_nat q.length (by omega)
    simp only [d_r11_Names_l2, optK_s, opt2_s, opt3_s, ifK_b, guardK_t, guardK_f, guardB_bt, guardB_bf, pickV_t, pickV_f, gif_t, guardK_pure, ro_gif, pick_and, pick_or', grp_and, grp_or, grp_tt, grp_ft, grp_tf, grp_ff, letK_e, ro_bool, ro_int, ro_str, ro_lst, ro_own, ro_agg, ro_tup, ro_ptr, ro_map, ro_ref, ro_fn, ro_undef, nm_bool, nm_int, nm_str, nm_lst, nm_own, nm_agg, nm_ptr, nm_map, nm_fn, b_add, b_sub, b_mul, b_eq, b_ne, b_lt, b_le, b_gt, b_ge, s_eq, s_ne, q_int, q_str, q_bool, q_nil, q_if, b_eqS, b_neS, b_eqB, b_neB, Option.map_some, u_not, u_neg, l_str, l_lst, c_int, x_tup, after_none, fin_bool, fin_int, fin_str, fin_lst, fin_own, fin_tup, frz2_int, frz2_str, frz2_bool, frz2_lst, fa_ref, fa_ptr, ldc_ref, lf, hlen, hlt, decide_true, if_true, hia, hld, ia_lst, hg, lx, lit_str, hap, hst (O.set 1 (.lst 1 (q.map nm1))) (by simpa using hO), List.set_set, hwr, ih]

theorem e_names_l4 (K : FuncId → List AV → List AObj → KR) (hp0 : List AObj) (k0 : AV → AV → AV → List AObj → Eff → KR) (y3 : AV) (s : SiteD) (hs : SiteOk s) : ∀ (r q : List (List AV)) (m : Nat) (O : List AV), s.stores = q ++ r → r.length < m → O.length = 10 → O[2]? = some (.own 1 (q.map nm1)) →
    d_r11_Names_l4 C.G K C.L hp0 k0 m (.ptr hp0.length 0) (.arr (hp0.length + 1) 0 10 1) y3 (.int .i64 q.length) ((hp0 ++ [AObj.cells (srow s) ty_api_SiteDecl]) ++ [.cells O ty_Lstring]) none =
      k0 (.ptr hp0.length 0) (.arr (hp0.length + 1) 0 10 1) y3 ((hp0 ++ [AObj.cells (srow s) ty_api_SiteDecl]) ++ [.cells (O.set 2 (.own 1 (s.stores.map nm1))) ty_Lstring]) none
  | _, _, 0, _, _, h, _, _ => by omega
  | [], q, m + 1, O, hr, _, hO, hq => by
    have hlen : (s.stores.length : Int) = q.length := by rw [hr]; simp
    have lf : ∀ X : List AV, ldcVal ((hp0 ++ [AObj.cells (srow s) ty_api_SiteDecl]) ++ [.cells X ty_Lstring]) (.ptr hp0.length (0 + 3)) = some (.lst 3 s.stores) := fun X => ldc_get (g := hp0.length) (cs := srow s) (t := ty_api_SiteDecl) (by rw [List.getElem?_append_left (by simp)]; exact last_get _ _) 3
    have he : O.set 2 (.own 1 (s.stores.map nm1)) = O := by
      rw [hr, List.append_nil]
      refine List.ext_getElem? fun i => ?_
      rw [List.getElem?_set]
      split
      · rename_i e; subst e; rw [if_pos (by omega), hq]
      · rfl
    rw [he]
    simp only [d_r11_Names_l4, optK_s, opt2_s, opt3_s, ifK_b, guardK_t, guardK_f, guardB_bt, guardB_bf, pickV_t, pickV_f, gif_t, guardK_pure, ro_gif, pick_and, pick_or', grp_and, grp_or, grp_tt, grp_ft, grp_tf, grp_ff, letK_e, ro_bool, ro_int, ro_str, ro_lst, ro_own, ro_agg, ro_tup, ro_ptr, ro_map, ro_ref, ro_fn, ro_undef, nm_bool, nm_int, nm_str, nm_lst, nm_own, nm_agg, nm_ptr, nm_map, nm_fn, b_add, b_sub, b_mul, b_eq, b_ne, b_lt, b_le, b_gt, b_ge, s_eq, s_ne, q_int, q_str, q_bool, q_nil, q_if, b_eqS, b_neS, b_eqB, b_neB, Option.map_some, u_not, u_neg, l_str, l_lst, c_int, x_tup, after_none, fin_bool, fin_int, fin_str, fin_lst, fin_own, fin_tup, frz2_int, frz2_str, frz2_bool, frz2_lst, fa_ref, fa_ptr, ldc_ref, lf, hlen, Int.lt_irrefl, decide_false, Bool.false_eq_true, if_false]
  | x :: r, q, m + 1, O, hr, hm, hO, hq => by
    have hlen : (s.stores.length : Int) = q.length + (r.length + 1) := by rw [hr]; simp
    have hlt : (q.length : Int) < q.length + (r.length + 1) := by omega
    have hql : q.length + (r.length + 1) ≤ 8796093022208 := by have := hs.stores.1; rw [hr] at this; simpa using this
    have hg : s.stores[q.length]? = some x := by rw [hr]; simp
    have hx := (hs.stores.2 x (by rw [hr]; simp)).2.2
    have lf : ∀ X : List AV, ldcVal ((hp0 ++ [AObj.cells (srow s) ty_api_SiteDecl]) ++ [.cells X ty_Lstring]) (.ptr hp0.length (0 + 3)) = some (.lst 3 s.stores) := fun X => ldc_get (g := hp0.length) (cs := srow s) (t := ty_api_SiteDecl) (by rw [List.getElem?_append_left (by simp)]; exact last_get _ _) 3
    have hh : (hp0 ++ [AObj.cells (srow s) ty_api_SiteDecl]).length = hp0.length + 1 := by simp
    have hia : iaVal (.slice 1) (.arr (hp0.length + 1) 0 10 1) (.int .i64 2) = some (.ptr (hp0 ++ [AObj.cells (srow s) ty_api_SiteDecl]).length 2) := by rw [hh]; exact ia_arr 1 (hp0.length + 1) 10 2 (by omega)
    have hld := ldt_last hp0.length (hp0 ++ [AObj.cells (srow s) ty_api_SiteDecl]) O ty_Lstring 2 _ none hq (by simp)
    have hst := fun (X : List AV) (hX : X.length = 10) => stt_last hp0.length (hp0 ++ [AObj.cells (srow s) ty_api_SiteDecl]) X ty_Lstring 2 (.own 1 (q.map nm1 ++ [[.str (nameOf x)]])) none rfl (by omega) (by simp)
    have hap := fun hp => app_str (q.map nm1) (nameOf x) hp (by simp; omega)
    have lx : ∀ hp, ldcVal hp (.ref (x.drop 0)) = some (.str (nameOf x)) := fun hp => by rw [hx]; rfl
    have ih := e_names_l4 K hp0 k0 y3 s hs r (q ++ [x]) m (O.set 2 (.own 1 (q.map nm1 ++ [[.str (nameOf x)]]))) (by rw [hr]; simp) (by simpa using hm) (by simpa using hO) (by rw [List.getElem?_set_self (by omega)]; simp [nm1])
    simp only [List.length_append, List.length_cons, List.length_nil, Nat.zero_add, List.set_set] at ih
    have hwr := wrap_nat q.length (by omega)
    simp only [d_r11_Names_l4, optK_s, opt2_s, opt3_s, ifK_b, guardK_t, guardK_f, guardB_bt, guardB_bf, pickV_t, pickV_f, gif_t, guardK_pure, ro_gif, pick_and, pick_or', grp_and, grp_or, grp_tt, grp_ft, grp_tf, grp_ff, letK_e, ro_bool, ro_int, ro_str, ro_lst, ro_own, ro_agg, ro_tup, ro_ptr, ro_map, ro_ref, ro_fn, ro_undef, nm_bool, nm_int, nm_str, nm_lst, nm_own, nm_agg, nm_ptr, nm_map, nm_fn, b_add, b_sub, b_mul, b_eq, b_ne, b_lt, b_le, b_gt, b_ge, s_eq, s_ne, q_int, q_str, q_bool, q_nil, q_if, b_eqS, b_neS, b_eqB, b_neB, Option.map_some, u_not, u_neg, l_str, l_lst, c_int, x_tup, after_none, fin_bool, fin_int, fin_str, fin_lst, fin_own, fin_tup, frz2_int, frz2_str, frz2_bool, frz2_lst, fa_ref, fa_ptr, ldc_ref, lf, hlen, hlt, decide_true, if_true, hia, hld, ia_lst, hg, lx, lit_str, hap, hst (O.set 2 (.lst 1 (q.map nm1))) (by simpa using hO), List.set_set, hwr, ih]

theorem e_names_l6 (K : FuncId → List AV → List AObj → KR) (hp0 : List AObj) (k0 : AV → AV → AV → List AObj → Eff → KR) (y3 : AV) (s : SiteD) (hs : SiteOk s) : ∀ (r q : List (List AV)) (m : Nat) (O : List AV), s.belts = q ++ r → r.length < m → O.length = 10 → O[3]? = some (.own 1 (q.map nm1)) →
    d_r11_Names_l6 C.G K C.L hp0 k0 m (.ptr hp0.length 0) (.arr (hp0.length + 1) 0 10 1) y3 (.int .i64 q.length) ((hp0 ++ [AObj.cells (srow s) ty_api_SiteDecl]) ++ [.cells O ty_Lstring]) none =
      k0 (.ptr hp0.length 0) (.arr (hp0.length + 1) 0 10 1) y3 ((hp0 ++ [AObj.cells (srow s) ty_api_SiteDecl]) ++ [.cells (O.set 3 (.own 1 (s.belts.map nm1))) ty_Lstring]) none
  | _, _, 0, _, _, h, _, _ => by omega
  | [], q, m + 1, O, hr, _, hO, hq => by
    have hlen : (s.belts.length : Int) = q.length := by rw [hr]; simp
    have lf : ∀ X : List AV, ldcVal ((hp0 ++ [AObj.cells (srow s) ty_api_SiteDecl]) ++ [.cells X ty_Lstring]) (.ptr hp0.length (0 + 4)) = some (.lst 3 s.belts) := fun X => ldc_get (g := hp0.length) (cs := srow s) (t := ty_api_SiteDecl) (by rw [List.getElem?_append_left (by simp)]; exact last_get _ _) 4
    have he : O.set 3 (.own 1 (s.belts.map nm1)) = O := by
      rw [hr, List.append_nil]
      refine List.ext_getElem? fun i => ?_
      rw [List.getElem?_set]
      split
      · rename_i e; subst e; rw [if_pos (by omega), hq]
      · rfl
    rw [he]
    simp only [d_r11_Names_l6, optK_s, opt2_s, opt3_s, ifK_b, guardK_t, guardK_f, guardB_bt, guardB_bf, pickV_t, pickV_f, gif_t, guardK_pure, ro_gif, pick_and, pick_or', grp_and, grp_or, grp_tt, grp_ft, grp_tf, grp_ff, letK_e, ro_bool, ro_int, ro_str, ro_lst, ro_own, ro_agg, ro_tup, ro_ptr, ro_map, ro_ref, ro_fn, ro_undef, nm_bool, nm_int, nm_str, nm_lst, nm_own, nm_agg, nm_ptr, nm_map, nm_fn, b_add, b_sub, b_mul, b_eq, b_ne, b_lt, b_le, b_gt, b_ge, s_eq, s_ne, q_int, q_str, q_bool, q_nil, q_if, b_eqS, b_neS, b_eqB, b_neB, Option.map_some, u_not, u_neg, l_str, l_lst, c_int, x_tup, after_none, fin_bool, fin_int, fin_str, fin_lst, fin_own, fin_tup, frz2_int, frz2_str, frz2_bool, frz2_lst, fa_ref, fa_ptr, ldc_ref, lf, hlen, Int.lt_irrefl, decide_false, Bool.false_eq_true, if_false]
  | x :: r, q, m + 1, O, hr, hm, hO, hq => by
    have hlen : (s.belts.length : Int) = q.length + (r.length + 1) := by rw [hr]; simp
    have hlt : (q.length : Int) < q.length + (r.length + 1) := by omega
    have hql : q.length + (r.length + 1) ≤ 8796093022208 := by have := hs.belts.1; rw [hr] at this; simpa using this
    have hg : s.belts[q.length]? = some x := by rw [hr]; simp
    have hx := (hs.belts.2 x (by rw [hr]; simp)).2.2
    have lf : ∀ X : List AV, ldcVal ((hp0 ++ [AObj.cells (srow s) ty_api_SiteDecl]) ++ [.cells X ty_Lstring]) (.ptr hp0.length (0 + 4)) = some (.lst 3 s.belts) := fun X => ldc_get (g := hp0.length) (cs := srow s) (t := ty_api_SiteDecl) (by rw [List.getElem?_append_left (by simp)]; exact last_get _ _) 4
    have hh : (hp0 ++ [AObj.cells (srow s) ty_api_SiteDecl]).length = hp0.length + 1 := by simp
    have hia : iaVal (.slice 1) (.arr (hp0.length + 1) 0 10 1) (.int .i64 3) = some (.ptr (hp0 ++ [AObj.cells (srow s) ty_api_SiteDecl]).length 3) := by rw [hh]; exact ia_arr 1 (hp0.length + 1) 10 3 (by omega)
    have hld := ldt_last hp0.length (hp0 ++ [AObj.cells (srow s) ty_api_SiteDecl]) O ty_Lstring 3 _ none hq (by simp)
    have hst := fun (X : List AV) (hX : X.length = 10) => stt_last hp0.length (hp0 ++ [AObj.cells (srow s) ty_api_SiteDecl]) X ty_Lstring 3 (.own 1 (q.map nm1 ++ [[.str (nameOf x)]])) none rfl (by omega) (by simp)
    have hap := fun hp => app_str (q.map nm1) (nameOf x) hp (by simp; omega)
    have lx : ∀ hp, ldcVal hp (.ref (x.drop 0)) = some (.str (nameOf x)) := fun hp => by rw [hx]; rfl
    have ih := e_names_l6 K hp0 k0 y3 s hs r (q ++ [x]) m (O.set 3 (.own 1 (q.map nm1 ++ [[.str (nameOf x)]]))) (by rw [hr]; simp) (by simpa using hm) (by simpa using hO) (by rw [List.getElem?_set_self (by omega)]; simp [nm1])
    simp only [List.length_append, List.length_cons, List.length_nil, Nat.zero_add, List.set_set] at ih
    have hwr := wrap_nat q.length (by omega)
    simp only [d_r11_Names_l6, optK_s, opt2_s, opt3_s, ifK_b, guardK_t, guardK_f, guardB_bt, guardB_bf, pickV_t, pickV_f, gif_t, guardK_pure, ro_gif, pick_and, pick_or', grp_and, grp_or, grp_tt, grp_ft, grp_tf, grp_ff, letK_e, ro_bool, ro_int, ro_str, ro_lst, ro_own, ro_agg, ro_tup, ro_ptr, ro_map, ro_ref, ro_fn, ro_undef, nm_bool, nm_int, nm_str, nm_lst, nm_own, nm_agg, nm_ptr, nm_map, nm_fn, b_add, b_sub, b_mul, b_eq, b_ne, b_lt, b_le, b_gt, b_ge, s_eq, s_ne, q_int, q_str, q_bool, q_nil, q_if, b_eqS, b_neS, b_eqB, b_neB, Option.map_some, u_not, u_neg, l_str, l_lst, c_int, x_tup, after_none, fin_bool, fin_int, fin_str, fin_lst, fin_own, fin_tup, frz2_int, frz2_str, frz2_bool, frz2_lst, fa_ref, fa_ptr, ldc_ref, lf, hlen, hlt, decide_true, if_true, hia, hld, ia_lst, hg, lx, lit_str, hap, hst (O.set 3 (.lst 1 (q.map nm1))) (by simpa using hO), List.set_set, hwr, ih]

theorem e_names_l8 (K : FuncId → List AV → List AObj → KR) (hp0 : List AObj) (k0 : AV → List AObj → Eff → KR) (y3 : AV) (s : SiteD) (hs : SiteOk s) : ∀ (r q : List (List AV)) (m : Nat) (O : List AV), s.routines = q ++ r → r.length < m → O.length = 10 → O[9]? = some (.own 1 (q.map nm1)) →
    d_r11_Names_l8 C.G K C.L hp0 k0 m (.ptr hp0.length 0) (.arr (hp0.length + 1) 0 10 1) y3 (.int .i64 q.length) ((hp0 ++ [AObj.cells (srow s) ty_api_SiteDecl]) ++ [.cells O ty_Lstring]) none =
      k0 y3 ((hp0 ++ [AObj.cells (srow s) ty_api_SiteDecl]) ++ [.cells (O.set 9 (.own 1 (s.routines.map nm1))) ty_Lstring]) none
  | _, _, 0, _, _, h, _, _ => by omega
  | [], q, m + 1, O, hr, _, hO, hq => by
    have hlen : (s.routines.length : Int) = q.length := by rw [hr]; simp
    have lf : ∀ X : List AV, ldcVal ((hp0 ++ [AObj.cells (srow s) ty_api_SiteDecl]) ++ [.cells X ty_Lstring]) (.ptr hp0.length (0 + 10)) = some (.lst 4 s.routines) := fun X => ldc_get (g := hp0.length) (cs := srow s) (t := ty_api_SiteDecl) (by rw [List.getElem?_append_left (by simp)]; exact last_get _ _) 10
    have he : O.set 9 (.own 1 (s.routines.map nm1)) = O := by
      rw [hr, List.append_nil]
      refine List.ext_getElem? fun i => ?_
      rw [List.getElem?_set]
      split
      · rename_i e; subst e; rw [if_pos (by omega), hq]
      · rfl
    rw [he]
    simp only [d_r11_Names_l8, optK_s, opt2_s, opt3_s, ifK_b, guardK_t, guardK_f, guardB_bt, guardB_bf, pickV_t, pickV_f, gif_t, guardK_pure, ro_gif, pick_and, pick_or', grp_and, grp_or, grp_tt, grp_ft, grp_tf, grp_ff, letK_e, ro_bool, ro_int, ro_str, ro_lst, ro_own, ro_agg, ro_tup, ro_ptr, ro_map, ro_ref, ro_fn, ro_undef, nm_bool, nm_int, nm_str, nm_lst, nm_own, nm_agg, nm_ptr, nm_map, nm_fn, b_add, b_sub, b_mul, b_eq, b_ne, b_lt, b_le, b_gt, b_ge, s_eq, s_ne, q_int, q_str, q_bool, q_nil, q_if, b_eqS, b_neS, b_eqB, b_neB, Option.map_some, u_not, u_neg, l_str, l_lst, c_int, x_tup, after_none, fin_bool, fin_int, fin_str, fin_lst, fin_own, fin_tup, frz2_int, frz2_str, frz2_bool, frz2_lst, fa_ref, fa_ptr, ldc_ref, lf, hlen, Int.lt_irrefl, decide_false, Bool.false_eq_true, if_false]
  | x :: r, q, m + 1, O, hr, hm, hO, hq => by
    have hlen : (s.routines.length : Int) = q.length + (r.length + 1) := by rw [hr]; simp
    have hlt : (q.length : Int) < q.length + (r.length + 1) := by omega
    have hql : q.length + (r.length + 1) ≤ 8796093022208 := by have := hs.routines.1; rw [hr] at this; simpa using this
    have hg : s.routines[q.length]? = some x := by rw [hr]; simp
    have hx := (hs.routines.2 x (by rw [hr]; simp)).2.2
    have lf : ∀ X : List AV, ldcVal ((hp0 ++ [AObj.cells (srow s) ty_api_SiteDecl]) ++ [.cells X ty_Lstring]) (.ptr hp0.length (0 + 10)) = some (.lst 4 s.routines) := fun X => ldc_get (g := hp0.length) (cs := srow s) (t := ty_api_SiteDecl) (by rw [List.getElem?_append_left (by simp)]; exact last_get _ _) 10
    have hh : (hp0 ++ [AObj.cells (srow s) ty_api_SiteDecl]).length = hp0.length + 1 := by simp
    have hia : iaVal (.slice 1) (.arr (hp0.length + 1) 0 10 1) (.int .i64 9) = some (.ptr (hp0 ++ [AObj.cells (srow s) ty_api_SiteDecl]).length 9) := by rw [hh]; exact ia_arr 1 (hp0.length + 1) 10 9 (by omega)
    have hld := ldt_last hp0.length (hp0 ++ [AObj.cells (srow s) ty_api_SiteDecl]) O ty_Lstring 9 _ none hq (by simp)
    have hst := fun (X : List AV) (hX : X.length = 10) => stt_last hp0.length (hp0 ++ [AObj.cells (srow s) ty_api_SiteDecl]) X ty_Lstring 9 (.own 1 (q.map nm1 ++ [[.str (nameOf x)]])) none rfl (by omega) (by simp)
    have hap := fun hp => app_str (q.map nm1) (nameOf x) hp (by simp; omega)
    have lx : ∀ hp, ldcVal hp (.ref (x.drop 0)) = some (.str (nameOf x)) := fun hp => by rw [hx]; rfl
    have ih := e_names_l8 K hp0 k0 y3 s hs r (q ++ [x]) m (O.set 9 (.own 1 (q.map nm1 ++ [[.str (nameOf x)]]))) (by rw [hr]; simp) (by simpa using hm) (by simpa using hO) (by rw [List.getElem?_set_self (by omega)]; simp [nm1])
    simp only [List.length_append, List.length_cons, List.length_nil, Nat.zero_add, List.set_set] at ih
    have hwr := wrap_nat q.length (by omega)
    simp only [d_r11_Names_l8, optK_s, opt2_s, opt3_s, ifK_b, guardK_t, guardK_f, guardB_bt, guardB_bf, pickV_t, pickV_f, gif_t, guardK_pure, ro_gif, pick_and, pick_or', grp_and, grp_or, grp_tt, grp_ft, grp_tf, grp_ff, letK_e, ro_bool, ro_int, ro_str, ro_lst, ro_own, ro_agg, ro_tup, ro_ptr, ro_map, ro_ref, ro_fn, ro_undef, nm_bool, nm_int, nm_str, nm_lst, nm_own, nm_agg, nm_ptr, nm_map, nm_fn, b_add, b_sub, b_mul, b_eq, b_ne, b_lt, b_le, b_gt, b_ge, s_eq, s_ne, q_int, q_str, q_bool, q_nil, q_if, b_eqS, b_neS, b_eqB, b_neB, Option.map_some, u_not, u_neg, l_str, l_lst, c_int, x_tup, after_none, fin_bool, fin_int, fin_str, fin_lst, fin_own, fin_tup, frz2_int, frz2_str, frz2_bool, frz2_lst, fa_ref, fa_ptr, ldc_ref, lf, hlen, hlt, decide_true, if_true, hia, hld, ia_lst, hg, lx, lit_str, hap, hst (O.set 9 (.lst 1 (q.map nm1))) (by simpa using hO), List.set_set, hwr, ih]

end
end Go.Proofs.YtlmfmmclnboglaaGreat
