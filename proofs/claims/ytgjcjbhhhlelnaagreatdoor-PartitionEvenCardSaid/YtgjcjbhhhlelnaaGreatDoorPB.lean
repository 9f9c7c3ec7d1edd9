/-
  PartitionEven: out of bounds both refuse; within, each pair of numbers is run by the kernel.
-/
import Derived.Test.YtgjcjbhhhlelnaaGreatDoorPA
import Derived.Test.YtgjcjbhhhlelnaaGreatDoorTB
namespace Go.Proofs.YtgjcjbhhhlelnaaGreatDoor
open Go Go.RowKit Go.Proofs.YtgjcjbhhhlelnaaGreatDoor.Abs
set_option linter.all false
set_option maxRecDepth 100000
set_option maxHeartbeats 0

def orA (f : FuncId) (args : List AV) : Option AV := if f = F_law34_awake then (match args with | [] => some (.bool true) | _ => none) else none
theorem orA_ok (W0 : World) : ∀ f args v, orA f args = some v → OracleOk Tryz.prog W0 f args v := by
  intro f args v h
  unfold orA at h
  split at h
  · rename_i e; subst e
    split at h <;> cases h
    refine ⟨fun _ _ h => (by cases h), fun Γ w xs hb hΓ hs hx => ?_⟩
    have hxs : xs = #[] := Array.eq_empty_of_size_eq_zero hs
    subst hxs
    refine went_of_calls Tryz.func10 (by kernel_rfl) rfl ((c_awake w).mono ?_)
    rintro e w' ⟨rfl, hb'⟩
    exact ⟨_, rfl, hb', .bool true⟩
  · cases h
def C1 : Cfg := ⟨fun _ => none, fun f => (tab.find? (·.1 == f)).map (·.2), fun f args hp => (orA f args).map fun v => (v, hp, none), 9223372036854775808⟩
theorem C1_ok (W0 : World) : CfgOk Tryz.prog W0 C1 where
  mixed := by kernel_rfl
  globals := fun g cells h => by cases h
  table := fun f af h => by
    have h : (tab.find? (·.1 == f)).map (·.2) = some af := h
    obtain ⟨p, hp, rfl⟩ := Option.map_eq_some_iff.1 h
    have hf := List.find?_some hp
    have : p.1 = f := by simpa using hf
    subst this
    exact tab_ok p (List.mem_of_find?_eq_some hp)
  oracle := spec_of_oracles (orA_ok W0)
theorem o_awake (n : Nat) (hp : List AObj) : evalCall C1 (n + 1) F_law34_awake [] hp = some (.bool true, hp, none) := rfl
def badB (x y : Int) : Bool := ((decide (x < 1) || decide (16 < x)) || decide (y < 1)) || decide (x < y)
theorem d_even (n : Nat) (x y : Int) (hp : List AObj) (h : badB x y = true) : d_partition_Even C1.G (evalCall C1 n) C1.L (.int .i64 x) (.int .i64 y) hp = some (.tup [.lst 1 [], .int .i64 2], hp, none) := by
  have h' : (((decide (x < 1) || decide (16 < x)) || decide (y < 1)) || decide (x < y)) = true := h
  simp only [d_partition_Even, optK_s, opt2_s, opt3_s, ifK_b, guardK_t, guardK_f, guardB_bt, guardB_bf, pickV_t, pickV_f, gif_t, guardK_pure, ro_gif, pick_and, pick_or', grp_and, grp_or, grp_tt, grp_ft, grp_tf, grp_ff, letK_e, ro_bool, ro_int, ro_str, ro_lst, ro_own, ro_agg, ro_tup, ro_ptr, ro_map, ro_ref, ro_fn, ro_undef, nm_bool, nm_int, nm_str, nm_lst, nm_own, nm_agg, nm_ptr, nm_map, nm_fn, b_add, b_sub, b_mul, b_eq, b_ne, b_lt, b_le, b_gt, b_ge, s_eq, s_ne, q_int, q_str, q_bool, q_nil, q_if, b_eqS, b_neS, b_eqB, b_neB, Option.map_some, u_not, u_neg, l_str, l_lst, c_int, x_tup, after_none, fin_bool, fin_int, fin_str, fin_lst, fin_own, fin_tup, frz2_int, frz2_str, frz2_bool, frz2_lst, fa_ref, fa_ptr, ldc_ref, h', if_true]
  rfl
theorem d_reven (n : Nat) (x y : Int) (hp : List AObj) (h : badB x y = true) : d_r34_Even C1.G (evalCall C1 n) C1.L (.int .i64 x) (.int .i64 y) hp = some (.tup [.lst 1 [], .int .i64 2], hp, none) := by
  have h' : (((decide (x < 1) || decide (16 < x)) || decide (y < 1)) || decide (x < y)) = true := h
  simp only [d_r34_Even, optK_s, opt2_s, opt3_s, ifK_b, guardK_t, guardK_f, guardB_bt, guardB_bf, pickV_t, pickV_f, gif_t, guardK_pure, ro_gif, pick_and, pick_or', grp_and, grp_or, grp_tt, grp_ft, grp_tf, grp_ff, letK_e, ro_bool, ro_int, ro_str, ro_lst, ro_own, ro_agg, ro_tup, ro_ptr, ro_map, ro_ref, ro_fn, ro_undef, nm_bool, nm_int, nm_str, nm_lst, nm_own, nm_agg, nm_ptr, nm_map, nm_fn, b_add, b_sub, b_mul, b_eq, b_ne, b_lt, b_le, b_gt, b_ge, s_eq, s_ne, q_int, q_str, q_bool, q_nil, q_if, b_eqS, b_neS, b_eqB, b_neB, Option.map_some, u_not, u_neg, l_str, l_lst, c_int, x_tup, after_none, fin_bool, fin_int, fin_str, fin_lst, fin_own, fin_tup, frz2_int, frz2_str, frz2_bool, frz2_lst, fa_ref, fa_ptr, ldc_ref, h', if_true]
  rfl
theorem d_same_nil (n : Nat) (hp : List AObj) : d_r34_SameInts C1.G (evalCall C1 n) C1.L (.lst 1 []) (.lst 1 []) hp = some (.bool true, hp, none) := by
  kernel_rfl
/-- the functions that the law calls, as they come out -/
def Kf (f : FuncId) (args : List AV) (hp : List AObj) : KR :=
  if f = F_law34_awake then (match args with | [] => some (.bool true, hp, none) | _ => none)
  else if f = F_partition_Even then (match args with | [a, b] => d_partition_Even C1.G (evalCall C1 2) C1.L a b hp | _ => none)
  else if f = F_r34_Even then (match args with | [a, b] => d_r34_Even C1.G (evalCall C1 2) C1.L a b hp | _ => none)
  else if f = F_r34_SameInts then (match args with | [a, b] => d_r34_SameInts C1.G (evalCall C1 2) C1.L a b hp | _ => none)
  else none
theorem Kf_le {f : FuncId} {args : List AV} {hp : List AObj} {r : AV × List AObj × Eff} (h : Kf f args hp = some r) : evalCall C1 3 f args hp = some r := by
  unfold Kf at h
  split at h
  · rename_i e; subst e
    split at h <;> cases h
    exact o_awake 2 hp
  split at h
  · rename_i e; subst e
    split at h
    · exact partition_Even_run rfl h
    · cases h
  split at h
  · rename_i e; subst e
    split at h
    · exact r34_Even_run rfl h
    · cases h
  split at h
  · rename_i e; subst e
    split at h
    · exact r34_SameInts_run rfl h
    · cases h
  · cases h
def C2 : Cfg := ⟨fun _ => none, fun f => if f = F_law34_PartitionEven then some a_law34_PartitionEven else none, Kf, 9223372036854775808⟩
theorem C2_ok (W0 : World) : CfgOk Tryz.prog W0 C2 where
  mixed := by kernel_rfl
  globals := fun g cells h => by cases h
  table := fun f af h => by
    have h : (if f = F_law34_PartitionEven then some a_law34_PartitionEven else none) = some af := h
    split at h <;> cases h
    rename_i e; subst e
    exact tab_ok (F_law34_PartitionEven, a_law34_PartitionEven) (by simp [tab])
  oracle := fun f args hp v hp' e h => evalCall_ok (C1_ok W0) 3 f args hp v hp' e (Kf_le h)
theorem k2 (f : FuncId) (args : List AV) (hp : List AObj) (h : f ≠ F_law34_PartitionEven) : evalCall C2 1 f args hp = Kf f args hp := by
  simp [evalCall, C2, h]
theorem even_in : ((List.range 16).all fun s => (List.range (s + 1)).all fun k => isT (d_law34_PartitionEven C2.G (evalCall C2 1) C2.L (.int .i64 ((s : Int) + 1)) (.int .i64 ((k : Int) + 1)) [])) = true := by kernel_rfl
theorem x_bad (K : FuncId → List AV → List AObj → KR) (L : Nat) (x y : Int) (t1 : K F_partition_Even [.int .i64 x, .int .i64 y] [] = some (.tup [.lst 1 [], .int .i64 2], [], none))
   (t2 : K F_r34_Even [.int .i64 x, .int .i64 y] [] = some (.tup [.lst 1 [], .int .i64 2], [], none)) (t3 : K F_r34_SameInts [.lst 1 [], .lst 1 []] [] = some (.bool true, [], none)) (t4 : K F_law34_awake [] [] = some (.bool true, [], none)) :
   d_law34_PartitionEven C2.G K L (.int .i64 x) (.int .i64 y) [] = some (.bool true, [], none) := by
  simp only [d_law34_PartitionEven, optK_s, opt2_s, opt3_s, ifK_b, guardK_t, guardK_f, guardB_bt, guardB_bf, pickV_t, pickV_f, gif_t, guardK_pure, ro_gif, pick_and, pick_or', grp_and, grp_or, grp_tt, grp_ft, grp_tf, grp_ff, letK_e, ro_bool, ro_int, ro_str, ro_lst, ro_own, ro_agg, ro_tup, ro_ptr, ro_map, ro_ref, ro_fn, ro_undef, nm_bool, nm_int, nm_str, nm_lst, nm_own, nm_agg, nm_ptr, nm_map, nm_fn, b_add, b_sub, b_mul, b_eq, b_ne, b_lt, b_le, b_gt, b_ge, s_eq, s_ne, q_int, q_str, q_bool, q_nil, q_if, b_eqS, b_neS, b_eqB, b_neB, Option.map_some, u_not, u_neg, l_str, l_lst, c_int, x_tup, after_none, fin_bool, fin_int, fin_str, fin_lst, fin_own, fin_tup, frz2_int, frz2_str, frz2_bool, frz2_lst, fa_ref, fa_ptr, ldc_ref, t1, t2, t3, t4, List.getElem?_cons_zero, List.getElem?_cons_succ]
  rfl
theorem cT2 : C2.T F_law34_PartitionEven = some a_law34_PartitionEven := rfl
theorem x_run (x y : Int) (hp : List AObj) (e : Eff) (hr : d_law34_PartitionEven C2.G (evalCall C2 1) C2.L (.int .i64 x) (.int .i64 y) [] = some (.bool true, hp, e)) : evalCall C2 2 F_law34_PartitionEven [.int .i64 x, .int .i64 y] [] = some (.bool true, hp, e) := law34_PartitionEven_run cT2 hr
theorem x_good (x y : Int) (h1 : ¬ x < 1) (h2 : ¬ 16 < x) (h3 : ¬ y < 1) (h4 : ¬ x < y) : isT (d_law34_PartitionEven C2.G (evalCall C2 1) C2.L (.int .i64 x) (.int .i64 y) []) = true := by
  have hx := List.all_eq_true.1 even_in (x - 1).toNat (List.mem_range.2 (by omega))
  have hy := List.all_eq_true.1 hx (y - 1).toNat (List.mem_range.2 (by omega))
  have ex : (((x - 1).toNat : Int) + 1) = x := by omega
  have ey : (((y - 1).toNat : Int) + 1) = y := by omega
  rw [ex, ey] at hy
  exact hy
theorem x_even (x y : Int) : ∃ hp e, evalCall C2 2 F_law34_PartitionEven [.int .i64 x, .int .i64 y] [] = some (.bool true, hp, e) := by
  cases h : badB x y with
  | true =>
    refine ⟨[], none, x_run x y _ _ (x_bad _ _ x y ?_ ?_ ?_ ?_)⟩
    · rw [k2 _ _ _ (by decide)]
      exact d_even 2 x y [] h
    · rw [k2 _ _ _ (by decide)]
      exact d_reven 2 x y [] h
    · rw [k2 _ _ _ (by decide)]
      exact d_same_nil 2 []
    · rw [k2 _ _ _ (by decide)]
      rfl
  | false =>
    simp only [badB, Bool.or_eq_false_iff, decide_eq_false_iff_not] at h
    obtain ⟨⟨⟨h1, h2⟩, h3⟩, h4⟩ := h
    obtain ⟨hp, e, hr⟩ := isT_some (x_good x y h1 h2 h3 h4)
    exact ⟨hp, e, x_run x y hp e hr⟩
theorem c_even (x y : Int) (w : World) : Calls Tryz.prog F_law34_PartitionEven #[.int .i64 x, .int .i64 y] w fun e w' => e = .returned (.bool true) ∧ Below w.heap.size w w' := by
  obtain ⟨hp, e, h⟩ := x_even x y
  exact law_of (C2_ok w) h rfl fun j x hx => by
    match j, hx with
    | 0, hx => cases hx; exact ⟨.int _ _, fun k r e => by cases e⟩
    | 1, hx => cases hx; exact ⟨.int _ _, fun k r e => by cases e⟩
    | j + 2, hx => simp at hx
end Go.Proofs.YtgjcjbhhhlelnaaGreatDoor
