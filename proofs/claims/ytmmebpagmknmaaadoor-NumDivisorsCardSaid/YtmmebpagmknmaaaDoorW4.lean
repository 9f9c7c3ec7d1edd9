/-
  The contracts of Mul of num and of simulatorref01.
-/
import Derived.Test.YtmmebpagmknmaaaDoorW3
namespace Go.Proofs.YtmmebpagmknmaaaDoor
open Go.RowKit

theorem c_mul64_small (p q : Nat) (m : Int) (hp : p ≤ 1000000000000) (hq : q ≤ 1000000000000) (hm : ((p * q : Nat) : Int) = m) (h : m < 1000000000000) (w : World) :
    Calls Tryd.prog 27 #[.int .u64 p, .int .u64 q] w fun e w' => e = .returned (.tuple #[.int .u64 0, .int .u64 m]) ∧ w = w' := by
  refine (Tryd.bits_Mul64 p q (by omega) (by omega) w).mono ?_
  rintro e w' ⟨rfl, rfl⟩
  subst hm
  have h' : p * q < 1000000000000 := by omega
  generalize p * q = n at *
  refine ⟨?_, rfl⟩
  rw [Nat.div_eq_of_lt (by omega), Nat.mod_eq_of_lt (by omega)]; rfl
theorem c_mul64_big (p q : Nat) (hp : p ≤ 1000000000000) (hq : q ≤ 1000000000000) (h : 1000000000000 ≤ p * q) (w : World) :
    Calls Tryd.prog 27 #[.int .u64 p, .int .u64 q] w fun e w' => (∃ hi lo : Int, e = .returned (.tuple #[.int .u64 hi, .int .u64 lo]) ∧ 0 ≤ hi ∧ 0 ≤ lo ∧ ((hi = 0 ∧ 1000000000000 ≤ lo) ∨ (hi == 0) = false)) ∧ w = w' := by
  refine (Tryd.bits_Mul64 p q (by omega) (by omega) w).mono ?_
  rintro e w' ⟨rfl, rfl⟩
  refine ⟨⟨_, _, rfl, by omega, by omega, ?_⟩, rfl⟩
  generalize p * q = n at *
  by_cases h0 : n / 18446744073709551616 = 0
  · exact .inl (by omega)
  · exact .inr (by rw [beq_eq_false_iff_ne]; omega)

theorem clip_neg (m : Int) (h0 : 0 ≤ m) (h : m < 1000000000000) : clip (-m) = -m ∧ clip m = m := ⟨clip_in _ (by omega) (by omega), clip_in _ (by omega) (by omega)⟩
theorem clip_far (m : Int) (h : 1000000000000 ≤ m) : clip (-m) = -1000000000000 ∧ clip m = 1000000000000 := by unfold clip; omega

set_option maxHeartbeats 1600000 in
theorem c_mul (a b : Int) (w : World) :
    Calls Tryd.prog 15 #[.int .i64 a, .int .i64 b] w fun e w' => e = .returned (.int .i64 (mulI a b)) ∧ w = w' := by
  have ha := clip_bd a
  have hb := clip_bd b
  unfold mulI
  obtain ⟨x, hx⟩ : ∃ x, clip a = x := ⟨_, rfl⟩
  obtain ⟨y, hy⟩ : ∃ y, clip b = y := ⟨_, rfl⟩
  rw [hx] at ha ⊢
  rw [hy] at hb ⊢
  have HX := Lib.hid hx
  have HY := Lib.hid hy
  obtain ⟨p, hp⟩ : ∃ p, x.natAbs = p := ⟨_, rfl⟩
  obtain ⟨q, hq⟩ : ∃ q, y.natAbs = q := ⟨_, rfl⟩
  have E1 : Hid (absI x = p) := (absI_nat x).trans (by rw [hp])
  have E2 : Hid (absI y = q) := (absI_nat y).trans (by rw [hq])
  have hp1 : p ≤ 1000000000000 := by omega
  have hq1 : q ≤ 1000000000000 := by omega
  obtain ⟨m, hm⟩ : ∃ m : Int, ((p * q : Nat) : Int) = m := ⟨_, rfl⟩
  have hm0 : 0 ≤ m := by omega
  by_cases hlt : m < 1000000000000
  · have HC : Hid (((p * q : Nat) : Int) = m) := hm
    have HS : Hid (clip (-m) = -m ∧ clip m = m) := clip_neg m hm0 hlt
    by_cases s1 : x < 0
    all_goals by_cases s2 : y < 0
    · have HE : Hid (x * y = m) := by unfold Hid; rw [mul_nn x y p q hp hq s1 s2, hm]
      have d1 : decide (x < 0) = true := by simp; omega
      have d2 : decide (y < 0) = true := by simp; omega
      clear hx hy hp hq hm
      go_enter Tryd.func15, Tryd.ntmps15
      go_wp2_with (first | (go_at_call 9; refine (c_clip_eq a x HX.out _).mono ?_; rintro e w' ⟨rfl, rfl⟩; clear HX) | (go_at_call 9; refine (c_clip_eq b y HY.out _).mono ?_; rintro e w' ⟨rfl, rfl⟩; clear HY) | (go_at_call 28; refine (c_size _ (by omega) (by omega) _).mono ?_; (first | rw [E1.out] | rw [E2.out]); rintro e w' ⟨rfl, rfl⟩) | (go_at_call 27; refine (c_mul64_small p q m hp1 hq1 HC.out hlt _).mono ?_; rintro e w' ⟨rfl, rfl⟩))
      go_ret
      exact ⟨ret_int (by rw [HE.out]; exact HS.out.2.symm), rfl⟩
    · have HE : Hid (x * y = -m) := by unfold Hid; rw [mul_np x y p q hp hq s1 s2, hm]
      have d1 : decide (x < 0) = true := by simp; omega
      have d2 : decide (y < 0) = false := by simp; omega
      clear hx hy hp hq hm
      go_enter Tryd.func15, Tryd.ntmps15
      go_wp2_with (first | (go_at_call 9; refine (c_clip_eq a x HX.out _).mono ?_; rintro e w' ⟨rfl, rfl⟩; clear HX) | (go_at_call 9; refine (c_clip_eq b y HY.out _).mono ?_; rintro e w' ⟨rfl, rfl⟩; clear HY) | (go_at_call 28; refine (c_size _ (by omega) (by omega) _).mono ?_; (first | rw [E1.out] | rw [E2.out]); rintro e w' ⟨rfl, rfl⟩) | (go_at_call 27; refine (c_mul64_small p q m hp1 hq1 HC.out hlt _).mono ?_; rintro e w' ⟨rfl, rfl⟩))
      go_ret
      exact ⟨ret_int (by rw [HE.out]; exact HS.out.1.symm), rfl⟩
    · have HE : Hid (x * y = -m) := by unfold Hid; rw [mul_pn x y p q hp hq s1 s2, hm]
      have d1 : decide (x < 0) = false := by simp; omega
      have d2 : decide (y < 0) = true := by simp; omega
      clear hx hy hp hq hm
      go_enter Tryd.func15, Tryd.ntmps15
      go_wp2_with (first | (go_at_call 9; refine (c_clip_eq a x HX.out _).mono ?_; rintro e w' ⟨rfl, rfl⟩; clear HX) | (go_at_call 9; refine (c_clip_eq b y HY.out _).mono ?_; rintro e w' ⟨rfl, rfl⟩; clear HY) | (go_at_call 28; refine (c_size _ (by omega) (by omega) _).mono ?_; (first | rw [E1.out] | rw [E2.out]); rintro e w' ⟨rfl, rfl⟩) | (go_at_call 27; refine (c_mul64_small p q m hp1 hq1 HC.out hlt _).mono ?_; rintro e w' ⟨rfl, rfl⟩))
      go_ret
      exact ⟨ret_int (by rw [HE.out]; exact HS.out.1.symm), rfl⟩
    · have HE : Hid (x * y = m) := by unfold Hid; rw [mul_pp x y p q hp hq s1 s2, hm]
      have d1 : decide (x < 0) = false := by simp; omega
      have d2 : decide (y < 0) = false := by simp; omega
      clear hx hy hp hq hm
      go_enter Tryd.func15, Tryd.ntmps15
      go_wp2_with (first | (go_at_call 9; refine (c_clip_eq a x HX.out _).mono ?_; rintro e w' ⟨rfl, rfl⟩; clear HX) | (go_at_call 9; refine (c_clip_eq b y HY.out _).mono ?_; rintro e w' ⟨rfl, rfl⟩; clear HY) | (go_at_call 28; refine (c_size _ (by omega) (by omega) _).mono ?_; (first | rw [E1.out] | rw [E2.out]); rintro e w' ⟨rfl, rfl⟩) | (go_at_call 27; refine (c_mul64_small p q m hp1 hq1 HC.out hlt _).mono ?_; rintro e w' ⟨rfl, rfl⟩))
      go_ret
      exact ⟨ret_int (by rw [HE.out]; exact HS.out.2.symm), rfl⟩
  · have hbig : 1000000000000 ≤ p * q := by omega
    have HS : Hid (clip (-m) = -1000000000000 ∧ clip m = 1000000000000) := clip_far m (by omega)
    by_cases s1 : x < 0
    all_goals by_cases s2 : y < 0
    · have HE : Hid (x * y = m) := by unfold Hid; rw [mul_nn x y p q hp hq s1 s2, hm]
      have d1 : decide (x < 0) = true := by simp; omega
      have d2 : decide (y < 0) = true := by simp; omega
      clear hx hy hp hq hm hm0 hlt
      go_enter Tryd.func15, Tryd.ntmps15
      go_wp2_with (first | (go_at_call 9; refine (c_clip_eq a x HX.out _).mono ?_; rintro e w' ⟨rfl, rfl⟩; clear HX) | (go_at_call 9; refine (c_clip_eq b y HY.out _).mono ?_; rintro e w' ⟨rfl, rfl⟩; clear HY) | (go_at_call 28; refine (c_size _ (by omega) (by omega) _).mono ?_; (first | rw [E1.out] | rw [E2.out]); rintro e w' ⟨rfl, rfl⟩) | (go_at_call 27; refine (c_mul64_big p q hp1 hq1 hbig _).mono ?_; rintro e w' ⟨⟨hi, lo, rfl, hi0, lo0, hl⟩, rfl⟩; rcases hl with ⟨rfl, hl⟩ | hl))
      all_goals go_ret
      all_goals exact ⟨ret_int (by rw [HE.out]; exact HS.out.2.symm), rfl⟩
    · have HE : Hid (x * y = -m) := by unfold Hid; rw [mul_np x y p q hp hq s1 s2, hm]
      have d1 : decide (x < 0) = true := by simp; omega
      have d2 : decide (y < 0) = false := by simp; omega
      clear hx hy hp hq hm hm0 hlt
      go_enter Tryd.func15, Tryd.ntmps15
      go_wp2_with (first | (go_at_call 9; refine (c_clip_eq a x HX.out _).mono ?_; rintro e w' ⟨rfl, rfl⟩; clear HX) | (go_at_call 9; refine (c_clip_eq b y HY.out _).mono ?_; rintro e w' ⟨rfl, rfl⟩; clear HY) | (go_at_call 28; refine (c_size _ (by omega) (by omega) _).mono ?_; (first | rw [E1.out] | rw [E2.out]); rintro e w' ⟨rfl, rfl⟩) | (go_at_call 27; refine (c_mul64_big p q hp1 hq1 hbig _).mono ?_; rintro e w' ⟨⟨hi, lo, rfl, hi0, lo0, hl⟩, rfl⟩; rcases hl with ⟨rfl, hl⟩ | hl))
      all_goals go_ret
      all_goals exact ⟨ret_int (by rw [HE.out]; exact HS.out.1.symm), rfl⟩
    · have HE : Hid (x * y = -m) := by unfold Hid; rw [mul_pn x y p q hp hq s1 s2, hm]
      have d1 : decide (x < 0) = false := by simp; omega
      have d2 : decide (y < 0) = true := by simp; omega
      clear hx hy hp hq hm hm0 hlt
      go_enter Tryd.func15, Tryd.ntmps15
      go_wp2_with (first | (go_at_call 9; refine (c_clip_eq a x HX.out _).mono ?_; rintro e w' ⟨rfl, rfl⟩; clear HX) | (go_at_call 9; refine (c_clip_eq b y HY.out _).mono ?_; rintro e w' ⟨rfl, rfl⟩; clear HY) | (go_at_call 28; refine (c_size _ (by omega) (by omega) _).mono ?_; (first | rw [E1.out] | rw [E2.out]); rintro e w' ⟨rfl, rfl⟩) | (go_at_call 27; refine (c_mul64_big p q hp1 hq1 hbig _).mono ?_; rintro e w' ⟨⟨hi, lo, rfl, hi0, lo0, hl⟩, rfl⟩; rcases hl with ⟨rfl, hl⟩ | hl))
      all_goals go_ret
      all_goals exact ⟨ret_int (by rw [HE.out]; exact HS.out.1.symm), rfl⟩
    · have HE : Hid (x * y = m) := by unfold Hid; rw [mul_pp x y p q hp hq s1 s2, hm]
      have d1 : decide (x < 0) = false := by simp; omega
      have d2 : decide (y < 0) = false := by simp; omega
      clear hx hy hp hq hm hm0 hlt
      go_enter Tryd.func15, Tryd.ntmps15
      go_wp2_with (first | (go_at_call 9; refine (c_clip_eq a x HX.out _).mono ?_; rintro e w' ⟨rfl, rfl⟩; clear HX) | (go_at_call 9; refine (c_clip_eq b y HY.out _).mono ?_; rintro e w' ⟨rfl, rfl⟩; clear HY) | (go_at_call 28; refine (c_size _ (by omega) (by omega) _).mono ?_; (first | rw [E1.out] | rw [E2.out]); rintro e w' ⟨rfl, rfl⟩) | (go_at_call 27; refine (c_mul64_big p q hp1 hq1 hbig _).mono ?_; rintro e w' ⟨⟨hi, lo, rfl, hi0, lo0, hl⟩, rfl⟩; rcases hl with ⟨rfl, hl⟩ | hl))
      all_goals go_ret
      all_goals exact ⟨ret_int (by rw [HE.out]; exact HS.out.2.symm), rfl⟩

set_option maxHeartbeats 1600000 in
theorem c_rmul (a b : Int) (w : World) :
    Calls Tryd.prog 17 #[.int .i64 a, .int .i64 b] w fun e w' => e = .returned (.int .i64 (mulI a b)) ∧ w = w' := by
  have ha := clip_bd a
  have hb := clip_bd b
  unfold mulI
  obtain ⟨x, hx⟩ : ∃ x, clip a = x := ⟨_, rfl⟩
  obtain ⟨y, hy⟩ : ∃ y, clip b = y := ⟨_, rfl⟩
  rw [hx] at ha ⊢
  rw [hy] at hb ⊢
  have HX := Lib.hid hx
  have HY := Lib.hid hy
  obtain ⟨p, hp⟩ : ∃ p, x.natAbs = p := ⟨_, rfl⟩
  obtain ⟨q, hq⟩ : ∃ q, y.natAbs = q := ⟨_, rfl⟩
  have E1 : Hid (absI x = p) := (absI_nat x).trans (by rw [hp])
  have E2 : Hid (absI y = q) := (absI_nat y).trans (by rw [hq])
  have hp1 : p ≤ 1000000000000 := by omega
  have hq1 : q ≤ 1000000000000 := by omega
  obtain ⟨m, hm⟩ : ∃ m : Int, ((p * q : Nat) : Int) = m := ⟨_, rfl⟩
  have hm0 : 0 ≤ m := by omega
  by_cases hz1 : x = 0
  · have HE : Hid (clip (x * y) = 0) := by unfold Hid; rw [hz1, Int.zero_mul]; decide
    have b1 : (x == 0) = true := by rw [hz1]; rfl
    clear hx hy hp hq hm hm0 hz1
    go_enter Tryd.func17, Tryd.ntmps17
    go_wp2_with (first | (go_at_call 12; refine (c_rclip_eq a x HX.out _).mono ?_; rintro e w' ⟨rfl, rfl⟩; clear HX) | (go_at_call 12; refine (c_rclip_eq b y HY.out _).mono ?_; rintro e w' ⟨rfl, rfl⟩; clear HY) | (go_at_call 29; refine (c_abs x (by omega) (by omega) _).mono ?_; rw [E1.out]; rintro e w' ⟨rfl, rfl⟩; clear E1) | (go_at_call 29; refine (c_abs y (by omega) (by omega) _).mono ?_; rw [E2.out]; rintro e w' ⟨rfl, rfl⟩; clear E2))
    go_ret
    exact ⟨ret_int HE.out.symm, rfl⟩
  by_cases hz2 : y = 0
  · have HE : Hid (clip (x * y) = 0) := by unfold Hid; rw [hz2, Int.mul_zero]; decide
    have b1 : (x == 0) = false := by rw [beq_eq_false_iff_ne]; exact hz1
    have b2 : (y == 0) = true := by rw [hz2]; rfl
    clear hx hy hp hq hm hm0 hz1 hz2
    go_enter Tryd.func17, Tryd.ntmps17
    go_wp2_with (first | (go_at_call 12; refine (c_rclip_eq a x HX.out _).mono ?_; rintro e w' ⟨rfl, rfl⟩; clear HX) | (go_at_call 12; refine (c_rclip_eq b y HY.out _).mono ?_; rintro e w' ⟨rfl, rfl⟩; clear HY) | (go_at_call 29; refine (c_abs x (by omega) (by omega) _).mono ?_; rw [E1.out]; rintro e w' ⟨rfl, rfl⟩; clear E1) | (go_at_call 29; refine (c_abs y (by omega) (by omega) _).mono ?_; rw [E2.out]; rintro e w' ⟨rfl, rfl⟩; clear E2))
    go_ret
    exact ⟨ret_int HE.out.symm, rfl⟩
  have b1 : (x == 0) = false := by rw [beq_eq_false_iff_ne]; exact hz1
  have b2 : (y == 0) = false := by rw [beq_eq_false_iff_ne]; exact hz2
  have hp0 : 1 ≤ p := by omega
  have ht := div_test p q (by omega)
  have hc : ((q : Int) ≤ 1000000000000 / (p : Int)) ↔ m ≤ 1000000000000 := by
    rw [show (1000000000000 / (p : Int)) = ((1000000000000 / p : Nat) : Int) from by simp, Int.ofNat_le, ht]; omega
  clear hz1 hz2 ht
  by_cases hle : m ≤ 1000000000000
  · have hle2 : (q : Int) ≤ 1000000000000 / (p : Int) := hc.2 hle
    clear hc
    have HS : Hid (clip (-m) = -m ∧ clip m = m) := ⟨clip_in _ (by omega) (by omega), clip_in _ (by omega) (by omega)⟩
    by_cases s1 : x < 0
    all_goals by_cases s2 : y < 0
    · have he : x * y = m := by rw [mul_nn x y p q hp hq s1 s2, hm]
      have HE : Hid (clip (x * y) = x * y) := by unfold Hid; rw [he]; exact HS.out.2
      have hbd : -1000000000000 ≤ x * y ∧ x * y ≤ 1000000000000 := by rw [he]; omega
      clear hx hy hp hq hm he HS
      go_enter Tryd.func17, Tryd.ntmps17
      go_wp2_with (first | (go_at_call 12; refine (c_rclip_eq a x HX.out _).mono ?_; rintro e w' ⟨rfl, rfl⟩; clear HX) | (go_at_call 12; refine (c_rclip_eq b y HY.out _).mono ?_; rintro e w' ⟨rfl, rfl⟩; clear HY) | (go_at_call 29; refine (c_abs x (by omega) (by omega) _).mono ?_; rw [E1.out]; rintro e w' ⟨rfl, rfl⟩; clear E1) | (go_at_call 29; refine (c_abs y (by omega) (by omega) _).mono ?_; rw [E2.out]; rintro e w' ⟨rfl, rfl⟩; clear E2))
      go_ret
      exact ⟨ret_int HE.out.symm, rfl⟩
    · have he : x * y = -m := by rw [mul_np x y p q hp hq s1 s2, hm]
      have HE : Hid (clip (x * y) = x * y) := by unfold Hid; rw [he]; exact HS.out.1
      have hbd : -1000000000000 ≤ x * y ∧ x * y ≤ 1000000000000 := by rw [he]; omega
      clear hx hy hp hq hm he HS
      go_enter Tryd.func17, Tryd.ntmps17
      go_wp2_with (first | (go_at_call 12; refine (c_rclip_eq a x HX.out _).mono ?_; rintro e w' ⟨rfl, rfl⟩; clear HX) | (go_at_call 12; refine (c_rclip_eq b y HY.out _).mono ?_; rintro e w' ⟨rfl, rfl⟩; clear HY) | (go_at_call 29; refine (c_abs x (by omega) (by omega) _).mono ?_; rw [E1.out]; rintro e w' ⟨rfl, rfl⟩; clear E1) | (go_at_call 29; refine (c_abs y (by omega) (by omega) _).mono ?_; rw [E2.out]; rintro e w' ⟨rfl, rfl⟩; clear E2))
      go_ret
      exact ⟨ret_int HE.out.symm, rfl⟩
    · have he : x * y = -m := by rw [mul_pn x y p q hp hq s1 s2, hm]
      have HE : Hid (clip (x * y) = x * y) := by unfold Hid; rw [he]; exact HS.out.1
      have hbd : -1000000000000 ≤ x * y ∧ x * y ≤ 1000000000000 := by rw [he]; omega
      clear hx hy hp hq hm he HS
      go_enter Tryd.func17, Tryd.ntmps17
      go_wp2_with (first | (go_at_call 12; refine (c_rclip_eq a x HX.out _).mono ?_; rintro e w' ⟨rfl, rfl⟩; clear HX) | (go_at_call 12; refine (c_rclip_eq b y HY.out _).mono ?_; rintro e w' ⟨rfl, rfl⟩; clear HY) | (go_at_call 29; refine (c_abs x (by omega) (by omega) _).mono ?_; rw [E1.out]; rintro e w' ⟨rfl, rfl⟩; clear E1) | (go_at_call 29; refine (c_abs y (by omega) (by omega) _).mono ?_; rw [E2.out]; rintro e w' ⟨rfl, rfl⟩; clear E2))
      go_ret
      exact ⟨ret_int HE.out.symm, rfl⟩
    · have he : x * y = m := by rw [mul_pp x y p q hp hq s1 s2, hm]
      have HE : Hid (clip (x * y) = x * y) := by unfold Hid; rw [he]; exact HS.out.2
      have hbd : -1000000000000 ≤ x * y ∧ x * y ≤ 1000000000000 := by rw [he]; omega
      clear hx hy hp hq hm he HS
      go_enter Tryd.func17, Tryd.ntmps17
      go_wp2_with (first | (go_at_call 12; refine (c_rclip_eq a x HX.out _).mono ?_; rintro e w' ⟨rfl, rfl⟩; clear HX) | (go_at_call 12; refine (c_rclip_eq b y HY.out _).mono ?_; rintro e w' ⟨rfl, rfl⟩; clear HY) | (go_at_call 29; refine (c_abs x (by omega) (by omega) _).mono ?_; rw [E1.out]; rintro e w' ⟨rfl, rfl⟩; clear E1) | (go_at_call 29; refine (c_abs y (by omega) (by omega) _).mono ?_; rw [E2.out]; rintro e w' ⟨rfl, rfl⟩; clear E2))
      go_ret
      exact ⟨ret_int HE.out.symm, rfl⟩
  · have hle2 : ¬ (q : Int) ≤ 1000000000000 / (p : Int) := fun h => hle (hc.1 h)
    clear hc
    have HS : Hid (clip (-m) = -1000000000000 ∧ clip m = 1000000000000) := clip_far m (by omega)
    by_cases s1 : x < 0
    all_goals by_cases s2 : y < 0
    · have HE : Hid (x * y = m) := by unfold Hid; rw [mul_nn x y p q hp hq s1 s2, hm]
      have d1 : decide (x < 0) = true := by simp; omega
      have d2 : decide (y < 0) = true := by simp; omega
      clear hx hy hp hq hm
      go_enter Tryd.func17, Tryd.ntmps17
      go_wp2_with (first | (go_at_call 12; refine (c_rclip_eq a x HX.out _).mono ?_; rintro e w' ⟨rfl, rfl⟩; clear HX) | (go_at_call 12; refine (c_rclip_eq b y HY.out _).mono ?_; rintro e w' ⟨rfl, rfl⟩; clear HY) | (go_at_call 29; refine (c_abs x (by omega) (by omega) _).mono ?_; rw [E1.out]; rintro e w' ⟨rfl, rfl⟩; clear E1) | (go_at_call 29; refine (c_abs y (by omega) (by omega) _).mono ?_; rw [E2.out]; rintro e w' ⟨rfl, rfl⟩; clear E2))
      go_ret
      exact ⟨ret_int (by rw [HE.out]; exact HS.out.2.symm), rfl⟩
    · have HE : Hid (x * y = -m) := by unfold Hid; rw [mul_np x y p q hp hq s1 s2, hm]
      have d1 : decide (x < 0) = true := by simp; omega
      have d2 : decide (y < 0) = false := by simp; omega
      clear hx hy hp hq hm
      go_enter Tryd.func17, Tryd.ntmps17
      go_wp2_with (first | (go_at_call 12; refine (c_rclip_eq a x HX.out _).mono ?_; rintro e w' ⟨rfl, rfl⟩; clear HX) | (go_at_call 12; refine (c_rclip_eq b y HY.out _).mono ?_; rintro e w' ⟨rfl, rfl⟩; clear HY) | (go_at_call 29; refine (c_abs x (by omega) (by omega) _).mono ?_; rw [E1.out]; rintro e w' ⟨rfl, rfl⟩; clear E1) | (go_at_call 29; refine (c_abs y (by omega) (by omega) _).mono ?_; rw [E2.out]; rintro e w' ⟨rfl, rfl⟩; clear E2))
      go_ret
      exact ⟨ret_int (by rw [HE.out]; exact HS.out.1.symm), rfl⟩
    · have HE : Hid (x * y = -m) := by unfold Hid; rw [mul_pn x y p q hp hq s1 s2, hm]
      have d1 : decide (x < 0) = false := by simp; omega
      have d2 : decide (y < 0) = true := by simp; omega
      clear hx hy hp hq hm
      go_enter Tryd.func17, Tryd.ntmps17
      go_wp2_with (first | (go_at_call 12; refine (c_rclip_eq a x HX.out _).mono ?_; rintro e w' ⟨rfl, rfl⟩; clear HX) | (go_at_call 12; refine (c_rclip_eq b y HY.out _).mono ?_; rintro e w' ⟨rfl, rfl⟩; clear HY) | (go_at_call 29; refine (c_abs x (by omega) (by omega) _).mono ?_; rw [E1.out]; rintro e w' ⟨rfl, rfl⟩; clear E1) | (go_at_call 29; refine (c_abs y (by omega) (by omega) _).mono ?_; rw [E2.out]; rintro e w' ⟨rfl, rfl⟩; clear E2))
      go_ret
      exact ⟨ret_int (by rw [HE.out]; exact HS.out.1.symm), rfl⟩
    · have HE : Hid (x * y = m) := by unfold Hid; rw [mul_pp x y p q hp hq s1 s2, hm]
      have d1 : decide (x < 0) = false := by simp; omega
      have d2 : decide (y < 0) = false := by simp; omega
      clear hx hy hp hq hm
      go_enter Tryd.func17, Tryd.ntmps17
      go_wp2_with (first | (go_at_call 12; refine (c_rclip_eq a x HX.out _).mono ?_; rintro e w' ⟨rfl, rfl⟩; clear HX) | (go_at_call 12; refine (c_rclip_eq b y HY.out _).mono ?_; rintro e w' ⟨rfl, rfl⟩; clear HY) | (go_at_call 29; refine (c_abs x (by omega) (by omega) _).mono ?_; rw [E1.out]; rintro e w' ⟨rfl, rfl⟩; clear E1) | (go_at_call 29; refine (c_abs y (by omega) (by omega) _).mono ?_; rw [E2.out]; rintro e w' ⟨rfl, rfl⟩; clear E2))
      go_ret
      exact ⟨ret_int (by rw [HE.out]; exact HS.out.2.symm), rfl⟩
end Go.Proofs.YtmmebpagmknmaaaDoor
