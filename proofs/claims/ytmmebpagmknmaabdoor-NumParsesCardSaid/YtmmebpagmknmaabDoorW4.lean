/-
  The contracts of Mul of num and of simulatorref01.
-/
import Derived.Test.YtmmebpagmknmaabDoorW3
namespace Go.Proofs.YtmmebpagmknmaabDoor
open Go.RowKit

theorem c_mul64_small (p q : Nat) (m : Int) (hp : p ≤ 1000000000000) (hq : q ≤ 1000000000000) (hm : ((p * q : Nat) : Int) = m) (h : m < 1000000000000) (w : World) :
    Calls Tryd.prog 24 #[.int .u64 p, .int .u64 q] w fun e w' => e = .returned (.tuple #[.int .u64 0, .int .u64 m]) ∧ w = w' := by
  refine (Tryd.bits_Mul64 p q (by omega) (by omega) w).mono ?_
  rintro e w' ⟨rfl, rfl⟩
  subst hm
  have h' : p * q < 1000000000000 := by omega
  generalize p * q = n at *
  refine ⟨?_, rfl⟩
  rw [Nat.div_eq_of_lt (by omega), Nat.mod_eq_of_lt (by omega)]; rfl
theorem c_mul64_big (p q : Nat) (hp : p ≤ 1000000000000) (hq : q ≤ 1000000000000) (h : 1000000000000 ≤ p * q) (w : World) :
    Calls Tryd.prog 24 #[.int .u64 p, .int .u64 q] w fun e w' => (∃ hi lo : Int, e = .returned (.tuple #[.int .u64 hi, .int .u64 lo]) ∧ 0 ≤ hi ∧ 0 ≤ lo ∧ ((hi = 0 ∧ 1000000000000 ≤ lo) ∨ (hi == 0) = false)) ∧ w = w' := by
  refine (Tryd.bits_Mul64 p q (by omega) (by omega) w).mono ?_
  rintro e w' ⟨rfl, rfl⟩
  refine ⟨⟨_, _, rfl, by omega, by omega, ?_⟩, rfl⟩
  generalize p * q = n at *
  by_cases h0 : n / 18446744073709551616 = 0
  · exact .inl (by omega)
  · exact .inr (by rw [beq_eq_false_iff_ne]; omega)

theorem clip_neg (m : Int) (h0 : 0 ≤ m) (h : m < 1000000000000) : clip (-m) = -m ∧ clip m = m := ⟨clip_in _ (by omega) (by omega), clip_in _ (by omega) (by omega)⟩
theorem clip_far (m : Int) (h : 1000000000000 ≤ m) : clip (-m) = -1000000000000 ∧ clip m = 1000000000000 := by unfold clip; omega

set_option maxHeartbeats 1600000 in
theorem c_mul (a b : Int) (w : World) :
    Calls Tryd.prog 14 #[.int .i64 a, .int .i64 b] w fun e w' => e = .returned (.int .i64 (mulI a b)) ∧ w = w' := by
  have ha := clip_bd a
  have hb := clip_bd b
  unfold mulI
  obtain ⟨x, hx⟩ : ∃ x, clip a = x := ⟨_, rfl⟩
  obtain ⟨y, hy⟩ : ∃ y, clip b = y := ⟨_, rfl⟩
  rw [hx] at ha ⊢
  rw [hy] at hb ⊢
  have HX := Lib.hid hx
  have HY := Lib.hid hy
  obtain ⟨p, hp⟩ : ∃ p, x.natAbs = p := ⟨_, rfl⟩
  obtain ⟨q, hq⟩ : ∃ q, y.natAbs = q := ⟨_, rfl⟩
  have E1 : Hid (absI x = p) := (absI_nat x).trans (by rw [hp])
  have E2 : Hid (absI y = q) := (absI_nat y).trans (by rw [hq])
  have hp1 : p ≤ 1000000000000 := by omega
  have hq1 : q ≤ 1000000000000 := by omega
  obtain ⟨m, hm⟩ : ∃ m : Int, ((p * q : Nat) : Int) = m := ⟨_, rfl⟩
  have hm0 : 0 ≤ m := by omega
  by_cases hlt : m < 1000000000000
  · have HC : Hid (((p * q : Nat) : Int) = m) := hm
    have HS : Hid (clip (-m) = -m ∧ clip m = m) := clip_neg m hm0 hlt
    by_cases s1 : x < 0
    all_goals by_cases s2 : y < 0
    · have HE : Hid (x * y = m) := by unfold Hid; rw [mul_nn x y p q hp hq s1 s2, hm]
      have d1 : decide (x < 0) = true := by simp; omega
      have d2 : decide (y < 0) = true := by simp; omega
      clear hx hy hp hq hm
      go_enter Tryd.func14, Tryd.ntmps14
      go_wp2_with (first | (go_at_call 19; refine (c_clip_eq a x HX.out _).mono ?_; rintro e w' ⟨rfl, rfl⟩; clear HX) | (go_at_call 19; refine (c_clip_eq b y HY.out _).mono ?_; rintro e w' ⟨rfl, rfl⟩; clear HY) | (go_at_call 25; refine (c_size _ (by omega) (by omega) _).mono ?_; (first | rw [E1.out] | rw [E2.out]); rintro e w' ⟨rfl, rfl⟩) | (go_at_call 24; refine (c_mul64_small p q m hp1 hq1 HC.out hlt _).mono ?_; rintro e w' ⟨rfl, rfl⟩))
      go_ret
      exact ⟨ret_int (by rw [HE.out]; exact HS.out.2.symm), rfl⟩
    · have HE : Hid (x * y = -m) := by unfold Hid; rw [mul_np x y p q hp hq s1 s2, hm]
      have d1 : decide (x < 0) = true := by simp; omega
      have d2 : decide (y < 0) = false := by simp; omega
      clear hx hy hp hq hm
      go_enter Tryd.func14, Tryd.ntmps14
      go_wp2_with (first | (go_at_call 19; refine (c_clip_eq a x HX.out _).mono ?_; rintro e w' ⟨rfl, rfl⟩; clear HX) | (go_at_call 19; refine (c_clip_eq b y HY.out _).mono ?_; rintro e w' ⟨rfl, rfl⟩; clear HY) | (go_at_call 25; refine (c_size _ (by omega) (by omega) _).mono ?_; (first | rw [E1.out] | rw [E2.out]); rintro e w' ⟨rfl, rfl⟩) | (go_at_call 24; refine (c_mul64_small p q m hp1 hq1 HC.out hlt _).mono ?_; rintro e w' ⟨rfl, rfl⟩))
      go_ret
      exact ⟨ret_int (by rw [HE.out]; exact HS.out.1.symm), rfl⟩
    · have HE : Hid (x * y = -m) := by unfold Hid; rw [mul_pn x y p q hp hq s1 s2, hm]
      have d1 : decide (x < 0) = false := by simp; omega
      have d2 : decide (y < 0) = true := by simp; omega
      clear hx hy hp hq hm
      go_enter Tryd.func14, Tryd.ntmps14
      go_wp2_with (first | (go_at_call 19; refine (c_clip_eq a x HX.out _).mono ?_; rintro e w' ⟨rfl, rfl⟩; clear HX) | (go_at_call 19; refine (c_clip_eq b y HY.out _).mono ?_; rintro e w' ⟨rfl, rfl⟩; clear HY) | (go_at_call 25; refine (c_size _ (by omega) (by omega) _).mono ?_; (first | rw [E1.out] | rw [E2.out]); rintro e w' ⟨rfl, rfl⟩) | (go_at_call 24; refine (c_mul64_small p q m hp1 hq1 HC.out hlt _).mono ?_; rintro e w' ⟨rfl, rfl⟩))
      go_ret
      exact ⟨ret_int (by rw [HE.out]; exact HS.out.1.symm), rfl⟩
    · have HE : Hid (x * y = m) := by unfold Hid; rw [mul_pp x y p q hp hq s1 s2, hm]
      have d1 : decide (x < 0) = false := by simp; omega
      have d2 : decide (y < 0) = false := by simp; omega
      clear hx hy hp hq hm
      go_enter Tryd.func14, Tryd.ntmps14
      go_wp2_with (first | (go_at_call 19; refine (c_clip_eq a x HX.out _).mono ?_; rintro e w' ⟨rfl, rfl⟩; clear HX) | (go_at_call 19; refine (c_clip_eq b y HY.out _).mono ?_; rintro e w' ⟨rfl, rfl⟩; clear HY) | (go_at_call 25; refine (c_size _ (by omega) (by omega) _).mono ?_; (first | rw [E1.out] | rw [E2.out]); rintro e w' ⟨rfl, rfl⟩) | (go_at_call 24; refine (c_mul64_small p q m hp1 hq1 HC.out hlt _).mono ?_; rintro e w' ⟨rfl, rfl⟩))
      go_ret
      exact ⟨ret_int (by rw [HE.out]; exact HS.out.2.symm), rfl⟩
  · have hbig : 1000000000000 ≤ p * q := by omega
    have HS : Hid (clip (-m) = -1000000000000 ∧ clip m = 1000000000000) := clip_far m (by omega)
    by_cases s1 : x < 0
    all_goals by_cases s2 : y < 0
    · have HE : Hid (x * y = m) := by unfold Hid; rw [mul_nn x y p q hp hq s1 s2, hm]
      have d1 : decide (x < 0) = true := by simp; omega
      have d2 : decide (y < 0) = true := by simp; omega
      clear hx hy hp hq hm hm0 hlt
      go_enter Tryd.func14, Tryd.ntmps14
      go_wp2_with (first | (go_at_call 19; refine (c_clip_eq a x HX.out _).mono ?_; rintro e w' ⟨rfl, rfl⟩; clear HX) | (go_at_call 19; refine (c_clip_eq b y HY.out _).mono ?_; rintro e w' ⟨rfl, rfl⟩; clear HY) | (go_at_call 25; refine (c_size _ (by omega) (by omega) _).mono ?_; (first | rw [E1.out] | rw [E2.out]); rintro e w' ⟨rfl, rfl⟩) | (go_at_call 24; refine (c_mul64_big p q hp1 hq1 hbig _).mono ?_; rintro e w' ⟨⟨hi, lo, rfl, hi0, lo0, hl⟩, rfl⟩; rcases hl with ⟨rfl, hl⟩ | hl))
      all_goals go_ret
      all_goals exact ⟨ret_int (by rw [HE.out]; exact HS.out.2.symm), rfl⟩
    · have HE : Hid (x * y = -m) := by unfold Hid; rw [mul_np x y p q hp hq s1 s2, hm]
      have d1 : decide (x < 0) = true := by simp; omega
      have d2 : decide (y < 0) = false := by simp; omega
      clear hx hy hp hq hm hm0 hlt
      go_enter Tryd.func14, Tryd.ntmps14
      go_wp2_with (first | (go_at_call 19; refine (c_clip_eq a x HX.out _).mono ?_; rintro e w' ⟨rfl, rfl⟩; clear HX) | (go_at_call 19; refine (c_clip_eq b y HY.out _).mono ?_; rintro e w' ⟨rfl, rfl⟩; clear HY) | (go_at_call 25; refine (c_size _ (by omega) (by omega) _).mono ?_; (first | rw [E1.out] | rw [E2.out]); rintro e w' ⟨rfl, rfl⟩) | (go_at_call 24; refine (c_mul64_big p q hp1 hq1 hbig _).mono ?_; rintro e w' ⟨⟨hi, lo, rfl, hi0, lo0, hl⟩, rfl⟩; rcases hl with ⟨rfl, hl⟩ | hl))
      all_goals go_ret
      all_goals exact ⟨ret_int (by rw [HE.out]; exact HS.out.1.symm), rfl⟩
    · have HE : Hid (x * y = -m) := by unfold Hid; rw [mul_pn x y p q hp hq s1 s2, hm]
      have d1 : decide (x < 0) = false := by simp; omega
      have d2 : decide (y < 0) = true := by simp; omega
      clear hx hy hp hq hm hm0 hlt
      go_enter Tryd.func14, Tryd.ntmps14
      go_wp2_with (first | (go_at_call 19; refine (c_clip_eq a x HX.out _).mono ?_; rintro e w' ⟨rfl, rfl⟩; clear HX) | (go_at_call 19; refine (c_clip_eq b y HY.out _).mono ?_; rintro e w' ⟨rfl, rfl⟩; clear HY) | (go_at_call 25; refine (c_size _ (by omega) (by omega) _).mono ?_; (first | rw [E1.out] | rw [E2.out]); rintro e w' ⟨rfl, rfl⟩) | (go_at_call 24; refine (c_mul64_big p q hp1 hq1 hbig _).mono ?_; rintro e w' ⟨⟨hi, lo, rfl, hi0, lo0, hl⟩, rfl⟩; rcases hl with ⟨rfl, hl⟩ | hl))
      all_goals go_ret
      all_goals exact ⟨ret_int (by rw [HE.out]; exact HS.out.1.symm), rfl⟩
    · have HE : Hid (x * y = m) := by unfold Hid; rw [mul_pp x y p q hp hq s1 s2, hm]
      have d1 : decide (x < 0) = false := by simp; omega
      have d2 : decide (y < 0) = false := by simp; omega
      clear hx hy hp hq hm hm0 hlt
      go_enter Tryd.func14, Tryd.ntmps14
      go_wp2_with (first | (go_at_call 19; refine (c_clip_eq a x HX.out _).mono ?_; rintro e w' ⟨rfl, rfl⟩; clear HX) | (go_at_call 19; refine (c_clip_eq b y HY.out _).mono ?_; rintro e w' ⟨rfl, rfl⟩; clear HY) | (go_at_call 25; refine (c_size _ (by omega) (by omega) _).mono ?_; (first | rw [E1.out] | rw [E2.out]); rintro e w' ⟨rfl, rfl⟩) | (go_at_call 24; refine (c_mul64_big p q hp1 hq1 hbig _).mono ?_; rintro e w' ⟨⟨hi, lo, rfl, hi0, lo0, hl⟩, rfl⟩; rcases hl with ⟨rfl, hl⟩ | hl))
      all_goals go_ret
      all_goals exact ⟨ret_int (by rw [HE.out]; exact HS.out.2.symm), rfl⟩

end Go.Proofs.YtmmebpagmknmaabDoor
