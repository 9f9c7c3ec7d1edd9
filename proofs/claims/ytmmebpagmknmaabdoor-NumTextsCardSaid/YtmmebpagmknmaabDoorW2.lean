/-
  The contracts of Div, Mod, Gcd, Root of num, and of Div, Mod, Gcd of simulatorref01.
-/
import Derived.Test.YtmmebpagmknmaabDoorW1
import Derived.BigQuiet
import Derived.Lib.Hide
import Derived.Deep.QuietTactic
namespace Go.Proofs.YtmmebpagmknmaabDoor
open Go.RowKit

theorem tests_ne {p : Bool} {x : Int} (h : (x != 0) = true ∧ p = true) : ¬ x = 0 ∧ p = true := ⟨by simpa using h.1, h.2⟩

theorem c_div (a b : Int) (w : World) :
    Calls Tryd.prog 15 #[.int .i64 a, .int .i64 b] w fun e w' => e = .returned (.int .i64 (divI a b)) ∧ w = w' := by
  have ha := clip_bd a
  have hb := clip_bd b
  unfold divI
  obtain ⟨x, hx⟩ : ∃ x, clip a = x := ⟨_, rfl⟩
  obtain ⟨y, hy'⟩ : ∃ y, clip b = y := ⟨_, rfl⟩
  rw [hx] at ha ⊢
  rw [hy'] at hb ⊢
  have HX := Lib.hid hx
  have HY := Lib.hid hy'
  clear hx hy'
  have hq := tdiv_bd x y ha.1 ha.2
  by_cases hy : y = 0
  · have HZ := Lib.hid (quo_zero x y hy)
    clear hq
    go_enter Tryd.func15, Tryd.ntmps15
    go_wp2_with (first | (go_at_call 19; refine (c_clip_eq a x HX.out _).mono ?_; rintro e w' ⟨rfl, rfl⟩; clear HX) | (go_at_call 19; refine (c_clip_eq b y HY.out _).mono ?_; rintro e w' ⟨rfl, rfl⟩; clear HY))
    go_ret
    exact ⟨ret_int HZ.out.symm, rfl⟩
  · by_cases hm : x.tmod y = 0
    · have HE := Lib.hid (quo_exact x y hy hm)
      have hm1 : (x.tmod y != 0) = false := by simp [hm]
      have hm2 : (x % y != 0) = false := by have := Int.dvd_iff_tmod_eq_zero.2 hm; simp [Int.emod_eq_zero_of_dvd this]
      clear hm
      go_enter Tryd.func15, Tryd.ntmps15
      go_wp2_with (first | (go_at_call 19; refine (c_clip_eq a x HX.out _).mono ?_; rintro e w' ⟨rfl, rfl⟩; clear HX) | (go_at_call 19; refine (c_clip_eq b y HY.out _).mono ?_; rintro e w' ⟨rfl, rfl⟩; clear HY))
      go_ret
      exact ⟨ret_int HE.out.symm, rfl⟩
    · have h1 := tdiv_one x y hy hm ha.1 ha.2
      have hm1 : (x.tmod y != 0) = true := by simp [hm]
      have hm2 : (x % y != 0) = true := by
        have : ¬ y ∣ x := fun h => hm (Int.dvd_iff_tmod_eq_zero.1 h)
        simp only [bne_iff_ne]; exact fun h => this (Int.dvd_of_emod_eq_zero h)
      by_cases s1 : x < 0
      all_goals by_cases s2 : y < 0
      · have HE := Lib.hid (quo_same x y hy hm (by omega))
        have d1 : decide (x < 0) = true := by simp; omega
        have d2 : decide (y < 0) = true := by simp; omega
        clear hm
        go_enter Tryd.func15, Tryd.ntmps15
        go_wp2_with (first | (go_at_call 19; refine (c_clip_eq a x HX.out _).mono ?_; rintro e w' ⟨rfl, rfl⟩; clear HX) | (go_at_call 19; refine (c_clip_eq b y HY.out _).mono ?_; rintro e w' ⟨rfl, rfl⟩; clear HY))
        go_ret
        exact ⟨ret_int HE.out.symm, rfl⟩
      · have HE := Lib.hid (quo_less x y hy hm (by omega))
        have d1 : decide (x < 0) = true := by simp; omega
        have d2 : decide (y < 0) = false := by simp; omega
        clear hm
        go_enter Tryd.func15, Tryd.ntmps15
        go_wp2_with (first | (go_at_call 19; refine (c_clip_eq a x HX.out _).mono ?_; rintro e w' ⟨rfl, rfl⟩; clear HX) | (go_at_call 19; refine (c_clip_eq b y HY.out _).mono ?_; rintro e w' ⟨rfl, rfl⟩; clear HY))
        go_ret
        exact ⟨ret_int HE.out.symm, rfl⟩
      · have HE := Lib.hid (quo_less x y hy hm (by omega))
        have d1 : decide (x < 0) = false := by simp; omega
        have d2 : decide (y < 0) = true := by simp; omega
        clear hm
        go_enter Tryd.func15, Tryd.ntmps15
        go_wp2_with (first | (go_at_call 19; refine (c_clip_eq a x HX.out _).mono ?_; rintro e w' ⟨rfl, rfl⟩; clear HX) | (go_at_call 19; refine (c_clip_eq b y HY.out _).mono ?_; rintro e w' ⟨rfl, rfl⟩; clear HY))
        go_ret
        exact ⟨ret_int HE.out.symm, rfl⟩
      · have HE := Lib.hid (quo_same x y hy hm (by omega))
        have d1 : decide (x < 0) = false := by simp; omega
        have d2 : decide (y < 0) = false := by simp; omega
        clear hm
        go_enter Tryd.func15, Tryd.ntmps15
        go_wp2_with (first | (go_at_call 19; refine (c_clip_eq a x HX.out _).mono ?_; rintro e w' ⟨rfl, rfl⟩; clear HX) | (go_at_call 19; refine (c_clip_eq b y HY.out _).mono ?_; rintro e w' ⟨rfl, rfl⟩; clear HY))
        go_ret
        exact ⟨ret_int HE.out.symm, rfl⟩

set_option maxHeartbeats 400000 in
theorem c_root (n : Int) (h1 : 1 ≤ n) (h2 : n ≤ 9223372036854775807) (w : World) :
    Calls Tryd.prog 18 #[.int .i64 n] w fun e w' => (∃ r : Int, e = .returned (.int .i64 r) ∧ 0 ≤ r ∧ r ≤ 4294967295 ∧ r * r ≤ n ∧ n < (r + 1) * (r + 1)) ∧ w = w' := by
  go_enter Tryd.func18, Tryd.ntmps18
  go_wp2
  go_loop [3, 4] (fun rv bv => ∃ (r bit : Int), rv = .int .i64 r ∧ bv = .int .i64 bit ∧ RootInv n r bit) (fun _ b => (intOf b).toNat)
  case atStart => exact ⟨0, _, rfl, rfl, RootInv.start n h1 h2⟩
  case round =>
    obtain ⟨r, bit, rfl, rfl, hI⟩ := hrel
    have hbd := hI.bd
    by_cases hlt : 0 < bit
    · by_cases ht : r + bit ≤ n / (r + bit)
      · have hN := hI.keep hlt ht
        clear hI
        go_wp2
        exact ⟨⟨_, _, rfl, rfl, hN⟩, by simp [intOf]; omega⟩
      · have hN := hI.drop hlt ht
        clear hI
        go_wp2
        exact ⟨⟨_, _, rfl, rfl, hN⟩, by simp [intOf]; omega⟩
    · have hN := hI.done hlt
      clear hI
      go_wp2
      go_ret
      exact ⟨⟨r, rfl, hN⟩, rfl⟩

theorem c_root0 (n : Int) (h1 : n ≤ 0) (w : World) :
    Calls Tryd.prog 18 #[.int .i64 n] w fun e w' => e = .returned (.int .i64 0) ∧ w = w' := by
  go_enter Tryd.func18, Tryd.ntmps18
  go_wp2
  go_ret
  exact ⟨rfl, rfl⟩

theorem c_mod (a b : Int) (w : World) :
    Calls Tryd.prog 16 #[.int .i64 a, .int .i64 b] w fun e w' => e = .returned (.int .i64 (modI a b)) ∧ w = w' := by
  have ha := clip_bd a
  have hb := clip_bd b
  have hM := mod_bd (clip a) (clip b) ha.1 ha.2 hb.1 hb.2
  unfold modI divI
  go_enter Tryd.func16, Tryd.ntmps16
  go_wp2_with (first | (go_at_call 19; refine (c_clip _ _).mono ?_; rintro e w' ⟨rfl, rfl⟩) | (go_at_call 15; refine (c_div _ _ _).mono ?_; rw [divI, clip_clip, clip_clip]; rintro e w' ⟨rfl, rfl⟩))
  go_ret
  exact ⟨rfl, rfl⟩
end Go.Proofs.YtmmebpagmknmaabDoor
