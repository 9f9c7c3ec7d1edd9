/-
  The contract of awake of chapter 01's laws: the examples hold.
-/
import Derived.Test.YtmmebpagmknmaabDoorW4
import Derived.Test.YtmmebpagmknmaabDoorW5
namespace Go.Proofs.YtmmebpagmknmaabDoor
open Go.RowKit

theorem root99 {r : Int} (h0 : 0 ≤ r) (h1 : r * r ≤ 99) (h2 : 99 < (r + 1) * (r + 1)) : r = 9 := by
  have hlt : r < 10 := by
    by_cases h : r < 10
    · exact h
    · have : 10 * 10 ≤ r * r := Int.mul_le_mul (by omega) (by omega) (by omega) (by omega)
      omega
  have : r = 0 ∨ r = 1 ∨ r = 2 ∨ r = 3 ∨ r = 4 ∨ r = 5 ∨ r = 6 ∨ r = 7 ∨ r = 8 ∨ r = 9 := by omega
  rcases this with rfl | rfl | rfl | rfl | rfl | rfl | rfl | rfl | rfl | rfl <;> first | rfl | (exfalso; omega)

theorem p_m40 : parseI (⟨#[45, 52, 48]⟩ : ByteArray).data.toList = (-40, true) := by decide +kernel
theorem p_04 : parseI (⟨#[48, 52]⟩ : ByteArray).data.toList = (0, false) := by decide +kernel

set_option maxHeartbeats 800000 in
theorem c_awake (w : World) (hL : Laid w) :
    Calls Tryd.prog 9 #[] w fun e w' => e = .returned (.bool true) ∧ Below w.heap.size w w' := by
  have HL := Lib.hid hL
  clear hL
  go_enter Tryd.func9, Tryd.ntmps9
  go_wp2_with fail
  refine (c_parse _ (by decide) _ HL.out).mono ?_
  rw [p_m40]
  rintro e w1 ⟨rfl, hb1⟩
  have HL1 := Lib.hid (HL.out.below hb1)
  go_wp2_with fail
  refine (c_parse _ (by decide) _ HL1.out).mono ?_
  rw [p_04]
  rintro e w2 ⟨rfl, hb2⟩
  have HL2 := Lib.hid (HL1.out.below hb2)
  go_wp2_with (first
    | (go_at_call 13; refine (c_add 7 (-10) _).mono ?_; rw [show addI 7 (-10) = -3 from by decide]; rintro e w' ⟨rfl, rfl⟩)
    | (go_at_call 14; refine (c_mul (-3) 4 _).mono ?_; rw [show mulI (-3) 4 = -12 from by decide]; rintro e w' ⟨rfl, rfl⟩)
    | (go_at_call 15; refine (c_div (-7) 2 _).mono ?_; rw [show divI (-7) 2 = -4 from by decide]; rintro e w' ⟨rfl, rfl⟩)
    | (go_at_call 16; refine (c_mod (-7) 2 _).mono ?_; rw [show modI (-7) 2 = 1 from by decide]; rintro e w' ⟨rfl, rfl⟩)
    | (go_at_call 17; refine (c_gcd 12 (-18) _).mono ?_; rw [show gcdI 12 (-18) = 6 from by decide]; rintro e w3 ⟨rfl, hb3⟩)
    | (go_at_call 18; refine (c_root 99 (by omega) (by omega) _).mono ?_; rintro e w' ⟨⟨r, rfl, r0, _, r1, r2⟩, rfl⟩; obtain rfl := root99 r0 r1 r2)
    | (go_at_call 5; refine (c_text (-40) (by omega) (by omega) _ (HL2.out.below hb3)).mono ?_; rw [show (Lib.itoa (-40)).toArray = #[45, 52, 48] from by decide +kernel]; rintro e w4 ⟨rfl, hb4⟩)
    | (go_at_call 8; refine (c_in 1000000000000 _).mono ?_; rw [show inB 1000000000000 = true from by decide]; rintro e w' ⟨rfl, rfl⟩)
    | (go_at_call 8; refine (c_in (-1000000000001) _).mono ?_; rw [show inB (-1000000000001) = false from by decide]; rintro e w' ⟨rfl, rfl⟩)
    | (go_at_call 19; refine (c_clip 2000000000000 _).mono ?_; rw [show clip 2000000000000 = 1000000000000 from by decide]; rintro e w' ⟨rfl, rfl⟩))
  go_ret
  exact ⟨rfl, hb1.trans ((hb2.trans ((hb3.trans (hb4.mono hb3.size)).mono hb2.size)).mono hb1.size)⟩
end Go.Proofs.YtmmebpagmknmaabDoor
