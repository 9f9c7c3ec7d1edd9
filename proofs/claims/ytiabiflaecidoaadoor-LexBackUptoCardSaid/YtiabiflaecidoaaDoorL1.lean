/-
  The contracts of the small functions of lex.
-/
import Derived.Test.YtiabiflaecidoaaDoorL0
import Derived.Test.YtiabiflaecidoaaDoorX1
namespace Go.Proofs.YtiabiflaecidoaaDoor
open Go.RowKit

theorem c_letter (c : UInt8) (w : World) :
    Calls Tryd.prog 39 #[.int .u8 (c.toNat : Int)] w fun e w' => e = .returned (.bool (isLetter c)) ∧ w = w' := by
  go_enter Tryd.func39, Tryd.ntmps39
  go_wp2
  all_goals go_ret
  all_goals refine ⟨ret_bool ?_, rfl⟩
  all_goals (simp [isLetter]; try omega)
theorem c_digit (c : UInt8) (w : World) :
    Calls Tryd.prog 42 #[.int .u8 (c.toNat : Int)] w fun e w' => e = .returned (.bool (isDigit c)) ∧ w = w' := by
  go_enter Tryd.func42, Tryd.ntmps42
  go_wp2
  all_goals go_ret
  all_goals refine ⟨ret_bool ?_, rfl⟩
  all_goals (simp [isDigit]; try omega)
theorem c_inner (c : UInt8) (w : World) :
    Calls Tryd.prog 41 #[.int .u8 (c.toNat : Int)] w fun e w' => e = .returned (.bool (isInner c)) ∧ w = w' := by
  have HI : Hid (isInner c = (isLetter c || isDigit c || (c.toNat : Int) == 95)) := rfl
  obtain ⟨i, hi⟩ : ∃ i, isInner c = i := ⟨_, rfl⟩
  rw [hi] at HI ⊢
  clear hi
  cases h1 : isLetter c <;> cases h2 : isDigit c <;> cases h3 : ((c.toNat : Int) == 95)
  all_goals
    go_enter Tryd.func41, Tryd.ntmps41
    go_wp2_with (first | (go_at_call 39; refine (c_letter c _).mono ?_; rw [h1]; rintro e w' ⟨rfl, rfl⟩) | (go_at_call 42; refine (c_digit c _).mono ?_; rw [h2]; rintro e w' ⟨rfl, rfl⟩))
    go_ret
    exact ⟨ret_bool (by rw [HI.out, h1, h2, h3]; rfl), rfl⟩

theorem getE (s : ByteArray) (k : Nat) (h : k < s.size) : ∃ hl : k < s.data.toList.length, s.data.toList[k] = s[k] := ⟨by have : s.data.toList.length = s.size := Array.length_toList
                                                                                                                          omega, rfl⟩
theorem len_toList (s : ByteArray) : s.data.toList.length = s.size := Array.length_toList

set_option maxHeartbeats 400000 in
theorem c_run_inner (s : ByteArray) (hs : s.size ≤ 281474976710656) (w : World) :
    Calls Tryd.prog 40 #[.string s, .func (.func 41) #[] #[]] w fun e w' => e = .returned (.int .i64 (runN isInner s.data.toList)) ∧ w = w' := by
  obtain ⟨r, hr⟩ : ∃ r : Nat, runN isInner s.data.toList = r := ⟨_, rfl⟩
  rw [hr]
  have HR := Lib.hid hr
  clear hr
  go_enter Tryd.func40, Tryd.ntmps40
  go_wp2
  go_loop [5] (fun n => ∃ k : Nat, k ≤ s.size ∧ n = .int .i64 k ∧ Hid (∀ j (hj : j < s.data.toList.length), j < k → isInner s.data.toList[j] = true)) (fun n => s.size - (intOf n).toNat)
  case atStart => exact ⟨0, Nat.zero_le _, rfl, fun j _ h => by omega⟩
  case round =>
    obtain ⟨k, hk, rfl, HK⟩ := hrel
    by_cases hlt : k < s.size
    · cases hp : isInner s[k]
      · have hres : r = k := by
          rw [← HR.out]
          refine runN_eq isInner _ k HK.out (by rw [len_toList]; exact hk) (fun hl => ?_)
          exact hp
        have HRR := Lib.hid hres
        clear hres HK
        go_wp2_with (go_at_call 41; refine (c_inner s[k] _).mono ?_; rw [hp]; rintro e w' ⟨rfl, rfl⟩)
        go_ret
        exact ⟨ret_int (by rw [HRR.out]), rfl⟩
      · have HN : Hid (∀ j (hj : j < s.data.toList.length), j < k + 1 → isInner s.data.toList[j] = true) := by
          intro j hj h
          by_cases e : j = k
          · subst e; exact hp
          · exact HK.out j hj (by omega)
        clear HK
        go_wp2_with (go_at_call 41; refine (c_inner s[k] _).mono ?_; rw [hp]; rintro e w' ⟨rfl, rfl⟩)
        go_round
        case rel => exact ⟨k + 1, by omega, by go_num, HN⟩
        case measure => simp [intOf]; omega
    · have hres : r = k := by
        rw [← HR.out]
        refine runN_eq isInner _ k HK.out (by rw [len_toList]; exact hk) (fun hl => ?_)
        rw [len_toList] at hl; omega
      have HRR := Lib.hid hres
      clear hres HK
      go_wp2
      go_ret
      exact ⟨ret_int (by rw [HRR.out]), rfl⟩
set_option maxHeartbeats 400000 in
theorem c_run_digit (s : ByteArray) (hs : s.size ≤ 281474976710656) (w : World) :
    Calls Tryd.prog 40 #[.string s, .func (.func 42) #[] #[]] w fun e w' => e = .returned (.int .i64 (runN isDigit s.data.toList)) ∧ w = w' := by
  obtain ⟨r, hr⟩ : ∃ r : Nat, runN isDigit s.data.toList = r := ⟨_, rfl⟩
  rw [hr]
  have HR := Lib.hid hr
  clear hr
  go_enter Tryd.func40, Tryd.ntmps40
  go_wp2
  go_loop [5] (fun n => ∃ k : Nat, k ≤ s.size ∧ n = .int .i64 k ∧ Hid (∀ j (hj : j < s.data.toList.length), j < k → isDigit s.data.toList[j] = true)) (fun n => s.size - (intOf n).toNat)
  case atStart => exact ⟨0, Nat.zero_le _, rfl, fun j _ h => by omega⟩
  case round =>
    obtain ⟨k, hk, rfl, HK⟩ := hrel
    by_cases hlt : k < s.size
    · cases hp : isDigit s[k]
      · have hres : r = k := by
          rw [← HR.out]
          refine runN_eq isDigit _ k HK.out (by rw [len_toList]; exact hk) (fun hl => ?_)
          exact hp
        have HRR := Lib.hid hres
        clear hres HK
        go_wp2_with (go_at_call 42; refine (c_digit s[k] _).mono ?_; rw [hp]; rintro e w' ⟨rfl, rfl⟩)
        go_ret
        exact ⟨ret_int (by rw [HRR.out]), rfl⟩
      · have HN : Hid (∀ j (hj : j < s.data.toList.length), j < k + 1 → isDigit s.data.toList[j] = true) := by
          intro j hj h
          by_cases e : j = k
          · subst e; exact hp
          · exact HK.out j hj (by omega)
        clear HK
        go_wp2_with (go_at_call 42; refine (c_digit s[k] _).mono ?_; rw [hp]; rintro e w' ⟨rfl, rfl⟩)
        go_round
        case rel => exact ⟨k + 1, by omega, by go_num, HN⟩
        case measure => simp [intOf]; omega
    · have hres : r = k := by
        rw [← HR.out]
        refine runN_eq isDigit _ k HK.out (by rw [len_toList]; exact hk) (fun hl => ?_)
        rw [len_toList] at hl; omega
      have HRR := Lib.hid hres
      clear hres HK
      go_wp2
      go_ret
      exact ⟨ret_int (by rw [HRR.out]), rfl⟩
end Go.Proofs.YtiabiflaecidoaaDoor
