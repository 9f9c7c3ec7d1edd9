/-
  The contract of Parse of simulatorref01.
-/
import Derived.Test.YtmmebpagmknmaabDoorX1
namespace Go.Proofs.YtmmebpagmknmaabDoor
open Go.RowKit

theorem take_snoc (s : ByteArray) (k : Nat) (h : k < s.size) : s.data.toList.take (k + 1) = s.data.toList.take k ++ [s[k]] := by
  rw [List.take_succ_eq_append_getElem (by simpa using h)]; rfl
theorem foldD_snoc (l : List UInt8) (c : UInt8) : (foldD 0 (l ++ [c]) : Int) = if 48 ≤ (c.toNat : Int) ∧ (c.toNat : Int) ≤ 57 then 10 * (foldD 0 l : Int) + ((c.toNat : Int) - 48) else (foldD 0 l : Int) := by
  rw [foldD_append]
  by_cases h : 48 ≤ c.toNat ∧ c.toNat ≤ 57
  · rw [if_pos (by omega)]; simp only [foldD]; rw [if_pos h]; omega
  · rw [if_neg (by omega)]; simp only [foldD]; rw [if_neg h]
theorem foldD_bd (s : ByteArray) (k : Nat) (h : k ≤ s.size) (hs : s.size ≤ 14) : (foldD 0 (s.data.toList.take k) : Int) < 100000000000000 := by
  have h1 := foldD_lt (s.data.toList.take k) 0
  have h2 : (s.data.toList.take k).length ≤ 14 := by have := List.length_take_le k s.data.toList; omega
  have h3 : (10 : Nat) ^ (s.data.toList.take k).length ≤ 10 ^ 14 := Nat.pow_le_pow_right (by omega) h2
  have h4 : (10 : Nat) ^ 14 = 100000000000000 := by decide
  omega

theorem head_eq (s : ByteArray) (h : 0 < s.size) : ∃ r, s.data.toList = s[0] :: r := by
  have h1 := take_snoc s 0 h
  refine ⟨s.data.toList.drop 1, ?_⟩
  rw [← List.take_append_drop 1 s.data.toList, h1]; simp
theorem sign_cases (s : ByteArray) (m : Int) (hm : m = (foldD 0 s.data.toList : Int)) :
    (s.size = 0 ∧ signD s.data.toList = m) ∨ (∃ h : 0 < s.size, ((s[0].toNat : Int) == 45) = false ∧ signD s.data.toList = m) ∨ (∃ h : 0 < s.size, ((s[0].toNat : Int) == 45) = true ∧ signD s.data.toList = -m) := by
  by_cases h : 0 < s.size
  · obtain ⟨r, hr⟩ := head_eq s h
    by_cases hc : s[0].toNat = 45
    · have hc' : s[0] = 45 := UInt8.toNat_inj.1 hc
      refine .inr (.inr ⟨h, by rw [hc]; rfl, ?_⟩)
      rw [hm, hr, hc', signD_neg]
      simp [foldD]
    · refine .inr (.inl ⟨h, by rw [beq_eq_false_iff_ne]; omega, ?_⟩)
      rw [hm, hr, signD_other _ _ hc]
  · have e : s.data.toList = [] := List.eq_nil_of_length_eq_zero (by have : s.data.toList.length = s.size := Array.length_toList
                                                                     omega)
    exact .inl ⟨by omega, by rw [hm, e]; rfl⟩

set_option maxHeartbeats 2000000 in
theorem c_rparse (s : ByteArray) (hs : s.size ≤ 281474976710656) (w : World) :
    Calls Tryd.prog 10 #[.string s] w fun e w' => e = .returned (.tuple #[.int .i64 (parseR s.data.toList).1, .bool (parseR s.data.toList).2]) ∧ w = w' := by
  obtain ⟨r, hr⟩ : ∃ r, parseR s.data.toList = r := ⟨_, rfl⟩
  rw [hr]
  have hlen : s.data.toList.length = s.size := Array.length_toList
  by_cases hl : 14 < s.size
  · have HR : Hid (r = (0, false)) := by unfold Hid; rw [← hr, parseR, if_pos (by omega)]
    clear hr hlen
    go_enter Tryd.func10, Tryd.ntmps10
    go_wp2
    go_ret2
    exact ⟨ret2 HR.out, rfl⟩
  · have HR : Hid (r = if inB (signD s.data.toList) && (Lib.itoa (signD s.data.toList) == s.data.toList) then (signD s.data.toList, true) else (0, false)) := by unfold Hid; rw [← hr, parseR, if_neg (by omega)]
    have hl' : s.size ≤ 14 := by omega
    have HL := Lib.hid hlen
    clear hr hl hlen hs
    go_enter Tryd.func10, Tryd.ntmps10
    go_wp2
    go_loop [4, 5] (fun n i => ∃ (k : Nat) (m : Int), k ≤ s.size ∧ i = .int .i64 k ∧ n = .int .i64 m ∧ 0 ≤ m ∧ m < 100000000000000 ∧ Hid (m = (foldD 0 (s.data.toList.take k) : Int))) (fun _ i => s.size - (intOf i).toNat)
    case atStart => exact ⟨0, 0, Nat.zero_le _, rfl, rfl, by omega, by omega, rfl⟩
    case round =>
      obtain ⟨k, m, hk, rfl, rfl, m0, m1, HM⟩ := hrel
      by_cases hlt : k < s.size
      · have hb := foldD_bd s (k + 1) (by omega) hl'
        have hsn := foldD_snoc (s.data.toList.take k) s[k]
        rw [← take_snoc s k hlt, ← HM.out] at hsn
        by_cases hd : 48 ≤ (s[k].toNat : Int) ∧ (s[k].toNat : Int) ≤ 57
        · rw [if_pos hd] at hsn
          have hb2 : 10 * m + ((s[k].toNat : Int) - 48) < 100000000000000 := by omega
          have HS := Lib.hid hsn
          obtain ⟨d1, d2⟩ := hd
          clear hsn hb HM
          go_wp2
          go_round
          case rel => exact ⟨k + 1, _, by omega, by go_num, rfl, by omega, by omega, HS.out.symm⟩
          case measure => simp [intOf]; omega
        · rw [if_neg hd] at hsn
          have HS := Lib.hid hsn
          have hd' : ¬ 48 ≤ (s[k].toNat : Int) ∨ (48 ≤ (s[k].toNat : Int) ∧ ¬ (s[k].toNat : Int) ≤ 57) := by omega
          clear hsn hb HM hd
          rcases hd' with d1 | ⟨d1, d2⟩
          all_goals
            go_wp2
            go_round
            case rel => exact ⟨k + 1, _, by omega, by go_num, rfl, by omega, by omega, HS.out.symm⟩
            case measure => simp [intOf]; omega
      · have hk' : k = s.size := by omega
        have hm : m = (foldD 0 s.data.toList : Int) := by rw [HM.out, hk', List.take_of_length_le (by have := HL.out; omega)]
        clear HM
        have hsg := sign_cases s m hm
        clear hm
        obtain ⟨v, hv⟩ : ∃ v, signD s.data.toList = v := ⟨_, rfl⟩
        rw [hv] at hsg HR
        have hrest : (inB v = true ∧ (Lib.itoa v == s.toList) = true ∧ Hid (r = (v, true))) ∨ (inB v = true ∧ (Lib.itoa v == s.toList) = false ∧ Hid (r = (0, false))) ∨ (inB v = false ∧ Hid (r = (0, false))) := by
          rw [Lib.toList_data]
          unfold Hid
          by_cases hi : inB v = true
          · by_cases ht : (Lib.itoa v == s.data.toList) = true
            · exact .inl ⟨hi, ht, by rw [HR.out]; simp [hi, ht]⟩
            · exact .inr (.inl ⟨hi, by simpa using ht, by rw [HR.out]; simp [hi, ht]⟩)
          · exact .inr (.inr ⟨by simpa using hi, by rw [HR.out]; simp [hi]⟩)
        clear HR hv
        have hvb : -100000000000000 < v ∧ v < 100000000000000 := by
          rcases hsg with ⟨_, h⟩ | ⟨_, _, h⟩ | ⟨_, _, h⟩ <;> omega
        have hlv := Lib.itoa_length_le v (by omega) (by omega)
        obtain rfl : k = s.size := hk'
        rcases hsg with ⟨h0, hv⟩ | ⟨h0, h45, hv⟩ | ⟨h0, h45, hv⟩
        · have hz : ¬ 0 < s.size := by omega
          clear h0
          obtain rfl : m = v := hv.symm
          rcases hrest with ⟨hi, ht, HRR⟩ | ⟨hi, ht, HRR⟩ | ⟨hi, HRR⟩
          all_goals
            go_wp2_with (first | (go_at_call 20; refine (c_rin _ _).mono ?_; rintro e w' ⟨rfl, rfl⟩) | (go_at_call 7; refine (c_rtext (2 * m.natAbs + 1) m _ (by split <;> omega) (by omega) (by omega)).mono ?_; rintro e w' ⟨rfl, rfl⟩))
            go_ret2
            exact ⟨ret2 HRR.out, rfl⟩
        · clear hlt
          obtain rfl : m = v := hv.symm
          rcases hrest with ⟨hi, ht, HRR⟩ | ⟨hi, ht, HRR⟩ | ⟨hi, HRR⟩
          all_goals
            go_wp2_with (first | (go_at_call 20; refine (c_rin _ _).mono ?_; rintro e w' ⟨rfl, rfl⟩) | (go_at_call 7; refine (c_rtext (2 * m.natAbs + 1) m _ (by split <;> omega) (by omega) (by omega)).mono ?_; rintro e w' ⟨rfl, rfl⟩))
            go_ret2
            exact ⟨ret2 HRR.out, rfl⟩
        · clear hlt
          subst hv
          rcases hrest with ⟨hi, ht, HRR⟩ | ⟨hi, ht, HRR⟩ | ⟨hi, HRR⟩
          all_goals
            go_wp2_with (first | (go_at_call 20; refine (c_rin _ _).mono ?_; rintro e w' ⟨rfl, rfl⟩) | (go_at_call 7; refine (c_rtext (2 * (-m).natAbs + 1) (-m) _ (by split <;> omega) (by omega) (by omega)).mono ?_; rintro e w' ⟨rfl, rfl⟩))
            go_ret2
            exact ⟨ret2 HRR.out, rfl⟩
end Go.Proofs.YtmmebpagmknmaabDoor
