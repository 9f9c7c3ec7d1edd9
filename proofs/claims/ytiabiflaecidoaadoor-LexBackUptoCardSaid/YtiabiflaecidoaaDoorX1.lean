/-
  The contracts of Text and Parse of simulatorref01.
-/
import Derived.Test.YtiabiflaecidoaaDoorX0
import Derived.Lib.ItoaLen
namespace Go.Proofs.YtiabiflaecidoaaDoor
open Go.RowKit

theorem ret_str {a : ByteArray} {l : List UInt8} (h : a.data.toList = l) : Ending.returned (.string a) = .returned (.string ⟨l.toArray⟩) := by
  subst h; cases a; simp

set_option maxHeartbeats 1000000 in
theorem c_rtext (k : Nat) : ∀ (n : Int) (w : World), 2 * n.natAbs + (if n < 0 then 1 else 0) ≤ k → -9223372036854775808 ≤ n → n ≤ 9223372036854775807 →
    Calls Tryd.prog 22 #[.int .i64 n] w fun e w' => e = .returned (.string ⟨(Lib.itoa n).toArray⟩) ∧ w = w' := by
  induction k with
  | zero =>
    intro n w hk _ _
    have h0 : n = 0 := by split at hk <;> omega
    subst h0
    go_enter Tryd.func22, Tryd.ntmps22
    go_wp2_with fail
    go_ret
    exact ⟨ret_str (by decide +kernel), rfl⟩
  | succ k ih =>
    intro n w hk hlo hhi
    have IH := Lib.hid ih
    clear ih
    by_cases h1 : 10 ≤ n
    · have HE := Lib.hid (itoa_ten n h1)
      have k1 : 2 * (n / 10).natAbs + (if n / 10 < 0 then 1 else 0) ≤ k := by rw [if_neg (by omega)]; split at hk <;> omega
      have k2 : 2 * (n % 10).natAbs + (if n % 10 < 0 then 1 else 0) ≤ k := by rw [if_neg (by omega)]; split at hk <;> omega
      have K1 := Lib.hid k1
      have K2 := Lib.hid k2
      have l1 := Lib.itoa_length_le (n / 10) (by omega) (by omega)
      have l2 := Lib.itoa_length_le (n % 10) (by omega) (by omega)
      clear hk k1 k2
      go_enter Tryd.func22, Tryd.ntmps22
      go_wp2_with fail
      refine (IH.out (n / 10) _ K1.out (by omega) (by omega)).mono ?_
      rintro e w' ⟨rfl, rfl⟩
      go_wp2_with fail
      refine (IH.out (n % 10) _ K2.out (by omega) (by omega)).mono ?_
      rintro e w' ⟨rfl, rfl⟩
      go_wp2
      go_ret
      exact ⟨ret_str (by rw [HE.out]; simp), rfl⟩
    · by_cases h2 : 0 ≤ n
      · have : n = 0 ∨ n = 1 ∨ n = 2 ∨ n = 3 ∨ n = 4 ∨ n = 5 ∨ n = 6 ∨ n = 7 ∨ n = 8 ∨ n = 9 := by omega
        clear IH hk hlo hhi h1 h2
        rcases this with rfl | rfl | rfl | rfl | rfl | rfl | rfl | rfl | rfl | rfl
        all_goals
          go_enter Tryd.func22, Tryd.ntmps22
          go_wp2
          go_ret
          exact ⟨ret_str (by decide +kernel), rfl⟩
      · by_cases h3 : -10 < n
        · have HE := Lib.hid (itoa_one_neg n (by omega))
          have k1 : 2 * (-n).natAbs + (if -n < 0 then 1 else 0) ≤ k := by rw [if_neg (by omega)]; rw [if_pos (by omega)] at hk; omega
          have K1 := Lib.hid k1
          have l1 := Lib.itoa_length_le (-n) (by omega) (by omega)
          clear hk k1
          go_enter Tryd.func22, Tryd.ntmps22
          go_wp2_with fail
          refine (IH.out (-n) _ K1.out (by omega) (by omega)).mono ?_
          rintro e w' ⟨rfl, rfl⟩
          go_wp2
          go_ret
          exact ⟨ret_str (by rw [HE.out]; simp), rfl⟩
        · have HE := Lib.hid (itoa_ten_neg n (by omega))
          have e1 : n.tdiv 10 = -((-n) / 10) := by
            have e : n = -(-n) := by omega
            rw [e, Int.neg_tdiv, Int.tdiv_eq_ediv_of_nonneg (by omega)]; omega
          have e2 : n.tmod 10 = -((-n) % 10) := by
            have e : n = -(-n) := by omega
            rw [e, Int.neg_tmod, Int.tmod_eq_emod_of_nonneg (by omega)]; omega
          have k1 : 2 * (n.tdiv 10).natAbs + (if n.tdiv 10 < 0 then 1 else 0) ≤ k := by rw [if_pos (by omega)] at hk; split <;> omega
          have k2 : 2 * (-(n.tmod 10)).natAbs + (if -(n.tmod 10) < 0 then 1 else 0) ≤ k := by rw [if_pos (by omega)] at hk; split <;> omega
          have K1 := Lib.hid k1
          have K2 := Lib.hid k2
          have b1 : -922337203685477581 ≤ n.tdiv 10 ∧ n.tdiv 10 ≤ 0 := by omega
          have b2 : -9 ≤ n.tmod 10 ∧ n.tmod 10 ≤ 0 := by omega
          have l1 := Lib.itoa_length_le (n.tdiv 10) (by omega) (by omega)
          have l2 := Lib.itoa_length_le (-(n.tmod 10)) (by omega) (by omega)
          clear hk k1 k2 e1 e2
          go_enter Tryd.func22, Tryd.ntmps22
          go_wp2_with fail
          refine (IH.out (n.tdiv 10) _ K1.out (by omega) (by omega)).mono ?_
          rintro e w' ⟨rfl, rfl⟩
          go_wp2_with fail
          refine (IH.out (-(n.tmod 10)) _ K2.out (by omega) (by omega)).mono ?_
          rintro e w' ⟨rfl, rfl⟩
          go_wp2
          go_ret
          exact ⟨ret_str (by rw [HE.out]; simp), rfl⟩
end Go.Proofs.YtiabiflaecidoaaDoor
