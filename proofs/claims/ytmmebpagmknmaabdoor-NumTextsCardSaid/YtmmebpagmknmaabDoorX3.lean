/-
  The walks of NumTexts and NumParses.
-/
import Derived.Test.YtmmebpagmknmaabDoorX2
import Derived.Test.YtmmebpagmknmaabDoorW6
namespace Go.Proofs.YtmmebpagmknmaabDoor
open Go.RowKit

set_option maxHeartbeats 1000000 in
theorem l_texts (n : Int) (h0 : -9223372036854775808 ≤ n) (h1 : n ≤ 9223372036854775807) (w : World) (hL : Laid w) :
    Calls Tryd.prog 3 #[.int .i64 n] w fun e w' => e = .returned (.bool true) ∧ Below w.heap.size w w' := by
  have HL := Lib.hid hL
  clear hL
  have hp := parseI_itoa n h0 h1
  by_cases hi : inB n = true
  · have HP : Hid (parseI (⟨(Lib.itoa n).toArray⟩ : ByteArray).data.toList = (n, true)) := by unfold Hid; rw [List.toList_toArray, hp, if_pos hi]
    have HI := Lib.hid hi
    clear hp hi
    go_enter Tryd.func3, Tryd.ntmps3
    go_wp2_with fail
    refine (c_text n h0 h1 _ HL.out).mono ?_
    rintro e w1 ⟨rfl, hb1⟩
    have HL1 := Lib.hid (HL.out.below hb1)
    go_wp2_with fail
    refine (c_parse _ (by have := Lib.itoa_length_le n h0 h1; show (Lib.itoa n).toArray.size ≤ _; simp; omega) _ HL1.out).mono ?_
    rw [HP.out]
    rintro e w2 ⟨rfl, hb2⟩
    have HL2 := Lib.hid (HL1.out.below hb2)
    go_wp2_with fail
    refine (c_rtext (2 * n.natAbs + 1) n _ (by split <;> omega) h0 h1).mono ?_
    rintro e w' ⟨rfl, rfl⟩
    go_wp2_with (first | (go_at_call 8; refine (c_in n _).mono ?_; rw [HI.out]; rintro e w' ⟨rfl, rfl⟩) | (go_at_call 9; refine (c_awake _ HL2.out).mono ?_; rintro e w3 ⟨rfl, hb3⟩))
    go_ret
    exact ⟨rfl, hb1.trans ((hb2.trans (hb3.mono hb2.size)).mono hb1.size)⟩
  · have hi' : inB n = false := by simpa using hi
    have HP : Hid (parseI (⟨(Lib.itoa n).toArray⟩ : ByteArray).data.toList = (0, false)) := by unfold Hid; rw [List.toList_toArray, hp, if_neg hi]
    have HI := Lib.hid hi'
    clear hp hi hi'
    go_enter Tryd.func3, Tryd.ntmps3
    go_wp2_with fail
    refine (c_text n h0 h1 _ HL.out).mono ?_
    rintro e w1 ⟨rfl, hb1⟩
    have HL1 := Lib.hid (HL.out.below hb1)
    go_wp2_with fail
    refine (c_parse _ (by have := Lib.itoa_length_le n h0 h1; show (Lib.itoa n).toArray.size ≤ _; simp; omega) _ HL1.out).mono ?_
    rw [HP.out]
    rintro e w2 ⟨rfl, hb2⟩
    have HL2 := Lib.hid (HL1.out.below hb2)
    go_wp2_with fail
    refine (c_rtext (2 * n.natAbs + 1) n _ (by split <;> omega) h0 h1).mono ?_
    rintro e w' ⟨rfl, rfl⟩
    go_wp2_with (first | (go_at_call 8; refine (c_in n _).mono ?_; rw [HI.out]; rintro e w' ⟨rfl, rfl⟩) | (go_at_call 9; refine (c_awake _ HL2.out).mono ?_; rintro e w3 ⟨rfl, hb3⟩))
    all_goals go_ret
    all_goals exact ⟨rfl, hb1.trans ((hb2.trans (hb3.mono hb2.size)).mono hb1.size)⟩

theorem parseI_ok (l : List UInt8) : (∃ n, parseI l = (n, true) ∧ Lib.itoa n = l ∧ -1000000000000 ≤ n ∧ n ≤ 1000000000000) ∨ parseI l = (0, false) := by
  unfold parseI
  split
  · rename_i n _
    by_cases h : (inB n && (Lib.itoa n == l)) = true
    · rw [if_pos h]
      simp only [Bool.and_eq_true, beq_iff_eq] at h
      have := (inB_iff n).1 h.1
      exact .inl ⟨n, rfl, h.2, this.1, this.2⟩
    · rw [if_neg h]; exact .inr rfl
  · exact .inr rfl

set_option maxHeartbeats 1000000 in
theorem l_parses (s : ByteArray) (hs : s.size ≤ 281474976710656) (w : World) (hL : Laid w) :
    Calls Tryd.prog 4 #[.string s] w fun e w' => e = .returned (.bool true) ∧ Below w.heap.size w w' := by
  have HL := Lib.hid hL
  clear hL
  have hsame := parse_same s.data.toList
  rcases parseI_ok s.data.toList with ⟨n, hp, ht, n0, n1⟩ | hp
  · have HP := Lib.hid hp
    have HR : Hid (parseR s.data.toList = (n, true)) := hsame.symm.trans hp
    have hq : (Lib.itoa n == s.toList) = true := by rw [Lib.toList_data, ht]; simp
    clear hp hsame ht
    go_enter Tryd.func4, Tryd.ntmps4
    go_wp2_with fail
    refine (c_parse s hs _ HL.out).mono ?_
    rw [HP.out]
    rintro e w1 ⟨rfl, hb1⟩
    have HL1 := Lib.hid (HL.out.below hb1)
    go_wp2_with fail
    refine (c_rparse s hs _).mono ?_
    rw [HR.out]
    rintro e w' ⟨rfl, rfl⟩
    go_wp2_with (first | (go_at_call 5; refine (c_text n (by omega) (by omega) _ HL1.out).mono ?_; rintro e w2 ⟨rfl, hb2⟩; have HL2 := Lib.hid (HL1.out.below hb2)) | (go_at_call 9; refine (c_awake _ HL2.out).mono ?_; rintro e w3 ⟨rfl, hb3⟩))
    go_ret
    exact ⟨rfl, hb1.trans ((hb2.trans (hb3.mono hb2.size)).mono hb1.size)⟩
  · have HP := Lib.hid hp
    have HR : Hid (parseR s.data.toList = (0, false)) := hsame.symm.trans hp
    clear hp hsame
    go_enter Tryd.func4, Tryd.ntmps4
    go_wp2_with fail
    refine (c_parse s hs _ HL.out).mono ?_
    rw [HP.out]
    rintro e w1 ⟨rfl, hb1⟩
    have HL1 := Lib.hid (HL.out.below hb1)
    go_wp2_with fail
    refine (c_rparse s hs _).mono ?_
    rw [HR.out]
    rintro e w' ⟨rfl, rfl⟩
    go_wp2_with (go_at_call 9; refine (c_awake _ HL1.out).mono ?_; rintro e w3 ⟨rfl, hb3⟩)
    go_ret
    exact ⟨rfl, hb1.trans (hb3.mono hb1.size)⟩
end Go.Proofs.YtmmebpagmknmaabDoor
