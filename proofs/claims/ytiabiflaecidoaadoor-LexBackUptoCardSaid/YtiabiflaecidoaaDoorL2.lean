/-
  The contracts of sign, word, Number and token of lex.
-/
import Derived.Test.YtiabiflaecidoaaDoorL1
import Derived.Lib.IndexBytes
namespace Go.Proofs.YtiabiflaecidoaaDoor
open Go.RowKit

theorem u8_back (c : UInt8) : ((c.toNat : Int).toNat).toUInt8 = c := by simp
theorem ix_ge (l : List UInt8) (c : UInt8) : Lib.indexByte l c = -1 ∨ 0 ≤ Lib.indexByte l c := by
  induction l with
  | nil => exact .inl rfl
  | cons b r ih =>
    simp only [Lib.indexByte]
    split
    · exact .inr (by omega)
    · split
      · exact .inl rfl
      · rename_i h
        rcases ih with e | e
        · rw [e] at h; simp at h
        · exact .inr (by omega)
theorem ix_le (l : List UInt8) (c : UInt8) : Lib.indexByte l c < l.length ∨ Lib.indexByte l c = -1 := by
  induction l with
  | nil => exact .inr rfl
  | cons b r ih =>
    simp only [Lib.indexByte, List.length_cons]
    split
    · exact .inl (by omega)
    · split
      · exact .inr rfl
      · rcases ih with e | e
        · exact .inl (by omega)
        · rename_i h; rw [e] at h; simp at h

theorem signN_two (l : List UInt8) (h : Lib.hasPrefix l [33, 61] = true ∨ Lib.hasPrefix l [60, 61] = true ∨ Lib.hasPrefix l [62, 61] = true) : signN l = 2 := by
  unfold signN
  rw [if_pos]
  rcases h with h | h | h <;> simp [h]
theorem signN_one (l t : List UInt8) (c : UInt8) (h1 : Lib.hasPrefix l [33, 61] = false) (h2 : Lib.hasPrefix l [60, 61] = false) (h3 : Lib.hasPrefix l [62, 61] = false) (e : l = c :: t) :
    signN l = if 0 ≤ Lib.indexByte signChars c then 1 else 0 := by
  subst e
  unfold signN
  rw [if_neg (by simp [h1, h2, h3])]
theorem head_cons (s : ByteArray) (hz : 0 < s.size) : ∃ t, s.data.toList = s[0] :: t := ⟨s.data.toList.drop 1, by
  have := List.take_succ_eq_append_getElem (l := s.data.toList) (i := 0) (by rw [len_toList]; exact hz)
  rw [← List.take_append_drop 1 s.data.toList, this]; rfl⟩

set_option maxHeartbeats 1000000 in
theorem c_sign (s : ByteArray) (w : World) :
    Calls Tryd.prog 43 #[.string s] w fun e w' => e = .returned (.int .i64 (signN s.data.toList)) ∧ w = w' := by
  obtain ⟨r, hr⟩ : ∃ r : Nat, signN s.data.toList = r := ⟨_, rfl⟩
  rw [hr]
  obtain ⟨i, HI⟩ : ∃ i, Hid (0 < s.size → ∀ h : 0 < s.size, Lib.indexByte signChars s[0] = i) := by
    by_cases h : 0 < s.size
    · exact ⟨Lib.indexByte signChars s[0], fun _ _ => rfl⟩
    · exact ⟨0, fun h' => absurd h' h⟩
  cases h1 : Lib.hasPrefix s.data.toList [33, 61]
  · cases h2 : Lib.hasPrefix s.data.toList [60, 61]
    · cases h3 : Lib.hasPrefix s.data.toList [62, 61]
      · by_cases hz : 0 < s.size
        · obtain ⟨t, ht⟩ := head_cons s hz
          have he : s.toList.isEmpty = false := by rw [Lib.toList_data, ht]; rfl
          have hx := ix_ge signChars s[0]
          have hy := ix_le signChars s[0]
          have hl : signChars.length = 13 := rfl
          have hr1 := signN_one _ _ _ h1 h2 h3 ht
          rw [hr] at hr1
          replace HI := Lib.hid (HI.out hz hz)
          rw [HI.out] at hx hy hr1
          rw [hl] at hy
          have HR := Lib.hid hr1
          clear hr ht hr1 hl
          by_cases hi : 0 ≤ i
          · have HR1 : Hid (r = 1) := by unfold Hid; rw [HR.out, if_pos hi]
            clear hx
            go_enter Tryd.func43, Tryd.ntmps43
            go_wp2_with (first
              | (go_at_call 49; (with_reducible refine (Tryd.strings_HasPrefix s ⟨#[33, 61]⟩ _).mono ?_); rw [show Lib.hasPrefix s.data.toList (⟨#[33, 61]⟩ : ByteArray).data.toList = false from h1]; rintro e w' ⟨rfl, rfl⟩)
              | (go_at_call 49; (with_reducible refine (Tryd.strings_HasPrefix s ⟨#[60, 61]⟩ _).mono ?_); rw [show Lib.hasPrefix s.data.toList (⟨#[60, 61]⟩ : ByteArray).data.toList = false from h2]; rintro e w' ⟨rfl, rfl⟩)
              | (go_at_call 49; (with_reducible refine (Tryd.strings_HasPrefix s ⟨#[62, 61]⟩ _).mono ?_); rw [show Lib.hasPrefix s.data.toList (⟨#[62, 61]⟩ : ByteArray).data.toList = false from h3]; rintro e w' ⟨rfl, rfl⟩)
              | (go_at_call 54; refine (Tryd.strings_IndexByte ⟨#[43, 45, 42, 47, 37, 61, 60, 62, 40, 41, 44, 58, 46]⟩ (s[0].toNat : Int) _).mono ?_; rw [u8_back, show Lib.indexByte (⟨#[43, 45, 42, 47, 37, 61, 60, 62, 40, 41, 44, 58, 46]⟩ : ByteArray).data.toList s[0] = i from HI.out]; rintro e w' ⟨rfl, rfl⟩))
            go_ret
            exact ⟨ret_int (by rw [HR1.out]; rfl), rfl⟩
          · have HR1 : Hid (r = 0) := by unfold Hid; rw [HR.out, if_neg hi]
            clear hx hy
            go_enter Tryd.func43, Tryd.ntmps43
            go_wp2_with (first
              | (go_at_call 49; (with_reducible refine (Tryd.strings_HasPrefix s ⟨#[33, 61]⟩ _).mono ?_); rw [show Lib.hasPrefix s.data.toList (⟨#[33, 61]⟩ : ByteArray).data.toList = false from h1]; rintro e w' ⟨rfl, rfl⟩)
              | (go_at_call 49; (with_reducible refine (Tryd.strings_HasPrefix s ⟨#[60, 61]⟩ _).mono ?_); rw [show Lib.hasPrefix s.data.toList (⟨#[60, 61]⟩ : ByteArray).data.toList = false from h2]; rintro e w' ⟨rfl, rfl⟩)
              | (go_at_call 49; (with_reducible refine (Tryd.strings_HasPrefix s ⟨#[62, 61]⟩ _).mono ?_); rw [show Lib.hasPrefix s.data.toList (⟨#[62, 61]⟩ : ByteArray).data.toList = false from h3]; rintro e w' ⟨rfl, rfl⟩)
              | (go_at_call 54; refine (Tryd.strings_IndexByte ⟨#[43, 45, 42, 47, 37, 61, 60, 62, 40, 41, 44, 58, 46]⟩ (s[0].toNat : Int) _).mono ?_; rw [u8_back, show Lib.indexByte (⟨#[43, 45, 42, 47, 37, 61, 60, 62, 40, 41, 44, 58, 46]⟩ : ByteArray).data.toList s[0] = i from HI.out]; rintro e w' ⟨rfl, rfl⟩))
            go_ret
            exact ⟨ret_int (by rw [HR1.out]; rfl), rfl⟩
        · have ht : s.data.toList = [] := List.eq_nil_of_length_eq_zero (by rw [len_toList]; omega)
          have he : s.toList.isEmpty = true := by rw [Lib.toList_data, ht]; rfl
          have HR1 : Hid (r = 0) := by unfold Hid; rw [← hr, ht]; rfl
          clear hr ht hz HI
          go_enter Tryd.func43, Tryd.ntmps43
          go_wp2_with (first
              | (go_at_call 49; (with_reducible refine (Tryd.strings_HasPrefix s ⟨#[33, 61]⟩ _).mono ?_); rw [show Lib.hasPrefix s.data.toList (⟨#[33, 61]⟩ : ByteArray).data.toList = false from h1]; rintro e w' ⟨rfl, rfl⟩)
              | (go_at_call 49; (with_reducible refine (Tryd.strings_HasPrefix s ⟨#[60, 61]⟩ _).mono ?_); rw [show Lib.hasPrefix s.data.toList (⟨#[60, 61]⟩ : ByteArray).data.toList = false from h2]; rintro e w' ⟨rfl, rfl⟩)
              | (go_at_call 49; (with_reducible refine (Tryd.strings_HasPrefix s ⟨#[62, 61]⟩ _).mono ?_); rw [show Lib.hasPrefix s.data.toList (⟨#[62, 61]⟩ : ByteArray).data.toList = false from h3]; rintro e w' ⟨rfl, rfl⟩)
              | (go_at_call 54; refine (Tryd.strings_IndexByte ⟨#[43, 45, 42, 47, 37, 61, 60, 62, 40, 41, 44, 58, 46]⟩ (s[0].toNat : Int) _).mono ?_; rw [u8_back, show Lib.indexByte (⟨#[43, 45, 42, 47, 37, 61, 60, 62, 40, 41, 44, 58, 46]⟩ : ByteArray).data.toList s[0] = i from HI.out]; rintro e w' ⟨rfl, rfl⟩))
          go_ret
          exact ⟨ret_int (by rw [HR1.out]; rfl), rfl⟩
      · have HR1 : Hid (r = 2) := by unfold Hid; rw [← hr]; exact signN_two _ (.inr (.inr h3))
        clear hr HI
        go_enter Tryd.func43, Tryd.ntmps43
        go_wp2_with (first
              | (go_at_call 49; (with_reducible refine (Tryd.strings_HasPrefix s ⟨#[33, 61]⟩ _).mono ?_); rw [show Lib.hasPrefix s.data.toList (⟨#[33, 61]⟩ : ByteArray).data.toList = false from h1]; rintro e w' ⟨rfl, rfl⟩)
              | (go_at_call 49; (with_reducible refine (Tryd.strings_HasPrefix s ⟨#[60, 61]⟩ _).mono ?_); rw [show Lib.hasPrefix s.data.toList (⟨#[60, 61]⟩ : ByteArray).data.toList = false from h2]; rintro e w' ⟨rfl, rfl⟩)
              | (go_at_call 49; (with_reducible refine (Tryd.strings_HasPrefix s ⟨#[62, 61]⟩ _).mono ?_); rw [show Lib.hasPrefix s.data.toList (⟨#[62, 61]⟩ : ByteArray).data.toList = true from h3]; rintro e w' ⟨rfl, rfl⟩)
              | (go_at_call 54; refine (Tryd.strings_IndexByte ⟨#[43, 45, 42, 47, 37, 61, 60, 62, 40, 41, 44, 58, 46]⟩ (s[0].toNat : Int) _).mono ?_; rw [u8_back, show Lib.indexByte (⟨#[43, 45, 42, 47, 37, 61, 60, 62, 40, 41, 44, 58, 46]⟩ : ByteArray).data.toList s[0] = i from HI.out]; rintro e w' ⟨rfl, rfl⟩))
        go_ret
        exact ⟨ret_int (by rw [HR1.out]; rfl), rfl⟩
    · have HR1 : Hid (r = 2) := by unfold Hid; rw [← hr]; exact signN_two _ (.inr (.inl h2))
      clear hr HI
      go_enter Tryd.func43, Tryd.ntmps43
      go_wp2_with (first
              | (go_at_call 49; (with_reducible refine (Tryd.strings_HasPrefix s ⟨#[33, 61]⟩ _).mono ?_); rw [show Lib.hasPrefix s.data.toList (⟨#[33, 61]⟩ : ByteArray).data.toList = false from h1]; rintro e w' ⟨rfl, rfl⟩)
              | (go_at_call 49; (with_reducible refine (Tryd.strings_HasPrefix s ⟨#[60, 61]⟩ _).mono ?_); rw [show Lib.hasPrefix s.data.toList (⟨#[60, 61]⟩ : ByteArray).data.toList = true from h2]; rintro e w' ⟨rfl, rfl⟩)
              | (go_at_call 49; (with_reducible refine (Tryd.strings_HasPrefix s ⟨#[62, 61]⟩ _).mono ?_); rw [show Lib.hasPrefix s.data.toList (⟨#[62, 61]⟩ : ByteArray).data.toList = true from h3]; rintro e w' ⟨rfl, rfl⟩)
              | (go_at_call 54; refine (Tryd.strings_IndexByte ⟨#[43, 45, 42, 47, 37, 61, 60, 62, 40, 41, 44, 58, 46]⟩ (s[0].toNat : Int) _).mono ?_; rw [u8_back, show Lib.indexByte (⟨#[43, 45, 42, 47, 37, 61, 60, 62, 40, 41, 44, 58, 46]⟩ : ByteArray).data.toList s[0] = i from HI.out]; rintro e w' ⟨rfl, rfl⟩))
      go_ret
      exact ⟨ret_int (by rw [HR1.out]; rfl), rfl⟩
  · have HR1 : Hid (r = 2) := by unfold Hid; rw [← hr]; exact signN_two _ (.inl h1)
    clear hr HI
    go_enter Tryd.func43, Tryd.ntmps43
    go_wp2_with (first
              | (go_at_call 49; (with_reducible refine (Tryd.strings_HasPrefix s ⟨#[33, 61]⟩ _).mono ?_); rw [show Lib.hasPrefix s.data.toList (⟨#[33, 61]⟩ : ByteArray).data.toList = true from h1]; rintro e w' ⟨rfl, rfl⟩)
              | (go_at_call 49; (with_reducible refine (Tryd.strings_HasPrefix s ⟨#[60, 61]⟩ _).mono ?_); rw [show Lib.hasPrefix s.data.toList (⟨#[60, 61]⟩ : ByteArray).data.toList = true from h2]; rintro e w' ⟨rfl, rfl⟩)
              | (go_at_call 49; (with_reducible refine (Tryd.strings_HasPrefix s ⟨#[62, 61]⟩ _).mono ?_); rw [show Lib.hasPrefix s.data.toList (⟨#[62, 61]⟩ : ByteArray).data.toList = true from h3]; rintro e w' ⟨rfl, rfl⟩)
              | (go_at_call 54; refine (Tryd.strings_IndexByte ⟨#[43, 45, 42, 47, 37, 61, 60, 62, 40, 41, 44, 58, 46]⟩ (s[0].toNat : Int) _).mono ?_; rw [u8_back, show Lib.indexByte (⟨#[43, 45, 42, 47, 37, 61, 60, 62, 40, 41, 44, 58, 46]⟩ : ByteArray).data.toList s[0] = i from HI.out]; rintro e w' ⟨rfl, rfl⟩))
    go_ret
    exact ⟨ret_int (by rw [HR1.out]; rfl), rfl⟩

/-- The contract of word. -/
theorem c_word (s : ByteArray) (hs : s.size ≤ 281474976710656) (w : World) :
    Calls Tryd.prog 46 #[.string s] w fun e w' => e = .returned (.bool (wordB s.data.toList)) ∧ w = w' := by
  obtain ⟨r, hr⟩ : ∃ r, wordB s.data.toList = r := ⟨_, rfl⟩
  rw [hr]
  by_cases hz : 0 < s.size
  · obtain ⟨t, ht⟩ := head_cons s hz
    have he : s.toList.isEmpty = false := by rw [Lib.toList_data, ht]; rfl
    have hr1 : r = (isLetter s[0] && (runN isInner s.data.toList == s.data.toList.length)) := by rw [← hr]; rw [ht]; rfl
    have hle := runN_le isInner s.data.toList
    rw [len_toList] at hr1 hle
    obtain ⟨k, hk⟩ : ∃ k, runN isInner s.data.toList = k := ⟨_, rfl⟩
    rw [hk] at hr1 hle
    have HK := Lib.hid hk
    have HR := Lib.hid hr1
    clear hr hr1 ht hk
    cases h1 : isLetter s[0]
    · go_enter Tryd.func46, Tryd.ntmps46
      go_wp2_with (go_at_call 39; refine (c_letter s[0] _).mono ?_; rw [h1]; rintro e w' ⟨rfl, rfl⟩)
      go_ret
      exact ⟨ret_bool (by rw [HR.out, h1]; rfl), rfl⟩
    · by_cases hq : k = s.size
      · have HQ : Hid (r = true) := by unfold Hid; rw [HR.out, h1, hq]; simp
        have hb : ((k : Int) == (s.size : Int)) = true := by rw [hq]; simp
        have hb2 : (k == s.size) = true := by rw [hq]; simp
        clear hq
        go_enter Tryd.func46, Tryd.ntmps46
        go_wp2_with (first | (go_at_call 39; refine (c_letter s[0] _).mono ?_; rw [h1]; rintro e w' ⟨rfl, rfl⟩) | (go_at_call 40; refine (c_run_inner s hs _).mono ?_; rw [HK.out]; rintro e w' ⟨rfl, rfl⟩))
        go_ret
        exact ⟨ret_bool HQ.out.symm, rfl⟩
      · have HQ : Hid (r = false) := by unfold Hid; rw [HR.out, h1]; simp [hq]
        have hb : ((k : Int) == (s.size : Int)) = false := by rw [beq_eq_false_iff_ne]; omega
        have hb2 : (k == s.size) = false := by rw [beq_eq_false_iff_ne]; exact hq
        clear hq
        go_enter Tryd.func46, Tryd.ntmps46
        go_wp2_with (first | (go_at_call 39; refine (c_letter s[0] _).mono ?_; rw [h1]; rintro e w' ⟨rfl, rfl⟩) | (go_at_call 40; refine (c_run_inner s hs _).mono ?_; rw [HK.out]; rintro e w' ⟨rfl, rfl⟩))
        go_ret
        exact ⟨ret_bool HQ.out.symm, rfl⟩
  · have ht : s.data.toList = [] := List.eq_nil_of_length_eq_zero (by rw [len_toList]; omega)
    have he : s.toList.isEmpty = true := by rw [Lib.toList_data, ht]; rfl
    have HR : Hid (r = false) := by unfold Hid; rw [← hr, ht]; rfl
    clear hr ht
    go_enter Tryd.func46, Tryd.ntmps46
    go_wp2
    go_ret
    exact ⟨ret_bool HR.out.symm, rfl⟩

/-- The contract of Number. -/
theorem c_number (s : ByteArray) (hs : s.size ≤ 281474976710656) (w : World) (hL : Laid w) :
    Calls Tryd.prog 20 #[.string s] w fun e w' => e = .returned (.tuple #[.int .i64 (numF s.data.toList).1, .bool (numF s.data.toList).2]) ∧ Below w.heap.size w w' := by
  have HL := Lib.hid hL
  clear hL
  obtain ⟨r, hr⟩ : ∃ r, numF s.data.toList = r := ⟨_, rfl⟩
  rw [hr]
  obtain ⟨q, hq⟩ : ∃ q, parseI s.data.toList = q := ⟨_, rfl⟩
  rw [numF, hq] at hr
  obtain ⟨n, b⟩ := q
  have HQ := Lib.hid hq
  cases b
  · have HR : Hid (r = (0, false)) := by unfold Hid; rw [← hr, if_neg (by simp)]
    clear hr hq
    go_enter Tryd.func20, Tryd.ntmps20
    go_wp2_with (go_at_call 37; refine (c_parse s hs _ HL.out).mono ?_; rw [HQ.out]; rintro e w1 ⟨rfl, hb1⟩)
    go_ret2
    exact ⟨ret2 HR.out, hb1⟩
  · by_cases h0 : 0 ≤ n
    · have HR : Hid (r = (n, true)) := by unfold Hid; rw [← hr, if_pos ⟨rfl, h0⟩]
      clear hr hq
      go_enter Tryd.func20, Tryd.ntmps20
      go_wp2_with (go_at_call 37; refine (c_parse s hs _ HL.out).mono ?_; rw [HQ.out]; rintro e w1 ⟨rfl, hb1⟩)
      go_ret2
      exact ⟨ret2 HR.out, hb1⟩
    · have HR : Hid (r = (0, false)) := by unfold Hid; rw [← hr, if_neg (fun h => h0 h.2)]
      clear hr hq
      go_enter Tryd.func20, Tryd.ntmps20
      go_wp2_with (go_at_call 37; refine (c_parse s hs _ HL.out).mono ?_; rw [HQ.out]; rintro e w1 ⟨rfl, hb1⟩)
      go_ret2
      exact ⟨ret2 HR.out, hb1⟩
end Go.Proofs.YtiabiflaecidoaaDoor
