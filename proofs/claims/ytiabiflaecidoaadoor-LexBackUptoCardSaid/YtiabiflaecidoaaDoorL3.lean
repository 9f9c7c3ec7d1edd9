/-
  The contract of token of lex.
-/
import Derived.Test.YtiabiflaecidoaaDoorL2
namespace Go.Proofs.YtiabiflaecidoaaDoor
open Go.RowKit

theorem tokenF_letter (s : ByteArray) (h : 0 < s.size) (h1 : isLetter s[0] = true) : tokenF s.data.toList = (⟨1, s.data.toList.take (runN isInner s.data.toList), 0, 0⟩, runN isInner s.data.toList) := by
  obtain ⟨t, ht⟩ := head_cons s h
  unfold tokenF; rw [ht]; simp only [h1, if_true]
theorem tokenF_number (s : ByteArray) (h : 0 < s.size) (h1 : isLetter s[0] = false) (h2 : isDigit s[0] = true) (n : Int) (h3 : numF (s.data.toList.take (runN isDigit s.data.toList)) = (n, true)) :
    tokenF s.data.toList = (⟨2, [], n, 0⟩, runN isDigit s.data.toList) := by
  obtain ⟨t, ht⟩ := head_cons s h
  unfold tokenF; rw [ht] at h3 ⊢; simp [h1, h2, h3]
theorem tokenF_digits (s : ByteArray) (h : 0 < s.size) (h1 : isLetter s[0] = false) (h2 : isDigit s[0] = true) (n : Int) (h3 : numF (s.data.toList.take (runN isDigit s.data.toList)) = (n, false)) :
    tokenF s.data.toList = (⟨0, [], 0, 0⟩, 0) := by
  obtain ⟨t, ht⟩ := head_cons s h
  unfold tokenF; rw [ht] at h3 ⊢; simp [h1, h2, h3]
theorem tokenF_sign (s : ByteArray) (h : 0 < s.size) (h1 : isLetter s[0] = false) (h2 : isDigit s[0] = false) :
    tokenF s.data.toList = (⟨3, s.data.toList.take (signN s.data.toList), 0, 0⟩, signN s.data.toList) := by
  obtain ⟨t, ht⟩ := head_cons s h
  unfold tokenF; rw [ht]; simp [h1, h2]
theorem ext0 (s : ByteArray) (k : Nat) : s.extract 0 k = ⟨(s.data.toList.take k).toArray⟩ := by
  apply WideShapes.bytes_inj
  rw [Lib.extract_data]; simp
theorem hasPrefix_len (l : List UInt8) (a b : UInt8) (h : Lib.hasPrefix l [a, b] = true) : 2 ≤ l.length := by
  match l, h with
  | [], h => simp [Lib.hasPrefix] at h
  | [x], h => simp [Lib.hasPrefix] at h
  | x :: y :: r, _ => simp
theorem signN_le (l : List UInt8) : signN l ≤ l.length := by
  unfold signN
  split
  · rename_i h
    simp only [Bool.or_eq_true] at h
    rcases h with (h | h) | h <;> exact hasPrefix_len _ _ _ h
  · split
    · simp
    · split <;> simp

/-- behind a call that made memory, a block of four cells that the call's caller had made just before reads as it did -/
theorem blk4 {w w1 : World} {v0 v1 v2 v3 : Value} {T : TypeId} (hb : Below (w.alloc (.cells #[v0, v1, v2, v3] T)).heap.size (w.alloc (.cells #[v0, v1, v2, v3] T)) w1) :
    (w1.cell? ⟨w.heap.size, 0, none⟩ = some v0 ∧ w1.cell? ⟨w.heap.size, 1, none⟩ = some v1 ∧ w1.cell? ⟨w.heap.size, 2, none⟩ = some v2 ∧ w1.cell? ⟨w.heap.size, 3, none⟩ = some v3) ∧
    (w1.frozen? ⟨w.heap.size, 0, none⟩ = false ∧ w1.frozen? ⟨w.heap.size, 1, none⟩ = false ∧ w1.frozen? ⟨w.heap.size, 2, none⟩ = false ∧ w1.frozen? ⟨w.heap.size, 3, none⟩ = false) ∧ Below w.heap.size w w1 := by
  have hs : (w.alloc (.cells #[v0, v1, v2, v3] T)).heap.size = w.heap.size + 1 := by show (w.heap.push _).size = _; simp
  have hg : (w.alloc (.cells #[v0, v1, v2, v3] T)).heap[w.heap.size]? = some (.cells #[v0, v1, v2, v3] T (0, 0)) := by show (w.heap.push _)[w.heap.size]? = _; simp
  have h1 := hb.block w.heap.size (by omega)
  rw [hg] at h1
  refine ⟨?_, ?_, ((Below.refl _ _).alloc (Nat.le_refl _) _).trans (hb.mono (by omega))⟩
  · simp [World.cell?, h1]
  · simp [World.frozen?, h1]

set_option maxHeartbeats 1000000 in
theorem c_token (s : ByteArray) (hz : 0 < s.size) (hs : s.size ≤ 281474976710656) (w : World) (hL : Laid w) :
    Calls Tryd.prog 24 #[.string s] w fun e w' => e = .returned (.tuple #[.agg (tokenF s.data.toList).1.cells, .int .i64 ((tokenF s.data.toList).2 : Nat)]) ∧ Below w.heap.size w w' := by
  have HL := Lib.hid (hL.below (Below.alloc (Below.refl w.heap.size w) (Nat.le_refl _) (.cells #[.int .i64 0, .string ⟨#[]⟩, .int .i64 0, .int .i64 0] 31)))
  clear hL
  obtain ⟨r, hr⟩ : ∃ r, tokenF s.data.toList = r := ⟨_, rfl⟩
  rw [hr]
  cases h1 : isLetter s[0]
  · cases h2 : isDigit s[0]
    · obtain ⟨k, hk⟩ : ∃ k, signN s.data.toList = k := ⟨_, rfl⟩
      have hle := signN_le s.data.toList
      rw [len_toList, hk] at hle
      have HK := Lib.hid hk
      have HR : Hid (r = (⟨3, s.data.toList.take k, 0, 0⟩, k)) := by unfold Hid; rw [← hr, tokenF_sign s hz h1 h2, hk]
      clear hr hk
      go_enter Tryd.func24, Tryd.ntmps24
      go_wp2_with (first | (go_at_call 39; refine (c_letter s[0] _).mono ?_; rw [h1]; rintro e w' ⟨rfl, rfl⟩) | (go_at_call 42; refine (c_digit s[0] _).mono ?_; rw [h2]; rintro e w' ⟨rfl, rfl⟩) | (go_at_call 43; refine (c_sign s _).mono ?_; rw [HK.out]; rintro e w' ⟨rfl, rfl⟩))
      exact bodyPost_ret (v := .tuple #[.agg #[.int .i64 3, .string (s.extract 0 k), .int .i64 0, .int .i64 0], .int .i64 k]) (by simp [results, Tryd.results24, go_sem]) rfl ⟨by rw [HR.out, ext0]; rfl, (Below.refl _ _).alloc (Nat.le_refl _) _⟩
    · obtain ⟨k, hk⟩ : ∃ k, runN isDigit s.data.toList = k := ⟨_, rfl⟩
      have hle := runN_le isDigit s.data.toList
      rw [len_toList, hk] at hle
      have HK := Lib.hid hk
      obtain ⟨⟨n, b⟩, hq⟩ : ∃ q, numF ((s.extract 0 k).data.toList) = q := ⟨_, rfl⟩
      have hq' : numF (s.data.toList.take (runN isDigit s.data.toList)) = (n, b) := by rw [← hq, hk, Lib.extract_data]; simp
      have HQ := Lib.hid hq
      have hsz : (s.extract 0 k).size ≤ 281474976710656 := by rw [ByteArray.size_extract]; omega
      have HS := Lib.hid hsz
      cases b
      · have HR : Hid (r = (⟨0, [], 0, 0⟩, 0)) := by unfold Hid; rw [← hr, tokenF_digits s hz h1 h2 n hq']
        clear hr hk hq hq' hsz
        go_enter Tryd.func24, Tryd.ntmps24
        go_wp2_with (first | (go_at_call 39; refine (c_letter s[0] _).mono ?_; rw [h1]; rintro e w' ⟨rfl, rfl⟩) | (go_at_call 42; refine (c_digit s[0] _).mono ?_; rw [h2]; rintro e w' ⟨rfl, rfl⟩) | (go_at_call 40; refine (c_run_digit s hs _).mono ?_; rw [HK.out]; rintro e w' ⟨rfl, rfl⟩) | (go_at_call 20; refine (c_number (s.extract 0 k) HS.out _ HL.out).mono ?_; rw [HQ.out]; rintro e w1 ⟨rfl, hb1⟩; obtain ⟨⟨c0, c1, c2, c3⟩, ⟨f0, f1, f2, f3⟩, hB⟩ := blk4 hb1; clear hb1))
        exact bodyPost_ret (v := .tuple #[.agg #[.int .i64 0, .string ⟨#[]⟩, .int .i64 0, .int .i64 0], .int .i64 0]) (by simp [results, Tryd.results24, go_sem, c0, c1, c2, c3]) rfl ⟨by rw [HR.out]; rfl, by go_grown⟩
      · have HR : Hid (r = (⟨2, [], n, 0⟩, k)) := by unfold Hid; rw [← hr, tokenF_number s hz h1 h2 n hq', hk]
        clear hr hk hq hq' hsz
        go_enter Tryd.func24, Tryd.ntmps24
        go_wp2_with (first | (go_at_call 39; refine (c_letter s[0] _).mono ?_; rw [h1]; rintro e w' ⟨rfl, rfl⟩) | (go_at_call 42; refine (c_digit s[0] _).mono ?_; rw [h2]; rintro e w' ⟨rfl, rfl⟩) | (go_at_call 40; refine (c_run_digit s hs _).mono ?_; rw [HK.out]; rintro e w' ⟨rfl, rfl⟩) | (go_at_call 20; refine (c_number (s.extract 0 k) HS.out _ HL.out).mono ?_; rw [HQ.out]; rintro e w1 ⟨rfl, hb1⟩; obtain ⟨⟨c0, c1, c2, c3⟩, ⟨f0, f1, f2, f3⟩, hB⟩ := blk4 hb1; clear hb1))
        exact bodyPost_ret (v := .tuple #[.agg #[.int .i64 2, .string ⟨#[]⟩, .int .i64 n, .int .i64 0], .int .i64 k]) (by simp [results, Tryd.results24, go_sem, c0, c1, c2, c3]) rfl ⟨by rw [HR.out]; rfl, by go_grown⟩
  · obtain ⟨k, hk⟩ : ∃ k, runN isInner s.data.toList = k := ⟨_, rfl⟩
    have hle := runN_le isInner s.data.toList
    rw [len_toList, hk] at hle
    have HK := Lib.hid hk
    have HR : Hid (r = (⟨1, s.data.toList.take k, 0, 0⟩, k)) := by unfold Hid; rw [← hr, tokenF_letter s hz h1, hk]
    clear hr hk
    go_enter Tryd.func24, Tryd.ntmps24
    go_wp2_with (first | (go_at_call 39; refine (c_letter s[0] _).mono ?_; rw [h1]; rintro e w' ⟨rfl, rfl⟩) | (go_at_call 40; refine (c_run_inner s hs _).mono ?_; rw [HK.out]; rintro e w' ⟨rfl, rfl⟩))
    exact bodyPost_ret (v := .tuple #[.agg #[.int .i64 1, .string (s.extract 0 k), .int .i64 0, .int .i64 0], .int .i64 k]) (by simp [results, Tryd.results24, go_sem]) rfl ⟨by rw [HR.out, ext0]; rfl, (Below.refl _ _).alloc (Nat.le_refl _) _⟩
end Go.Proofs.YtiabiflaecidoaaDoor
