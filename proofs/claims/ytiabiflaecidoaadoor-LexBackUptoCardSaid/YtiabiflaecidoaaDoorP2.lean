/-
  Tokens with what is known of its result; the law LexAccepts.
-/
import Derived.Test.YtiabiflaecidoaaDoorP1
namespace Go.Proofs.YtiabiflaecidoaaDoor
open Go.RowKit

theorem step_len (st : St) (l : List UInt8) : (stepT st l).toks.length ≤ st.toks.length + 1 := by
  unfold stepT
  split
  · omega
  · split
    · simp
    · split
      · simp only; split <;> simp
      · split
        · omega
        · split
          · simp
          · split
            · simp
            · simp
theorem scan_len : ∀ (l : List UInt8) (st : St), (scan l st).toks.length ≤ st.toks.length + l.length
  | [], st => by simp [scan]
  | c :: r, st => by
    have h1 := step_len st (c :: r)
    unfold scan
    split
    · simp only [List.length_cons]; omega
    · have := scan_len r (stepT st (c :: r))
      simp only [List.length_cons]; omega
theorem tokensF_len (l : List UInt8) : (tokensF l).1.length ≤ 20002 := by
  unfold tokensF
  split
  · simp
  · rename_i h
    split
    · simp
    · have := scan_len l st0
      have e : st0.toks.length = 0 := rfl
      simp only [List.length_append, List.length_singleton]
      split
      · simp only [List.length_append, List.length_singleton]; omega
      · omega

/-- Tokens: the list, the line, the error; the list lies in blocks of the call's own -/
theorem c_toks (s : ByteArray) (hs : s.size ≤ 281474976710656) (w : World) (hL : Laid w) :
    Calls Tryd.prog 11 #[.string s] w fun e w' => ∃ A cap, e = .returned (.tuple #[.slice A (tokensF s.data.toList).1.length cap, .int .i64 (tokensF s.data.toList).2.1, .int .i64 (tokensF s.data.toList).2.2]) ∧
      Toks w' (.slice A (tokensF s.data.toList).1.length cap) w'.heap.size (tokensF s.data.toList).1 ∧ Below w.heap.size w w' := by
  refine (c_tokens s hs w hL).mono ?_
  rintro e w' ⟨v, rfl, ho, hb⟩
  have hn := tokensF_len s.data.toList
  have ht := toks_of_own ho (by omega) (fun t h => by
    have := tokensF_txt s.data.toList t h
    rw [len_toList] at this; omega)
  obtain ⟨A, cap, rfl⟩ := toks_at ht
  exact ⟨A, cap, rfl, ht, hb⟩

set_option maxRecDepth 100000 in
set_option maxHeartbeats 8000000 in
theorem c_accepts (s : ByteArray) (hs : s.size ≤ 281474976710656) (w : World) (hL : Laid w) :
    Calls Tryd.prog 4 #[.string s] w fun e w' => e = .returned (.bool true) ∧ Below w.heap.size w w' := by
  have HL := Lib.hid hL
  have HG := Lib.hid (tokensF_good s.data.toList)
  have hlen := tokensF_len s.data.toList
  have HCT := Lib.hid (c_toks s hs w hL)
  clear hL
  obtain ⟨⟨ts, n, e⟩, hr⟩ : ∃ r, tokensF s.data.toList = r := ⟨_, rfl⟩
  rw [hr] at HCT HG hlen
  clear hr
  go_enter Tryd.func4, Tryd.ntmps4
  go_wp2_with (fail)
  refine HCT.out.mono ?_
  rintro e1 w1 ⟨A, cap, rfl, ht1, hb1⟩
  have HT1 := Lib.hid ht1
  have HB1 := Lib.hid hb1
  clear ht1 hb1 HCT
  by_cases hbig : 600 < s.size ∨ e ≠ 0
  · have HAW : Hid (Calls Tryd.prog 10 #[] w1 fun e w' => e = .returned (.bool true) ∧ Below w1.heap.size w1 w') := c_awake w1 (HL.out.below HB1.out)
    have hb2 : 600 < s.size ∨ (¬ 600 < s.size ∧ (e != 0) = true) := by
      by_cases h : 600 < s.size
      · exact .inl h
      · refine .inr ⟨h, ?_⟩
        rcases hbig with h' | h'
        · exact absurd h' h
        · simpa using h'
    clear hbig
    rcases hb2 with hb2 | ⟨_, hb2⟩
    all_goals
      go_wp2_with (go_at_call 10; refine HAW.out.mono ?_; rintro e2 w2 ⟨rfl, hb3⟩; have HB3 := Lib.hid (HB1.out.trans (hb3.mono HB1.out.size)); clear hb3)
    all_goals
      go_ret
      exact ⟨rfl, HB3.out⟩
  · have hl6 : ¬ 600 < s.size := fun h => hbig (.inl h)
    have he0 : e = 0 := by
      by_cases h : e = 0
      · exact h
      · exact absurd (.inr h) hbig
    subst he0
    have HCK : Hid (checkF ts = 0) := HG.out rfl
    have HLN : Hid (linesF ts = count4 ts) := by unfold Hid; rw [linesF, if_neg (by rw [HCK.out]; simp)]
    clear hbig
    go_wp2
    go_loopw [6, 7] (fun c i wr => ∃ k : Nat, k ≤ ts.length ∧ i = .int .i64 k ∧ c = .int .i64 (count4 (ts.take k)) ∧ wr = w1) (fun _ i _ => ts.length - (intOf i).toNat)
    case atStart => exact ⟨0, Nat.zero_le _, rfl, rfl, rfl⟩
    case round =>
      obtain ⟨k, hk, rfl, rfl, rfl⟩ := hrel
      by_cases hlt : k < ts.length
      · obtain ⟨A', cap', hv, hx⟩ := HT1.out.ex
        obtain ⟨b, o, rfl, _, hc⟩ := hx (by omega)
        injection hv with e1 e2 e3
        subst e1
        obtain ⟨t, ht⟩ : ∃ t, ts[k] = t := ⟨_, rfl⟩
        obtain ⟨x1, x2, x3, x4⟩ := hc k t (by rw [List.getElem?_eq_getElem hlt, ht])
        have hcs := count4_step ts k hlt
        rw [ht] at hcs
        have hcl := count4_le (ts.take k)
        have hcl2 : (ts.take k).length ≤ ts.length := by simp; omega
        clear hc ht hx e2 e3
        obtain ⟨m, hm⟩ : ∃ m, count4 (ts.take k) = m := ⟨_, rfl⟩
        rw [hm] at hcs hcl ⊢
        by_cases h4 : t.kind = 4
        · have b4 := beqT h4
          rw [if_pos h4] at hcs
          have HN := Lib.hid hcs
          clear hm hcs h4
          go_wp2
          go_roundw
          case rel => exact ⟨k + 1, by omega, rfl, by rw [HN.out]; rfl, trivial⟩
          case measure => simp only [intOf]; omega
        · have b4 := beqF h4
          rw [if_neg h4] at hcs
          have HN := Lib.hid hcs
          clear hm hcs h4
          go_wp2
          go_roundw
          case rel => exact ⟨k + 1, by omega, rfl, by rw [HN.out]; rfl, trivial⟩
          case measure => simp only [intOf]; omega
      · obtain rfl : k = ts.length := by omega
        have hct : count4 (ts.take ts.length) = count4 ts := by rw [List.take_length]
        rw [hct]
        have hself : ((count4 ts : Int) == (count4 ts : Int)) = true := beqT rfl
        clear hct
        go_wp2_with (fail)
        refine (c_check ts _ _ HT1.out).mono ?_
        rw [HCK.out]
        rintro e2 w2 ⟨rfl, hb2⟩
        have HT2 := Lib.hid (HT1.out.more hb2)
        have HB2 := Lib.hid (HB1.out.trans (hb2.mono HB1.out.size))
        clear hb2
        go_wp2_with (fail)
        refine (c_lines ts _ _ HT2.out).mono ?_
        rw [HLN.out]
        rintro e3 w3 ⟨rfl, hb3⟩
        have HB3 := Lib.hid (HB2.out.trans (hb3.mono HB2.out.size))
        clear hb3
        go_wp2_with (fail)
        refine (c_awake _ (HL.out.below HB3.out)).mono ?_
        rintro e4 w4 ⟨rfl, hb4⟩
        have HB4 := Lib.hid (HB3.out.trans (hb4.mono HB3.out.size))
        clear hb4
        go_wp2
        go_ret
        exact ⟨rfl, HB4.out⟩
end Go.Proofs.YtiabiflaecidoaaDoor
