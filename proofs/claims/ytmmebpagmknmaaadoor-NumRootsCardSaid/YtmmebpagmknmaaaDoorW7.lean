/-
  The walks of the six laws.
-/
import Derived.Test.YtmmebpagmknmaaaDoorW6
namespace Go.Proofs.YtmmebpagmknmaaaDoor
open Go.RowKit

theorem l_bounds (n : Int) (w : World) (hL : Laid w) :
    Calls Tryd.prog 3 #[.int .i64 n] w fun e w' => e = .returned (.bool true) ∧ Below w.heap.size w w' := by
  have HL := Lib.hid hL
  clear hL
  go_enter Tryd.func3, Tryd.ntmps3
  go_wp2_with fail
  refine (c_clip _ _).mono ?_
  rintro e w' ⟨rfl, rfl⟩
  go_wp2_with fail
  refine (c_in n _).mono ?_
  rintro e w' ⟨rfl, rfl⟩
  go_wp2_with fail
  refine (c_rin n _).mono ?_
  rintro e w' ⟨rfl, rfl⟩
  go_wp2_with fail
  refine (c_rclip n _).mono ?_
  rintro e w' ⟨rfl, rfl⟩
  go_wp2_with fail
  refine (c_in (clip n) _).mono ?_
  rw [inB_clip]
  rintro e w' ⟨rfl, rfl⟩
  go_wp2_with fail
  refine (c_clip (clip n) _).mono ?_
  rw [clip_clip]
  rintro e w' ⟨rfl, rfl⟩
  go_wp2_with fail
  refine (c_awake _ HL.out).mono ?_
  rintro e w' ⟨rfl, hb⟩
  go_wp2_with fail
  go_ret
  exact ⟨rfl, hb⟩

theorem l_sums (a b : Int) (w : World) (hL : Laid w) :
    Calls Tryd.prog 4 #[.int .i64 a, .int .i64 b] w fun e w' => e = .returned (.bool true) ∧ Below w.heap.size w w' := by
  have HL := Lib.hid hL
  clear hL
  go_enter Tryd.func4, Tryd.ntmps4
  go_wp2_with fail
  refine (c_add a b _).mono ?_
  rintro e w' ⟨rfl, rfl⟩
  go_wp2_with fail
  refine (c_mul a b _).mono ?_
  rintro e w' ⟨rfl, rfl⟩
  go_wp2_with fail
  refine (c_radd a b _).mono ?_
  rintro e w' ⟨rfl, rfl⟩
  go_wp2_with fail
  refine (c_rmul a b _).mono ?_
  rintro e w' ⟨rfl, rfl⟩
  go_wp2_with fail
  refine (c_add b a _).mono ?_
  rw [addI_comm]
  rintro e w' ⟨rfl, rfl⟩
  go_wp2_with fail
  refine (c_mul b a _).mono ?_
  rw [mulI_comm]
  rintro e w' ⟨rfl, rfl⟩
  go_wp2_with fail
  refine (c_in (addI a b) _).mono ?_
  rw [show inB (addI a b) = true from inB_clip _]
  rintro e w' ⟨rfl, rfl⟩
  go_wp2_with fail
  refine (c_in (mulI a b) _).mono ?_
  rw [show inB (mulI a b) = true from inB_clip _]
  rintro e w' ⟨rfl, rfl⟩
  go_wp2_with fail
  refine (c_awake _ HL.out).mono ?_
  rintro e w' ⟨rfl, hb⟩
  go_wp2_with fail
  go_ret
  exact ⟨rfl, hb⟩

theorem l_quotients (a b : Int) (w : World) (hL : Laid w) :
    Calls Tryd.prog 5 #[.int .i64 a, .int .i64 b] w fun e w' => e = .returned (.bool true) ∧ Below w.heap.size w w' := by
  have HL := Lib.hid hL
  clear hL
  go_enter Tryd.func5, Tryd.ntmps5
  go_wp2_with (first
    | (go_at_call 18; refine (c_div a b _).mono ?_; rintro e w' ⟨rfl, rfl⟩)
    | (go_at_call 19; refine (c_rdiv a b _).mono ?_; rintro e w' ⟨rfl, rfl⟩)
    | (go_at_call 20; refine (c_mod a b _).mono ?_; rintro e w' ⟨rfl, rfl⟩)
    | (go_at_call 21; refine (c_rmod a b _).mono ?_; rintro e w' ⟨rfl, rfl⟩)
    | (go_at_call 22; refine (c_gcd a b _).mono ?_; rintro e w1 ⟨rfl, hb1⟩; have HL1 := Lib.hid (HL.out.below hb1))
    | (go_at_call 23; refine (c_rgcd a b _).mono ?_; rintro e w2 ⟨rfl, hb2⟩; have HL2 := Lib.hid (HL1.out.below hb2))
    | (go_at_call 13; refine (c_awake _ HL2.out).mono ?_; rintro e w3 ⟨rfl, hb3⟩))
  go_ret
  exact ⟨rfl, hb1.trans ((hb2.trans (hb3.mono hb2.size)).mono hb1.size)⟩

theorem l_roots (n : Int) (hn : n ≤ 9223372036854775807) (w : World) (hL : Laid w) :
    Calls Tryd.prog 8 #[.int .i64 n] w fun e w' => e = .returned (.bool true) ∧ Below w.heap.size w w' := by
  have HL := Lib.hid hL
  clear hL
  by_cases h0 : n ≤ 0
  · go_enter Tryd.func8, Tryd.ntmps8
    go_wp2_with (first | (go_at_call 24; refine (c_root0 n h0 _).mono ?_; rintro e w' ⟨rfl, rfl⟩) | (go_at_call 13; refine (c_awake _ HL.out).mono ?_; rintro e w3 ⟨rfl, hb3⟩))
    go_ret
    exact ⟨rfl, hb3⟩
  · have h1 : 1 ≤ n := by omega
    go_enter Tryd.func8, Tryd.ntmps8
    go_wp2_with fail
    refine (c_root n h1 hn _).mono ?_
    rintro e w' ⟨⟨r, rfl, r0, r3, r1, r2⟩, rfl⟩
    obtain ⟨f1, f2, f3⟩ := roots n r r0 r1 r2 (by omega)
    clear r1 r2
    go_wp2_with (go_at_call 13; refine (c_awake _ HL.out).mono ?_; rintro e w3 ⟨rfl, hb3⟩)
    go_ret
    exact ⟨rfl, hb3⟩

set_option maxHeartbeats 4000000 in
theorem l_divisors (a b d : Int) (w : World) (hL : Laid w) :
    Calls Tryd.prog 7 #[.int .i64 a, .int .i64 b, .int .i64 d] w fun e w' => e = .returned (.bool true) ∧ Below w.heap.size w w' := by
  have HL := Lib.hid hL
  clear hL
  by_cases hin : (-1000000000000 ≤ a ∧ a ≤ 1000000000000) ∧ (-1000000000000 ≤ b ∧ b ≤ 1000000000000)
  · obtain ⟨ha, hb⟩ := hin
    by_cases hz : a = 0 ∧ b = 0
    · obtain ⟨rfl, rfl⟩ := hz
      go_enter Tryd.func7, Tryd.ntmps7
      go_wp2_with (first
        | (go_at_call 22; refine (c_gcd 0 0 _).mono ?_; rw [gcdI_zero]; rintro e w1 ⟨rfl, hb1⟩; have HL1 := Lib.hid (HL.out.below hb1))
        | (go_at_call 13; refine (c_awake _ HL1.out).mono ?_; rintro e w3 ⟨rfl, hb3⟩))
      go_ret
      exact ⟨rfl, hb1.trans (hb3.mono hb1.size)⟩
    · obtain ⟨g1, g2, g3, g4, g5, g6, g7⟩ := gcd_facts a b ha hb hz
      obtain ⟨g, hg⟩ : ∃ g, gcdI a b = g := ⟨_, rfl⟩
      rw [hg] at g1 g2 g3 g4 g5 g6 g7
      have HG := Lib.hid hg
      have HG2 := Lib.hid ((gcdI_comm a b).trans hg)
      have m1 : (a.tmod g != 0) = false := by rw [g3]; rfl
      have m2 : (b.tmod g != 0) = false := by rw [g4]; rfl
      have m3 : (a % g != 0) = false := by rw [g5]; rfl
      have m4 : (b % g != 0) = false := by rw [g6]; rfl
      have hz1 : (a == 0) = false ∨ ((a == 0) = true ∧ (b == 0) = false) := by
        by_cases h : a = 0
        · exact .inr ⟨by rw [h]; rfl, by rw [beq_eq_false_iff_ne]; exact fun e => hz ⟨h, e⟩⟩
        · exact .inl (by rw [beq_eq_false_iff_ne]; exact h)
      have hd : ¬ 0 < d ∨ (0 < d ∧ ((a.tmod d == 0) = false ∧ (a % d == 0) = false ∨ ((a.tmod d == 0) = true ∧ (a % d == 0) = true ∧ (b.tmod d == 0) = false ∧ (b % d == 0) = false) ∨ ((a.tmod d == 0) = true ∧ (a % d == 0) = true ∧ (b.tmod d == 0) = true ∧ (b % d == 0) = true ∧ (g.tmod d != 0) = false ∧ (g % d != 0) = false))) := by
        have key : ∀ x : Int, (x.tmod d == 0) = (x % d == 0) := by
          intro x
          rw [Bool.eq_iff_iff]
          simp only [beq_iff_eq]
          exact (Int.dvd_iff_tmod_eq_zero (a := d) (b := x)).symm.trans (Int.dvd_iff_emod_eq_zero)
        by_cases h : 0 < d
        · refine .inr ⟨h, ?_⟩
          by_cases k1 : a.tmod d = 0
          · have k1' := beq_iff_eq.2 k1
            by_cases k2 : b.tmod d = 0
            · have k2' := beq_iff_eq.2 k2
              obtain ⟨k3, k4⟩ := g7 d h k1 k2
              exact .inr (.inr ⟨k1', (key a).symm.trans k1', k2', (key b).symm.trans k2', by rw [k3]; rfl, by rw [k4]; rfl⟩)
            · have k2' := beq_eq_false_iff_ne.2 k2
              exact .inr (.inl ⟨k1', (key a).symm.trans k1', k2', (key b).symm.trans k2'⟩)
          · have k1' := beq_eq_false_iff_ne.2 k1
            exact .inl ⟨k1', (key a).symm.trans k1'⟩
        · exact .inl h
      clear g3 g4 g5 g6 g7 hg hz
      rcases hz1 with z1 | ⟨z1, z2⟩
      all_goals rcases hd with h0 | ⟨h0, (⟨k1, k2⟩ | ⟨k1, k2, k3, k4⟩ | ⟨k1, k2, k3, k4, k5, k6⟩)⟩
      all_goals
        go_enter Tryd.func7, Tryd.ntmps7
        go_wp2_with fail
        refine (c_gcd a b _).mono ?_
        rw [HG.out]
        rintro e w1 ⟨rfl, hb1⟩
        have HL1 := Lib.hid (HL.out.below hb1)
        go_wp2_with fail
        refine (c_gcd b a _).mono ?_
        rw [HG2.out]
        rintro e w2 ⟨rfl, hb2⟩
        have HL2 := Lib.hid (HL1.out.below hb2)
        go_wp2_with fail
        refine (c_awake _ HL2.out).mono ?_
        rintro e w3 ⟨rfl, hb3⟩
        go_wp2_with fail
        go_ret
        exact ⟨rfl, hb1.trans ((hb2.trans (hb3.mono hb2.size)).mono hb1.size)⟩
  · have ho : 1000000000000 < a ∨ (¬ 1000000000000 < a ∧ (a < -1000000000000 ∨ (¬ a < -1000000000000 ∧ (1000000000000 < b ∨ (¬ 1000000000000 < b ∧ b < -1000000000000))))) := by omega
    clear hin
    rcases ho with h1 | ⟨h1, (h2 | ⟨h2, (h3 | ⟨h3, h4⟩)⟩)⟩
    all_goals
      go_enter Tryd.func7, Tryd.ntmps7
      go_wp2_with (go_at_call 13; refine (c_awake _ HL.out).mono ?_; rintro e w3 ⟨rfl, hb3⟩)
      go_ret
      exact ⟨rfl, hb3⟩

set_option maxHeartbeats 4000000 in
theorem l_divides (a b : Int) (w : World) (hL : Laid w) :
    Calls Tryd.prog 6 #[.int .i64 a, .int .i64 b] w fun e w' => e = .returned (.bool true) ∧ Below w.heap.size w w' := by
  have HL := Lib.hid hL
  clear hL
  have hi1 := Lib.hid (inB_div a b)
  have hi2 := Lib.hid (inB_mod a b)
  by_cases hin : (-1000000000000 ≤ a ∧ a ≤ 1000000000000) ∧ (-1000000000000 ≤ b ∧ b ≤ 1000000000000)
  · obtain ⟨ha, hb⟩ := hin
    have hq := divI_in a b ha hb
    have hr := modI_in a b ha hb
    obtain ⟨q, hq'⟩ : ∃ q, divI a b = q := ⟨_, rfl⟩
    obtain ⟨r, hr'⟩ : ∃ r, modI a b = r := ⟨_, rfl⟩
    rw [hq'] at hi1
    rw [hr'] at hi2
    have hqb := (inB_iff q).1 hi1.out
    have hrb := (inB_iff r).1 hi2.out
    by_cases hz : b = 0
    · have e1 : (q == 0) = true := by rw [← hq', hq, hz, quo_zero _ _ rfl]; rfl
      have e2 : (r == a) = true := by rw [← hr', hr, hz]; simp
      have e3 : (b == 0) = true := by rw [hz]; rfl
      have HQ := Lib.hid hq'
      have HR := Lib.hid hr'
      clear hq hr hq' hr' hz
      go_enter Tryd.func6, Tryd.ntmps6
      go_wp2_with fail
      refine (c_div a b _).mono ?_
      rw [HQ.out]
      rintro e w' ⟨rfl, rfl⟩
      go_wp2_with fail
      refine (c_mod a b _).mono ?_
      rw [HR.out]
      rintro e w' ⟨rfl, rfl⟩
      go_wp2_with fail
      refine (c_in q _).mono ?_
      rw [hi1.out]
      rintro e w' ⟨rfl, rfl⟩
      go_wp2_with fail
      refine (c_in r _).mono ?_
      rw [hi2.out]
      rintro e w' ⟨rfl, rfl⟩
      go_wp2_with fail
      refine (c_awake _ HL.out).mono ?_
      rintro e w3 ⟨rfl, hb3⟩
      go_wp2_with fail
      go_ret
      exact ⟨rfl, hb3⟩
    · obtain ⟨f1, f2, f3, f4, f5, f6, f7⟩ := divides a b q r hz (hq'.symm.trans hq) (hr'.symm.trans hr)
      have e1 : (b == 0) = false := by rw [beq_eq_false_iff_ne]; exact hz
      have e2 : ((a - r).tmod b == 0) = true := by rw [f4]; rfl
      have e3 : ((a - r) % b == 0) = true := by rw [f5]; rfl
      have e4 : ((a - r).tdiv b == q) = true := by rw [f6]; simp
      have e5 : ((a - r) / b == q) = true := by rw [f7]; simp
      have e6 : -1000000000000 ≤ (a - r).tdiv b ∧ (a - r).tdiv b ≤ 1000000000000 := by rw [f6]; exact hqb
      have HQ := Lib.hid hq'
      have HR := Lib.hid hr'
      have hs : (0 < b ∧ ¬ r < 0 ∧ ¬ b ≤ r) ∨ (¬ 0 < b ∧ b < 0 ∧ ¬ 0 < r ∧ ¬ r ≤ b) := by
        have : 0 < b ∨ b < 0 := by omega
        rcases this with h | h
        · have := f2 h; exact .inl (by omega)
        · have := f3 h; exact .inr (by omega)
      clear hq hr hq' hr' f1 f2 f3 f4 f5 f6 f7 hz
      rcases hs with ⟨s1, s2, s3⟩ | ⟨s1, s2, s3, s4⟩
      all_goals
        go_enter Tryd.func6, Tryd.ntmps6
        go_wp2_with fail
        refine (c_div a b _).mono ?_
        rw [HQ.out]
        rintro e w' ⟨rfl, rfl⟩
        go_wp2_with fail
        refine (c_mod a b _).mono ?_
        rw [HR.out]
        rintro e w' ⟨rfl, rfl⟩
        go_wp2_with fail
        refine (c_in q _).mono ?_
        rw [hi1.out]
        rintro e w' ⟨rfl, rfl⟩
        go_wp2_with fail
        refine (c_in r _).mono ?_
        rw [hi2.out]
        rintro e w' ⟨rfl, rfl⟩
        go_wp2_with fail
        refine (c_awake _ HL.out).mono ?_
        rintro e w3 ⟨rfl, hb3⟩
        go_wp2_with fail
        go_ret
        exact ⟨rfl, hb3⟩
  · have ho : 1000000000000 < a ∨ (¬ 1000000000000 < a ∧ (a < -1000000000000 ∨ (¬ a < -1000000000000 ∧ (1000000000000 < b ∨ (¬ 1000000000000 < b ∧ b < -1000000000000))))) := by omega
    clear hin
    rcases ho with h1 | ⟨h1, (h2 | ⟨h2, (h3 | ⟨h3, h4⟩)⟩)⟩
    all_goals
      go_enter Tryd.func6, Tryd.ntmps6
      go_wp2_with fail
      refine (c_div a b _).mono ?_
      rintro e w' ⟨rfl, rfl⟩
      go_wp2_with fail
      refine (c_mod a b _).mono ?_
      rintro e w' ⟨rfl, rfl⟩
      go_wp2_with fail
      refine (c_in (divI a b) _).mono ?_
      rw [hi1.out]
      rintro e w' ⟨rfl, rfl⟩
      go_wp2_with fail
      refine (c_in (modI a b) _).mono ?_
      rw [hi2.out]
      rintro e w' ⟨rfl, rfl⟩
      go_wp2_with fail
      refine (c_awake _ HL.out).mono ?_
      rintro e w3 ⟨rfl, hb3⟩
      go_wp2_with fail
      go_ret
      exact ⟨rfl, hb3⟩
end Go.Proofs.YtmmebpagmknmaaaDoor
