/-
  Plain laws on the integers of chapter 01: clipping, floored division, roots; no program.
-/
import Derived.Test.YtiabiflaecidoaaDoorRows
namespace Go.Proofs.YtiabiflaecidoaaDoor

def clip (n : Int) : Int := max (-1000000000000) (min n 1000000000000)
theorem clip_bd (n : Int) : -1000000000000 ≤ clip n ∧ clip n ≤ 1000000000000 := by unfold clip; omega
theorem clip_in (n : Int) (h : -1000000000000 ≤ n) (h' : n ≤ 1000000000000) : clip n = n := by unfold clip; omega
theorem clip_clip (n : Int) : clip (clip n) = clip n := by unfold clip; omega
def inB (n : Int) : Bool := decide (-1000000000000 ≤ n) && decide (n ≤ 1000000000000)
def absI (n : Int) : Int := if n < 0 then -n else n
theorem absI_bd (n : Int) (h : -1000000000000 ≤ n) (h' : n ≤ 1000000000000) : 0 ≤ absI n ∧ absI n ≤ 1000000000000 := by unfold absI; split <;> omega
def addI (a b : Int) : Int := clip (clip a + clip b)
def mulI (a b : Int) : Int := clip (clip a * clip b)

/-- the floored quotient of numbers in bounds -/
def quo (x y : Int) : Int := if y = 0 then 0 else x.fdiv y
def divI (a b : Int) : Int := quo (clip a) (clip b)
def modI (a b : Int) : Int := clip a - clip b * divI a b

theorem quo_zero (x y : Int) (h : y = 0) : quo x y = 0 := by simp [quo, h]
theorem tdiv_bd (x y : Int) (h : -1000000000000 ≤ x) (h' : x ≤ 1000000000000) : -1000000000000 ≤ x.tdiv y ∧ x.tdiv y ≤ 1000000000000 := by
  have := Int.natAbs_tdiv_le_natAbs x y
  omega
theorem tdiv_one (x y : Int) (hy : y ≠ 0) (hm : x.tmod y ≠ 0) (h : -1000000000000 ≤ x) (h' : x ≤ 1000000000000) : -1000000000000 < x.tdiv y := by
  have h1 := Int.natAbs_tdiv_le_natAbs x y
  have h2 := Int.mul_tdiv_add_tmod x y
  by_cases e : x.tdiv y = -1000000000000
  · exfalso
    have hx : x.natAbs = 1000000000000 := by omega
    have h3 : y.natAbs * (x.tdiv y).natAbs ≤ x.natAbs := by
      rw [Int.natAbs_tdiv]; exact Nat.mul_div_le _ _
    have e' : (x.tdiv y).natAbs = 1000000000000 := by omega
    rw [e', hx] at h3
    have hy1 : y.natAbs = 1 := by omega
    apply hm
    have : y = 1 ∨ y = -1 := by omega
    rcases this with rfl | rfl <;> simp [Int.tmod_one, Int.tmod_neg]
  · omega
theorem quo_exact (x y : Int) (hy : ¬ y = 0) (hm : x.tmod y = 0) : quo x y = x.tdiv y := by
  rw [quo, if_neg hy, Int.fdiv_eq_tdiv, if_pos (Int.dvd_iff_tmod_eq_zero.2 hm)]; omega
theorem quo_less (x y : Int) (hy : ¬ y = 0) (hm : ¬ x.tmod y = 0) (hs : (x < 0 ∧ ¬ y < 0) ∨ (¬ x < 0 ∧ y < 0)) : quo x y = x.tdiv y - 1 := by
  have hd : ¬ y ∣ x := fun h => hm (Int.dvd_iff_tmod_eq_zero.1 h)
  rw [quo, if_neg hy, Int.fdiv_eq_tdiv, if_neg hd]
  rcases hs with ⟨h1, h2⟩ | ⟨h1, h2⟩
  · rw [if_neg (by omega), if_pos (by omega), Int.sign_eq_one_of_pos (by omega)]
  · rw [if_pos (by omega), if_neg (by omega)]
theorem quo_same (x y : Int) (hy : ¬ y = 0) (hm : ¬ x.tmod y = 0) (hs : (x < 0 ∧ y < 0) ∨ (¬ x < 0 ∧ ¬ y < 0)) : quo x y = x.tdiv y := by
  have hd : ¬ y ∣ x := fun h => hm (Int.dvd_iff_tmod_eq_zero.1 h)
  rw [quo, if_neg hy, Int.fdiv_eq_tdiv, if_neg hd]
  rcases hs with ⟨h1, h2⟩ | ⟨h1, h2⟩
  · rw [if_neg (by omega), if_neg (by omega), Int.sign_eq_neg_one_of_neg (by omega)]; omega
  · rw [if_pos (by omega), if_pos (by omega)]; omega

/-- the rest lies between 0 and the divisor -/
theorem rest (x y : Int) (hy : ¬ y = 0) : y * quo x y + x.fmod y = x ∧ ((0 < y → 0 ≤ x.fmod y ∧ x.fmod y < y) ∧ (y < 0 → x.fmod y ≤ 0 ∧ y < x.fmod y)) := by
  refine ⟨by rw [quo, if_neg hy]; exact Int.mul_fdiv_add_fmod x y, fun h => ⟨Int.fmod_nonneg_of_pos x h, Int.fmod_lt_of_pos x h⟩, fun h => ?_⟩
  have h1 : x.fmod y = -((-x).fmod (-y)) := by rw [Int.neg_fmod_neg]; omega
  have h2 := Int.fmod_nonneg_of_pos (-x) (b := -y) (by omega)
  have h3 := Int.fmod_lt_of_pos (-x) (b := -y) (by omega)
  omega
theorem mod_bd (x y : Int) (h1 : -1000000000000 ≤ x) (h2 : x ≤ 1000000000000) (h3 : -1000000000000 ≤ y) (h4 : y ≤ 1000000000000) :
    (-2000000000000 ≤ y * quo x y ∧ y * quo x y ≤ 2000000000000) ∧ (-1000000000000 ≤ x - y * quo x y ∧ x - y * quo x y ≤ 1000000000000) := by
  by_cases hy : y = 0
  · subst hy; simp; omega
  · have ⟨e, p, n⟩ := rest x y hy
    have : 0 < y ∨ y < 0 := by omega
    rcases this with h | h
    · have := p h; omega
    · have := n h; omega
theorem quo_bd (x y : Int) (h1 : -1000000000000 ≤ x) (h2 : x ≤ 1000000000000) : -1000000000000 ≤ quo x y ∧ quo x y ≤ 1000000000000 := by
  by_cases hy : y = 0
  · rw [quo_zero x y hy]; omega
  · have hb := tdiv_bd x y h1 h2
    by_cases hm : x.tmod y = 0
    · rw [quo_exact x y hy hm]; exact hb
    · have := tdiv_one x y hy hm h1 h2
      by_cases hs : (x < 0 ∧ ¬ y < 0) ∨ (¬ x < 0 ∧ y < 0)
      · rw [quo_less x y hy hm hs]; omega
      · rw [quo_same x y hy hm (by omega)]; exact hb

/-- the greatest common divisor of the absolute values -/
def gcdI (a b : Int) : Int := (Nat.gcd (clip a).natAbs (clip b).natAbs : Nat)
theorem absI_nat (n : Int) : absI n = (n.natAbs : Int) := by unfold absI; split <;> omega

/-- one step of the root: the bit is kept or not -/
theorem root_keep (n r bit : Int) (h : 0 < r + bit) (ht : r + bit ≤ n / (r + bit)) : (r + bit) * (r + bit) ≤ n := (Int.le_ediv_iff_mul_le h).1 ht
theorem root_drop (n r bit : Int) (h : 0 < r + bit) (ht : ¬ r + bit ≤ n / (r + bit)) : n < (r + bit) * (r + bit) := by
  have : ¬ (r + bit) * (r + bit) ≤ n := fun e => ht ((Int.le_ediv_iff_mul_le h).2 e)
  omega

def half : Nat → Int
  | 0 => 0
  | j + 1 => 2 ^ j
/-- what holds of the root and the bit at every round -/
def RootInv (n r bit : Int) : Prop := ∃ j : Nat, j ≤ 32 ∧ bit = half j ∧ 0 ≤ r ∧ r + 2 ^ j ≤ 4294967296 ∧ r * r ≤ n ∧ n < (r + 2 ^ j) * (r + 2 ^ j)
theorem half_half (j : Nat) : half (j + 1) / 2 = half j := by
  cases j with
  | zero => rfl
  | succ k => show (2 : Int) ^ (k + 1) / 2 = 2 ^ k; rw [Int.pow_succ]; exact Int.mul_ediv_cancel _ (by omega)
theorem pow_pos' (k : Nat) : (0 : Int) < 2 ^ k := Int.pow_pos (by omega)
theorem half_le (j : Nat) (h : j ≤ 32) : 0 ≤ half j ∧ half j ≤ 2147483648 := by
  cases j with
  | zero => simp [half]
  | succ k =>
    have h0 := pow_pos' k
    have h1 : (2 : Nat) ^ k ≤ 2 ^ 31 := Nat.pow_le_pow_right (by omega) (by omega)
    have h2 : (2 : Int) ^ k ≤ 2 ^ 31 := by exact_mod_cast h1
    simp only [half]; omega
theorem RootInv.start (n : Int) (h1 : 1 ≤ n) (h2 : n ≤ 9223372036854775807) : RootInv n 0 2147483648 :=
  ⟨32, by omega, by simp [half], by omega, by decide, by omega, by simp; omega⟩
theorem RootInv.bd {n r bit : Int} (h : RootInv n r bit) : 0 ≤ r ∧ r ≤ 4294967296 ∧ 0 ≤ bit ∧ bit ≤ 2147483648 := by
  obtain ⟨j, hj, rfl, h0, h1, h2, h3⟩ := h
  have := half_le j hj
  have := pow_pos' j
  omega
theorem RootInv.keep {n r bit : Int} (h : RootInv n r bit) (hb : 0 < bit) (ht : r + bit ≤ n / (r + bit)) : RootInv n (r + bit) (bit / 2) := by
  obtain ⟨j, hj, rfl, h0, h1, h2, h3⟩ := h
  cases j with
  | zero => simp [half] at hb
  | succ k =>
    have e : (2 : Int) ^ (k + 1) = 2 ^ k + 2 ^ k := by rw [Int.pow_succ]; omega
    rw [e] at h1 h3
    refine ⟨k, by omega, half_half k, ?_, ?_, ?_, ?_⟩
    · have := pow_pos' k; simp only [half]; omega
    · simp only [half]; omega
    · exact root_keep n r _ (by omega) ht
    · simp only [half]; rw [show r + 2 ^ k + 2 ^ k = r + (2 ^ k + 2 ^ k) by omega]; exact h3
theorem RootInv.drop {n r bit : Int} (h : RootInv n r bit) (hb : 0 < bit) (ht : ¬ r + bit ≤ n / (r + bit)) : RootInv n r (bit / 2) := by
  obtain ⟨j, hj, rfl, h0, h1, h2, h3⟩ := h
  cases j with
  | zero => simp [half] at hb
  | succ k =>
    have e : (2 : Int) ^ (k + 1) = 2 ^ k + 2 ^ k := by rw [Int.pow_succ]; omega
    rw [e] at h1 h3
    have := pow_pos' k
    exact ⟨k, by omega, half_half k, h0, by omega, h2, root_drop n r _ (by omega) ht⟩
theorem RootInv.done {n r bit : Int} (h : RootInv n r bit) (hb : ¬ 0 < bit) : 0 ≤ r ∧ r ≤ 4294967295 ∧ r * r ≤ n ∧ n < (r + 1) * (r + 1) := by
  obtain ⟨j, hj, rfl, h0, h1, h2, h3⟩ := h
  cases j with
  | zero => simp only [Int.pow_zero] at h1 h3; exact ⟨h0, by omega, h2, h3⟩
  | succ k => have := pow_pos' k; exact absurd this hb

theorem mul_pp (x y : Int) (p q : Nat) (hp : x.natAbs = p) (hq : y.natAbs = q) (hx : ¬ x < 0) (hy : ¬ y < 0) : x * y = (p * q : Nat) := by
  have e1 : x = (p : Int) := by omega
  have e2 : y = (q : Int) := by omega
  rw [e1, e2]; exact (Int.natCast_mul p q).symm
theorem mul_pn (x y : Int) (p q : Nat) (hp : x.natAbs = p) (hq : y.natAbs = q) (hx : ¬ x < 0) (hy : y < 0) : x * y = -(p * q : Nat) := by
  have e1 : x = (p : Int) := by omega
  have e2 : y = -(q : Int) := by omega
  rw [e1, e2, Int.natCast_mul, Int.mul_neg]
theorem mul_np (x y : Int) (p q : Nat) (hp : x.natAbs = p) (hq : y.natAbs = q) (hx : x < 0) (hy : ¬ y < 0) : x * y = -(p * q : Nat) := by
  have e1 : x = -(p : Int) := by omega
  have e2 : y = (q : Int) := by omega
  rw [e1, e2, Int.natCast_mul, Int.neg_mul]
theorem mul_nn (x y : Int) (p q : Nat) (hp : x.natAbs = p) (hq : y.natAbs = q) (hx : x < 0) (hy : y < 0) : x * y = (p * q : Nat) := by
  have e1 : x = -(p : Int) := by omega
  have e2 : y = -(q : Int) := by omega
  rw [e1, e2, Int.natCast_mul, Int.neg_mul_neg]
theorem mul_big (p q : Nat) (hp : p ≤ 1000000000000) (hq : q ≤ 1000000000000) : p * q ≤ 1000000000000000000000000 := Nat.le_trans (Nat.mul_le_mul hp hq) (by decide)
theorem div_test (p q : Nat) (hp : 0 < p) : q ≤ 1000000000000 / p ↔ p * q ≤ 1000000000000 := by
  rw [Nat.le_div_iff_mul_le hp, Nat.mul_comm]

theorem inB_clip (n : Int) : inB (clip n) = true := by have := clip_bd n; simp [inB]; omega
theorem addI_comm (a b : Int) : addI b a = addI a b := by unfold addI; rw [Int.add_comm]
theorem mulI_comm (a b : Int) : mulI b a = mulI a b := by unfold mulI; rw [Int.mul_comm]
theorem gcdI_comm (a b : Int) : gcdI b a = gcdI a b := by unfold gcdI; rw [Nat.gcd_comm]
theorem inB_iff (n : Int) : inB n = true ↔ (-1000000000000 ≤ n ∧ n ≤ 1000000000000) := by simp [inB]
theorem inB_div (a b : Int) : inB (divI a b) = true := by have h := clip_bd a; exact (inB_iff _).2 (quo_bd _ _ h.1 h.2)
theorem inB_mod (a b : Int) : inB (modI a b) = true := by have h := clip_bd a; have h' := clip_bd b; exact (inB_iff _).2 (mod_bd _ _ h.1 h.2 h'.1 h'.2).2
theorem divI_in (a b : Int) (ha : -1000000000000 ≤ a ∧ a ≤ 1000000000000) (hb : -1000000000000 ≤ b ∧ b ≤ 1000000000000) : divI a b = quo a b := by
  rw [divI, clip_in a ha.1 ha.2, clip_in b hb.1 hb.2]
theorem modI_in (a b : Int) (ha : -1000000000000 ≤ a ∧ a ≤ 1000000000000) (hb : -1000000000000 ≤ b ∧ b ≤ 1000000000000) : modI a b = a - b * quo a b := by
  rw [modI, divI_in a b ha hb, clip_in a ha.1 ha.2, clip_in b hb.1 hb.2]
/-- what NumDivides asks of quotient and rest, b not 0 -/
theorem divides (a b q r : Int) (hy : ¬ b = 0) (hq : q = quo a b) (hr : r = a - b * quo a b) :
    a - r = b * q ∧ (0 < b → 0 ≤ r ∧ r < b) ∧ (b < 0 → r ≤ 0 ∧ b < r) ∧ (a - r).tmod b = 0 ∧ (a - r) % b = 0 ∧ (a - r).tdiv b = q ∧ (a - r) / b = q := by
  have ⟨e, p, n⟩ := rest a b hy
  have e1 : a - r = b * q := by rw [hr, hq]; omega
  refine ⟨e1, fun h => ?_, fun h => ?_, ?_, ?_, ?_, ?_⟩
  · have := p h; omega
  · have := n h; omega
  · rw [e1]; exact Int.mul_tmod_right b q
  · rw [e1]; exact Int.mul_emod_right b q
  · rw [e1]; exact Int.mul_tdiv_cancel_left q hy
  · rw [e1]; exact Int.mul_ediv_cancel_left q hy

/-- what NumDivisors asks -/
theorem gcd_facts (a b : Int) (ha : -1000000000000 ≤ a ∧ a ≤ 1000000000000) (hb : -1000000000000 ≤ b ∧ b ≤ 1000000000000) (hz : ¬ (a = 0 ∧ b = 0)) :
    1 ≤ gcdI a b ∧ gcdI a b ≤ 1000000000000 ∧ a.tmod (gcdI a b) = 0 ∧ b.tmod (gcdI a b) = 0 ∧ a % gcdI a b = 0 ∧ b % gcdI a b = 0 ∧
    ∀ d : Int, 0 < d → a.tmod d = 0 → b.tmod d = 0 → (gcdI a b).tmod d = 0 ∧ gcdI a b % d = 0 := by
  unfold gcdI
  rw [clip_in a ha.1 ha.2, clip_in b hb.1 hb.2]
  have hpos : 0 < Nat.gcd a.natAbs b.natAbs := Nat.gcd_pos_iff.2 (by omega)
  have hle : Nat.gcd a.natAbs b.natAbs ≤ 1000000000000 := by
    by_cases h : a = 0
    · have := Nat.gcd_le_right (m := a.natAbs) (n := b.natAbs) (by omega); omega
    · have := Nat.gcd_le_left (m := a.natAbs) b.natAbs (by omega); omega
  have da : (Nat.gcd a.natAbs b.natAbs : Int) ∣ a := Int.ofNat_dvd_left.2 (Nat.gcd_dvd_left _ _)
  have db : (Nat.gcd a.natAbs b.natAbs : Int) ∣ b := Int.ofNat_dvd_left.2 (Nat.gcd_dvd_right _ _)
  refine ⟨by omega, by omega, Int.dvd_iff_tmod_eq_zero.1 da, Int.dvd_iff_tmod_eq_zero.1 db, Int.emod_eq_zero_of_dvd da, Int.emod_eq_zero_of_dvd db, fun d _ h1 h2 => ?_⟩
  have k1 := Int.natAbs_dvd_natAbs.2 (Int.dvd_iff_tmod_eq_zero.2 h1)
  have k2 := Int.natAbs_dvd_natAbs.2 (Int.dvd_iff_tmod_eq_zero.2 h2)
  have k3 := Int.natAbs_dvd.1 (Int.ofNat_dvd.2 (Nat.dvd_gcd k1 k2))
  exact ⟨Int.dvd_iff_tmod_eq_zero.1 k3, Int.emod_eq_zero_of_dvd k3⟩
theorem gcdI_zero : gcdI 0 0 = 0 := by decide

theorem roots (n r : Int) (h0 : 0 ≤ r) (h1 : r * r ≤ n) (h2 : n < (r + 1) * (r + 1)) (hn : 0 < n) : 1 ≤ r ∧ r ≤ n / r ∧ n / (r + 1) < r + 1 := by
  have hr : 1 ≤ r := by
    by_cases h : r = 0
    · subst h; simp at h2; omega
    · omega
  exact ⟨hr, (Int.le_ediv_iff_mul_le (by omega)).2 h1, (Int.ediv_lt_iff_lt_mul (by omega)).2 h2⟩
end Go.Proofs.YtiabiflaecidoaaDoor
