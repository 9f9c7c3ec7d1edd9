/-
  Plain laws on decimal texts: what is written is read back; the reference's reading; no program.
-/
import Derived.Test.YtiabiflaecidoaaDoorW5
import Derived.Lib.ItoaMem
namespace Go.Proofs.YtiabiflaecidoaaDoor
open Go.Lib

theorem decDigits_small (u : Nat) (h : u < 10) : decDigits u = [UInt8.ofNat (48 + u)] := by rw [decDigits, dif_pos h]
theorem decDigits_big (u : Nat) (h : ¬ u < 10) : decDigits u = decDigits (u / 10) ++ [UInt8.ofNat (48 + u % 10)] := by rw [decDigits, dif_neg h]
theorem itoa_pos (n : Int) (h : 0 ≤ n) : itoa n = decDigits n.natAbs := by rw [itoa, if_neg (by omega), show n.toNat = n.natAbs from by omega]
theorem itoa_minus (n : Int) (h : n < 0) : itoa n = 45 :: decDigits n.natAbs := by rw [itoa, if_pos h]
theorem digit_toNat (d : Nat) (h : d < 10) : (UInt8.ofNat (48 + d)).toNat = 48 + d := by rw [UInt8.toNat_ofNat']; omega

theorem itoa_ten (n : Int) (h : 10 ≤ n) : itoa n = itoa (n / 10) ++ itoa (n % 10) := by
  rw [itoa_pos n (by omega), itoa_pos (n / 10) (by omega), itoa_pos (n % 10) (by omega), decDigits_big _ (by omega), decDigits_small (n % 10).natAbs (by omega)]
  congr 2
  · congr 1; omega
  · congr 2; omega
theorem itoa_ten_neg (n : Int) (h : n ≤ -10) : itoa n = itoa (n.tdiv 10) ++ itoa (-(n.tmod 10)) := by
  have e : n = -(-n) := by omega
  have h1 : n.tdiv 10 = -((-n) / 10) := by rw [e, Int.neg_tdiv, Int.tdiv_eq_ediv_of_nonneg (by omega)]; omega
  have h2 : n.tmod 10 = -((-n) % 10) := by rw [e, Int.neg_tmod, Int.tmod_eq_emod_of_nonneg (by omega)]; omega
  rw [itoa_minus n (by omega), h1, h2, itoa_minus (-(-n / 10)) (by omega), itoa_pos (-(-(-n % 10))) (by omega), decDigits_big _ (by omega), decDigits_small (-(-(-n % 10))).natAbs (by omega), List.cons_append]
  congr 3
  · congr 1; omega
  · congr 2; omega
theorem itoa_one_neg (n : Int) (h : n < 0) : itoa n = 45 :: itoa (-n) := by rw [itoa_minus n h, itoa_pos _ (by omega), show (-n).natAbs = n.natAbs from by omega]

theorem parseUint10_append : ∀ (l r : List UInt8) (acc a : Nat), parseUint10 acc l = .ok a → parseUint10 acc (l ++ r) = parseUint10 a r
  | [], r, acc, a, h => by simp only [parseUint10] at h; injection h with h; subst h; rfl
  | c :: l, r, acc, a, h => by
    simp only [parseUint10] at h
    simp only [List.cons_append, parseUint10]
    split at h
    · rename_i h1
      rw [if_pos h1]
      split at h
      · cases h
      · rename_i h2
        rw [if_neg h2]
        split at h
        · cases h
        · rename_i h3
          rw [if_neg h3]
          exact parseUint10_append l r _ a h
    · cases h
theorem parse_digits (k : Nat) : ∀ u : Nat, u ≤ k → u < 18446744073709551616 → parseUint10 0 (decDigits u) = .ok u := by
  induction k with
  | zero =>
    intro u hu _
    obtain rfl : u = 0 := by omega
    rw [decDigits_small 0 (by omega)]; rfl
  | succ k ih =>
    intro u hu hlt
    by_cases h : u < 10
    · rw [decDigits_small u h]
      simp only [parseUint10, digit_toNat u h]
      rw [if_pos (by omega), if_neg (by omega), if_neg (by omega)]
      congr 1; omega
    · rw [decDigits_big u h, parseUint10_append _ _ _ _ (ih (u / 10) (by omega) (by omega))]
      simp only [parseUint10, digit_toNat (u % 10) (by omega)]
      rw [if_pos (by omega), if_neg (by omega), if_neg (by omega)]
      congr 1; omega
theorem decDigits_ne (u : Nat) : decDigits u ≠ [] := by
  rw [decDigits]; split
  · simp
  · simp
theorem parseMag_digits (u : Nat) (h : u < 18446744073709551616) : parseMag (decDigits u) = .ok u := by
  rw [parseMag, if_neg (decDigits_ne u)]; exact parse_digits u u (Nat.le_refl _) h
theorem digits_head (k : Nat) : ∀ u : Nat, u ≤ k → ∃ c r, decDigits u = c :: r ∧ 48 ≤ c.toNat := by
  induction k with
  | zero => intro u hu; exact ⟨_, [], decDigits_small u (by omega), by rw [digit_toNat u (by omega)]; omega⟩
  | succ k ih =>
    intro u hu
    by_cases h : u < 10
    · exact ⟨_, [], decDigits_small u h, by rw [digit_toNat u h]; omega⟩
    · obtain ⟨c, r, e, hc⟩ := ih (u / 10) (by omega)
      exact ⟨c, r ++ [UInt8.ofNat (48 + u % 10)], by rw [decDigits_big u h, e]; rfl, hc⟩
/-- what is written is read back -/
theorem atoi_itoa (n : Int) (h0 : -9223372036854775808 ≤ n) (h1 : n ≤ 9223372036854775807) : atoiAll (itoa n) = .ok n := by
  by_cases h : n < 0
  · rw [itoa_minus n h, atoiAll_minus, parseMag_digits _ (by omega), signed, if_neg (by omega)]
    congr 1; omega
  · rw [itoa_pos n (by omega)]
    obtain ⟨c, r, e, hc⟩ := digits_head n.natAbs n.natAbs (Nat.le_refl _)
    have hp := parseMag_digits n.natAbs (by omega)
    rw [e] at hp ⊢
    rw [atoiAll_plain c r (by omega) (by omega), hp, signless, if_neg (by omega)]
    congr 1; omega

/-- the digits of a text, folded: what the reference reads -/
def foldD (acc : Nat) : List UInt8 → Nat
  | [] => acc
  | c :: r => foldD (if 48 ≤ c.toNat ∧ c.toNat ≤ 57 then 10 * acc + (c.toNat - 48) else acc) r
theorem foldD_append : ∀ (l r : List UInt8) (acc : Nat), foldD acc (l ++ r) = foldD (foldD acc l) r
  | [], _, _ => rfl
  | c :: l, r, acc => by simp only [List.cons_append, foldD]; exact foldD_append l r _
theorem foldD_digits (k : Nat) : ∀ u : Nat, u ≤ k → foldD 0 (decDigits u) = u := by
  induction k with
  | zero =>
    intro u hu
    obtain rfl : u = 0 := by omega
    rw [decDigits_small 0 (by omega)]; rfl
  | succ k ih =>
    intro u hu
    by_cases h : u < 10
    · rw [decDigits_small u h]
      simp only [foldD, digit_toNat u h]
      rw [if_pos (by omega)]; omega
    · rw [decDigits_big u h, foldD_append, ih (u / 10) (by omega)]
      simp only [foldD, digit_toNat (u % 10) (by omega)]
      rw [if_pos (by omega)]; omega
theorem foldD_lt : ∀ (l : List UInt8) (acc : Nat), foldD acc l < (acc + 1) * 10 ^ l.length
  | [], acc => by simp [foldD]
  | c :: r, acc => by
    simp only [foldD, List.length_cons]
    refine Nat.lt_of_lt_of_le (foldD_lt r _) ?_
    rw [Nat.pow_succ, Nat.mul_comm (10 ^ r.length) 10, ← Nat.mul_assoc]
    refine Nat.mul_le_mul_right _ ?_
    split <;> omega
theorem foldD_take (l : List UInt8) (k : Nat) (h : k < l.length) : foldD 0 (l.take (k + 1)) = (if 48 ≤ l[k].toNat ∧ l[k].toNat ≤ 57 then 10 * foldD 0 (l.take k) + (l[k].toNat - 48) else foldD 0 (l.take k)) := by
  rw [List.take_succ_eq_append_getElem h, foldD_append]; rfl
theorem digits_length (k : Nat) : ∀ u : Nat, u < 10 ^ (k + 1) → (decDigits u).length ≤ k + 1 := by
  induction k with
  | zero => intro u hu; rw [decDigits_small u (by simpa using hu)]; simp
  | succ k ih =>
    intro u hu
    by_cases h : u < 10
    · rw [decDigits_small u h]; simp
    · rw [decDigits_big u h]
      have := ih (u / 10) (by rw [Nat.pow_succ] at hu; omega)
      simp; omega
theorem itoa_length (n : Int) (h : inB n = true) : (itoa n).length ≤ 14 := by
  have hb := (inB_iff n).1 h
  have hl := digits_length 12 n.natAbs (by have : (10 : Nat) ^ (12 + 1) = 10000000000000 := by decide
                                           omega)
  by_cases hn : n < 0
  · rw [itoa_minus n hn]; simp; omega
  · rw [itoa_pos n (by omega)]; omega

def signD (l : List UInt8) : Int := if l.head?.map (·.toNat) = some 45 then -(foldD 0 l : Int) else foldD 0 l
/-- what the reference's Parse returns -/
def parseR (l : List UInt8) : Int × Bool := if 14 < l.length then (0, false) else if inB (signD l) && (itoa (signD l) == l) then (signD l, true) else (0, false)
theorem signD_neg (r : List UInt8) : signD (45 :: r) = -(foldD 0 r : Int) := by simp [signD, foldD]
theorem signD_other (c : UInt8) (r : List UInt8) (h : c.toNat ≠ 45) : signD (c :: r) = (foldD 0 (c :: r) : Int) := by simp [signD, h]
theorem signD_itoa (n : Int) : signD (itoa n) = n := by
  by_cases h : n < 0
  · rw [itoa_minus n h, signD_neg, foldD_digits _ _ (Nat.le_refl _)]; omega
  · rw [itoa_pos n (by omega)]
    obtain ⟨c, r, e, hc⟩ := digits_head n.natAbs n.natAbs (Nat.le_refl _)
    have hf := foldD_digits n.natAbs n.natAbs (Nat.le_refl _)
    rw [e] at hf ⊢
    rw [signD_other c r (by omega), hf]; omega
theorem parseI_itoa (n : Int) (h0 : -9223372036854775808 ≤ n) (h1 : n ≤ 9223372036854775807) : parseI (itoa n) = if inB n then (n, true) else (0, false) := by
  rw [parseI, atoi_itoa n h0 h1]; simp
/-- both readings are one -/
theorem parse_same (l : List UInt8) : parseI l = parseR l := by
  by_cases hx : ∃ n, inB n = true ∧ itoa n = l
  · obtain ⟨n, hn, rfl⟩ := hx
    have hb := (inB_iff n).1 hn
    have hl := itoa_length n hn
    rw [parseI_itoa n (by omega) (by omega), parseR, if_neg (show ¬ 14 < (itoa n).length from by omega), signD_itoa]
    simp [hn]
  · have h1 : ∀ n, (inB n && (itoa n == l)) = false := by
      intro n
      by_cases hn : inB n = true
      · by_cases he : itoa n = l
        · exact absurd ⟨n, hn, he⟩ hx
        · simp [he]
      · simp [hn]
    have e1 : parseI l = (0, false) := by
      unfold parseI
      split
      · rw [h1]; rfl
      · rfl
    rw [e1, parseR]
    split
    · rfl
    · rw [h1]; rfl
end Go.Proofs.YtiabiflaecidoaaDoor
