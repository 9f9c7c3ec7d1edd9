/-
  The reference's Check is the program's, on lists.
-/
import Derived.Test.YtiabiflaecidoaaDoorEL
namespace Go.Proofs.YtiabiflaecidoaaDoor
open Go Go.RowKit Go.Proofs.YtiabiflaecidoaaDoor.Abs
set_option linter.all false

theorem run_eq_all (p : UInt8 → Bool) (l : List UInt8) : (runN p l == l.length) = l.all p := by
  have h := all_take_iff p l l.length (Nat.le_refl _)
  rw [List.take_length] at h
  have h2 := runN_le p l
  rw [Bool.eq_iff_iff, h, beq_iff_eq]
  omega
theorem wordB_eq (l : List UInt8) : wordB l = isWord l := by
  cases l with
  | nil => rfl
  | cons c r => rw [wordB, isWord, run_eq_all, isL_eq, isI_eq]
theorem signN_len (l : List UInt8) : (!l.isEmpty && decide (signN l = l.length)) = isSign l := by
  match l with
  | [] => decide
  | [c] => rw [signN_cons1]; cases isSign [c] <;> simp
  | c :: d :: r =>
    rw [signN_cons2]
    cases hr : r with
    | nil => cases h : isSign [c, d] <;> simp; split <;> simp
    | cons e q =>
      have : isSign (c :: d :: e :: q) = false := by
        cases h : isSign (c :: d :: e :: q) with
        | false => rfl
        | true => have := sign_long h; simp at this
      rw [this]
      simp only [List.isEmpty_cons, Bool.not_false, Bool.true_and, decide_eq_false_iff_not, List.length_cons]
      split
      · omega
      · split <;> omega
theorem formedR_eq (t : Tok) : formedR t = formF t := by
  have he : decide (t.text = []) = t.text.isEmpty := by cases t.text <;> simp
  unfold formedR formF
  rw [wordB_eq, he, ← signN_len]
  by_cases k1 : t.kind = 1
  · simp only [k1, if_true]; rw [Bool.and_comm]
  · by_cases k2 : t.kind = 2
    · simp [k1, k2]
    · by_cases k3 : t.kind = 3
      · simp only [k3, if_true]; simp; rw [Bool.and_comm, Bool.and_assoc]
      · simp only [k1, k2, k3, if_false]; rw [Bool.and_comm]
theorem ck_none (t : Tok) (last : Bool) : stepC none t last = if ck1 t = true then 1 else if ck2 ⟨4, [], 0, 0⟩ t = true then 8 else if ck3 ⟨4, [], 0, 0⟩ t last = true then 8 else if ck4 ⟨4, [], 0, 0⟩ t = true then 12 else 0 := by
  simp only [stepC, ck1, ck2, ck3, ck4, formedR_eq]
  by_cases h1 : t.kind < 0 ∨ 4 < t.kind
  · simp [h1]
  · cases hf : formF t <;> cases last <;> by_cases h4 : t.kind = 4 <;> by_cases h0 : t.kind = 0 <;> by_cases hl : t.line < 1 <;> by_cases hl0 : t.line < 0 <;> by_cases hz : t.line = 0 <;> first | omega | simp [h1, h4, h0, hl, hl0, hz]
theorem ck_some (b t : Tok) (last : Bool) (hb : 1 ≤ b.line) : stepC (some b) t last = if ck1 t = true then 1 else if ck2 b t = true then 8 else if ck3 b t last = true then 8 else if ck4 b t = true then 12 else 0 := by
  simp only [stepC, followsF, ck1, ck2, ck3, ck4, formedR_eq]
  by_cases h1 : t.kind < 0 ∨ 4 < t.kind
  · simp [h1]
  · cases hf : formF t <;> cases last <;> by_cases h4 : t.kind = 4 <;> by_cases h0 : t.kind = 0 <;> by_cases hb4 : b.kind = 4 <;> by_cases hl : t.line < 1 <;> by_cases hl0 : t.line < b.line <;> by_cases hz : t.line = b.line <;> by_cases hle : t.line ≤ b.line <;> first | omega | (simp [h1, h4, h0, hl, hl0, hz, hb4, hle] <;> omega)
theorem ck4_line {b t : Tok} (h : ck4 b t = false) : 1 ≤ t.line := by
  simp only [ck4, Bool.or_eq_false_iff, decide_eq_false_iff_not] at h
  omega
theorem checkRL_some : ∀ (ts : List Tok) (b : Tok), 1 ≤ b.line → checkRL b ts = if checkL (some b) ts ≠ 0 then checkL (some b) ts else if ((b :: ts).getLast (by simp)).kind = 0 then 0 else 8
  | [], b, _ => by rw [checkRL, checkL]; rfl
  | t :: r, b, hb => by
    have hs := ck_some b t r.isEmpty hb
    rw [checkRL, checkL]
    cases h1 : ck1 t with
    | true => rw [h1, if_pos rfl] at hs; rw [hs]; simp
    | false =>
    cases h2 : ck2 b t with
    | true => rw [h1, h2, if_neg (by simp), if_pos rfl] at hs; rw [hs]; simp
    | false =>
    cases h3 : ck3 b t r.isEmpty with
    | true => rw [h1, h2, h3, if_neg (by simp), if_neg (by simp), if_pos rfl] at hs; rw [hs]; simp
    | false =>
    cases h4 : ck4 b t with
    | true => rw [h1, h2, h3, h4, if_neg (by simp), if_neg (by simp), if_neg (by simp), if_pos rfl] at hs; rw [hs]; simp
    | false =>
      rw [h1, h2, h3, h4, if_neg (by simp), if_neg (by simp), if_neg (by simp), if_neg (by simp)] at hs
      rw [hs, checkRL_some r t (ck4_line h4), List.getLast_cons (by simp : t :: r ≠ [])]
      simp
theorem checkR_eq (ts : List Tok) : checkR ts = checkF ts := by
  unfold checkR checkF
  cases ts with
  | nil => rfl
  | cons t r =>
    have hs := ck_none t r.isEmpty
    have hg : (t :: r).getLast? = some ((t :: r).getLast (by simp)) := List.getLast?_eq_some_getLast (by simp)
    rw [checkRL, checkL, hg]
    cases h1 : ck1 t with
    | true => rw [h1, if_pos rfl] at hs; rw [hs]; simp
    | false =>
    cases h2 : ck2 ⟨4, [], 0, 0⟩ t with
    | true => rw [h1, h2, if_neg (by simp), if_pos rfl] at hs; rw [hs]; simp
    | false =>
    cases h3 : ck3 ⟨4, [], 0, 0⟩ t r.isEmpty with
    | true => rw [h1, h2, h3, if_neg (by simp), if_neg (by simp), if_pos rfl] at hs; rw [hs]; simp
    | false =>
    cases h4 : ck4 ⟨4, [], 0, 0⟩ t with
    | true => rw [h1, h2, h3, h4, if_neg (by simp), if_neg (by simp), if_neg (by simp), if_pos rfl] at hs; rw [hs]; simp
    | false =>
      rw [h1, h2, h3, h4, if_neg (by simp), if_neg (by simp), if_neg (by simp), if_neg (by simp)] at hs
      rw [hs, checkRL_some r t (ck4_line h4)]
      simp
end Go.Proofs.YtiabiflaecidoaaDoor
