/-
  Plain definitions of chapter 08 on lists of bytes: words, digits, signs, the token at the head of a text; no program.
-/
import Derived.Test.YtiabiflaecidoaaDoorX0
namespace Go.Proofs.YtiabiflaecidoaaDoor
set_option linter.all false

def isLetter (c : UInt8) : Bool := decide (97 ≤ (c.toNat : Int)) && decide ((c.toNat : Int) ≤ 122)
def isDigit (c : UInt8) : Bool := decide (48 ≤ (c.toNat : Int)) && decide ((c.toNat : Int) ≤ 57)
def isInner (c : UInt8) : Bool := isLetter c || isDigit c || (c.toNat : Int) == 95
def runN (p : UInt8 → Bool) (l : List UInt8) : Nat := (l.takeWhile p).length
def signChars : List UInt8 := [43, 45, 42, 47, 37, 61, 60, 62, 40, 41, 44, 58, 46]
/-- the number of bytes of the sign at the head of a text -/
def signN (l : List UInt8) : Nat :=
  if Lib.hasPrefix l [33, 61] || Lib.hasPrefix l [60, 61] || Lib.hasPrefix l [62, 61] then 2
  else match l with
    | [] => 0
    | c :: _ => if 0 ≤ Lib.indexByte signChars c then 1 else 0
def wordB (l : List UInt8) : Bool :=
  match l with
  | [] => false
  | c :: _ => isLetter c && (runN isInner l == l.length)
/-- the number that a text is -/
def numF (l : List UInt8) : Int × Bool := if (parseI l).2 = true ∧ 0 ≤ (parseI l).1 then parseI l else (0, false)

structure Tok where
  kind : Int
  text : List UInt8
  n : Int
  line : Int
def Tok.cells (t : Tok) : Array Value := #[.int .i64 t.kind, .string ⟨t.text.toArray⟩, .int .i64 t.n, .int .i64 t.line]
/-- the cells of a list of tokens -/
def flatT (ts : List Tok) : List Value := ts.flatMap fun t => t.cells.toList

/-- the token at the head of a text, and its number of bytes -/
def tokenF (l : List UInt8) : Tok × Nat :=
  match l with
  | [] => (⟨0, [], 0, 0⟩, 0)
  | c :: r =>
    if isLetter c then (⟨1, (c :: r).take (runN isInner (c :: r)), 0, 0⟩, runN isInner (c :: r))
    else if isDigit c then
      if (numF ((c :: r).take (runN isDigit (c :: r)))).2 then (⟨2, [], (numF ((c :: r).take (runN isDigit (c :: r)))).1, 0⟩, runN isDigit (c :: r))
      else (⟨0, [], 0, 0⟩, 0)
    else (⟨3, (c :: r).take (signN (c :: r)), 0, 0⟩, signN (c :: r))

theorem flatT_append (a b : List Tok) : flatT (a ++ b) = flatT a ++ flatT b := by simp [flatT]
theorem flatT_length (a : List Tok) : (flatT a).length = a.length * 4 := by
  induction a with
  | nil => rfl
  | cons t r ih => simp only [flatT, List.flatMap_cons, List.length_append, List.length_cons] at ih ⊢; rw [ih]; simp [Tok.cells]; omega
theorem flatT_get : ∀ (a : List Tok) (k : Nat) (t : Tok) (j : Nat), a[k]? = some t → j < 4 → (flatT a)[k * 4 + j]? = t.cells.toList[j]?
  | [], k, t, j, h, _ => by simp at h
  | x :: r, k, t, j, h, hj => by
    have e : flatT (x :: r) = x.cells.toList ++ flatT r := by simp [flatT]
    rw [e]
    cases k with
    | zero =>
      simp only [List.getElem?_cons_zero, Option.some.injEq] at h
      subst h
      rw [List.getElem?_append_left (by simp [Tok.cells]; omega)]
      simp
    | succ k =>
      rw [List.getElem?_append_right (by simp [Tok.cells]; omega)]
      have : (k + 1) * 4 + j - x.cells.toList.length = k * 4 + j := by simp [Tok.cells]; omega
      rw [this]
      exact flatT_get r k t j (by simpa using h) hj

theorem runN_le (p : UInt8 → Bool) (l : List UInt8) : runN p l ≤ l.length := by
  induction l with
  | nil => simp [runN]
  | cons c r ih =>
    unfold runN at ih ⊢
    simp only [List.takeWhile_cons]
    split
    · simp only [List.length_cons]; omega
    · simp
/-- the first k bytes are of the sort -/
theorem runN_all (p : UInt8 → Bool) : ∀ (l : List UInt8) (k : Nat) (h : k < runN p l), ∃ hl : k < l.length, p l[k] = true
  | [], k, h => by simp [runN] at h
  | c :: r, k, h => by
    unfold runN at h
    simp only [List.takeWhile_cons] at h
    split at h
    · rename_i hc
      cases k with
      | zero => exact ⟨by simp, hc⟩
      | succ k =>
        obtain ⟨hl, hk⟩ := runN_all p r k (by unfold runN; simpa using h)
        exact ⟨by simp; omega, hk⟩
    · simp at h
theorem runN_stop (p : UInt8 → Bool) : ∀ (l : List UInt8) (h : runN p l < l.length), p l[runN p l] = false
  | [], h => by simp at h
  | c :: r, h => by
    by_cases hc : p c = true
    · have e : runN p (c :: r) = runN p r + 1 := by simp [runN, List.takeWhile_cons, hc]
      have h' : runN p r < r.length := by rw [e] at h; simpa using h
      have := runN_stop p r h'
      simp only [e, List.getElem_cons_succ]
      exact this
    · have e : runN p (c :: r) = 0 := by simp [runN, List.takeWhile_cons, hc]
      simp only [e, List.getElem_cons_zero]
      simpa using hc
/-- the run ends where it ends -/
theorem runN_eq (p : UInt8 → Bool) (l : List UInt8) (k : Nat) (h : ∀ j (hj : j < l.length), j < k → p l[j] = true) (hk : k ≤ l.length) (he : ∀ hl : k < l.length, p l[k] = false) : runN p l = k := by
  have h1 : ¬ runN p l < k := by
    intro hlt
    have hl : runN p l < l.length := by omega
    have h2 := runN_stop p l hl
    rw [h _ hl hlt] at h2; cases h2
  have h2 : ¬ k < runN p l := by
    intro hlt
    obtain ⟨hl, hp⟩ := runN_all p l k hlt
    rw [he hl] at hp; cases hp
  omega
end Go.Proofs.YtiabiflaecidoaaDoor
