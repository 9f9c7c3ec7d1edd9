/-
  A call that was run once, at values that name no object, serves as an oracle in greater runs.
-/
import Derived.Test.YtlmfmmclnboglaaGreatQ2
namespace Go.Proofs.YtlmfmmclnboglaaGreat.Abs
open Go Go.RowKit
set_option linter.all false

/-- a value that depends on what is fixed alone -/
def AV.apart : AV → Bool
  | .agg cs => cs.all AV.noId1
  | v => v.noId1
theorem Rep.still' {Γ : Ghost} {w : World} {x : AV} {v : Value} (h : Rep Γ w x v) (hx : x.apart = true) : Rep still w x v := by
  have hf : FixMono Γ w still w := fun b o v _ h2 => ⟨trivial, h2⟩
  cases h with
  | agg cells cv hs h1 hn hr =>
    simp only [AV.apart, List.all_eq_true] at hx
    exact .agg cells cv hs h1 hn fun j c hc => (hr j c hc).noId hf (hx c (List.mem_of_getElem? hc))
  | undef => cases hx
  | tup => cases hx
  | arr => cases hx
  | ptr => cases hx
  | map => cases hx
  | bool b => exact .bool b
  | int k n => exact .int k n
  | str s => exact .str s
  | nilp => exact .nilp
  | nilf => exact .nilf
  | nilm => exact .nilm
  | lstNil k => exact .lstNil k
  | lstE k A cap => exact .lstE k A cap
  | lst k rows b o cap cv hlen hk hc hr => exact (Rep.lst k rows b o cap cv hlen hk hc hr).noId hf rfl
  | own k rows v h => exact (Rep.own k rows v h).noId hf rfl
  | ref cells b o cv hc hr => exact (Rep.ref cells b o cv hc hr).noId hf rfl
  | fn f fst caps fv cv hs1 hr1 hs hr => exact (Rep.fn f fst caps fv cv hs1 hr1 hs hr).noId hf hx
theorem calls_of {P : Program} {W : World} {C : Cfg} (h : CfgOk P W C) {n : Nat} {f : FuncId} {avs : List AV} {v : AV} {hp : List AObj} {e : Eff} (hev : evalCall C n f avs [] = some (v, hp, e)) (hv : v.flat1 = true) {args : Array Value}
    (hs : args.size = avs.length) (hr : ∀ (j : Nat) (x : AV), avs[j]? = some x → Rep still W x (args.getD j Go.undef) ∧ ∀ k r, x ≠ .own k r) :
    Calls P f args W fun e W' => ∃ cv, e = .returned cv ∧ Below W.heap.size W W' ∧ Rep still W' v cv := by
  obtain ⟨_, hw⟩ := evalCall_ok h n f avs [] _ _ _ hev still W args (rw_start W) tidy_start hs fun j x hx => ⟨(hr j x hx).1, .of_ne (hr j x hx).2⟩
  refine hw.mono fun en W' ⟨cv, hv', Γ', r1, r2, _, r4, _⟩ => ?_
  subst hv'
  exact ⟨cv, rfl, ⟨r4.os, r4.tape, r4.output, r4.size, fun b hb => (r4.keep b hb trivial).2⟩, flat1_rep r2 hv⟩
/-- what was run -/
theorem oracle_of_run {P : Program} {W0 : World} {C : Cfg} (hC : ∀ W, CfgOk P W C) {n : Nat} {f : FuncId} {args : List AV} {v : AV} {hp : List AObj} {e : Eff} (hev : evalCall C n f args [] = some (v, hp, e)) (hv : v.flat1 = true)
    (ha : args.all AV.apart = true) (ho : args.all (fun x => !isOwn x) = true) {fn : Func} {c : Code} (hf : P.funcs[f]? = some fn) (hn : (fn.name == "runtime.NumGoroutine") = false) (hb : fn.body = some c) : OracleOk P W0 f args v := by
  refine ⟨fun k r h => (by subst h; cases hv), fun Γ w xs _ _ hs hx => ?_⟩
  refine went_of_calls hf hn hb ((calls_of (hC w) hev hv hs fun j x hj => ⟨(hx j x hj).still' (List.all_eq_true.1 ha x (List.mem_of_getElem? hj)), fun k r e => ?_⟩).mono ?_)
  · have := List.all_eq_true.1 ho x (List.mem_of_getElem? hj)
    rw [e] at this
    cases this
  · rintro e w' ⟨cv, rfl, hb', hr⟩
    exact ⟨cv, rfl, hb', flat1_rep hr hv⟩
def allEq {α : Type} (f : α → α → Bool) : List α → List α → Bool
  | [], [] => true
  | a :: l, b :: m => f a b && allEq f l m
  | _, _ => false
theorem allEq_eq {α : Type} {f : α → α → Bool} (hf : ∀ a b, f a b = true → a = b) : ∀ {l m : List α}, allEq f l m = true → l = m
  | [], [], _ => rfl
  | a :: l, b :: m, h => by
    simp only [allEq, Bool.and_eq_true] at h
    rw [hf a b h.1, allEq_eq hf h.2]
  | [], _ :: _, h => by cases h
  | _ :: _, [], h => by cases h
/-- equal values, of those that a law is handed -/
def eqA : Nat → AV → AV → Bool
  | n + 1, .str a, .str b => a == b
  | n + 1, .int k a, .int l b => decide (k = l) && decide (a = b)
  | n + 1, .bool a, .bool b => a == b
  | n + 1, .lst k r, .lst l q => k == l && allEq (allEq (eqA n)) r q
  | n + 1, .agg r, .agg q => allEq (eqA n) r q
  | _, _, _ => false
theorem eqA_eq : ∀ (n : Nat) (a b : AV), eqA n a b = true → a = b := by
  intro n
  induction n with
  | zero => intro a b h; unfold eqA at h; cases h
  | succ n ih =>
    intro a b h
    cases a <;> cases b <;> simp only [eqA, Bool.false_eq_true, Bool.and_eq_true, decide_eq_true_eq, beq_iff_eq] at h
    case bool.bool => rw [h]
    case int.int => rw [h.1, h.2]
    case str.str => rw [h]
    case lst.lst => rw [h.1, allEq_eq (fun x y hxy => allEq_eq ih hxy) h.2]
    case agg.agg => rw [allEq_eq ih h]
end Go.Proofs.YtlmfmmclnboglaaGreat.Abs
