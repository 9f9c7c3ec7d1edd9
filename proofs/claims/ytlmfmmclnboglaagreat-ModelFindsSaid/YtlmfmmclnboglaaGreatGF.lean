/-
  Functions that draw their order around calls whose results are read only: the results are taken as lists.
-/
import Derived.Test.YtlmfmmclnboglaaGreatGE
import Derived.LoopN
import Derived.Scope
import Derived.Orders
namespace Go.Proofs.YtlmfmmclnboglaaGreat.Abs
open Go Go.RowKit
set_option linter.all false

/-- a call that stores nothing, its result turned into lists -/
def calmCall (call : FuncId → List AV → List AObj → Option (AV × List AObj × Eff)) (f : FuncId) (args : List AV) (hp : List AObj) : Option (AV × List AObj × Eff) :=
  match call f args hp with
  | some (v, hp', none) => match frz hp.length hp' v with
    | some v' => some (v', hp, none)
    | none => none
  | _ => none
theorem calm_pure {call : FuncId → List AV → List AObj → Option (AV × List AObj × Eff)} : ∀ f args hp v hp' e, calmCall call f args hp = some (v, hp', e) → hp' = hp ∧ e = none := by
  intro f args hp v hp' e h
  unfold calmCall at h
  split at h <;> first | (cases h; done) | skip
  split at h <;> first | (cases h; done) | skip
  cases h
  exact ⟨rfl, rfl⟩
theorem calm_spec {P : Program} {W0 : World} {call : FuncId → List AV → List AObj → Option (AV × List AObj × Eff)} (hS : CallSpec P W0 call) : CallSpec P W0 (calmCall call) := by
  intro f args hp v hp' e h Γ w xs hr ht hs hx
  unfold calmCall at h
  split at h <;> first | (cases h; done) | skip
  rename_i v0 hp0 hc
  split at h <;> first | (cases h; done) | skip
  rename_i v1 hf
  cases h
  refine (hS f args hp v0 hp0 none hc Γ w xs hr ht hs hx).mono fun cv w' ⟨Γ', r1, r2, r3, r4, r5⟩ => ?_
  exact finish_ok (s := ⟨[], hp0, none, hp.length⟩) hr rfl r5 (fun b n g i hb => ht.cell b n g i hb) r1 r4 r2 r3 (keep := false) (by simp only [finish, hf]; rfl)
section
variable {P : Program} {G : Nat → Option (List AV)} {call : FuncId → List AV → List AObj → Option (AV × List AObj × Eff)} {E : Entry} {s s' : AState} {Γ : Ghost} {a : Act} {w : World} {hand : Nat → Bool} {draw : Bool}

theorem oper_anyP (hG : GOk G E.W0) (hS : CallSpec P E.W0 call) {ops : Array Oper} {o : Oper} {g : Option (Nat × Bool)} {u : AState} {K : Act → World → Prop} {Q : Exit → Act → World → Prop} (h2 : cGuard ops o.guard = some g)
    (he : evalOper G call ⟨o.dst, (cOp P hand draw o).getD .bad, g⟩ s = some u) (hI : Inv E s Γ a w) (hK : ∀ Γ a w, Inv E u Γ a w → K a w) :
    if Region.wanted o (yielded ops a.tmps) = true then o.wp P a w K Q ∨ (o.asks P a w ∧ LetsOut Q) else K (a.put o.dst Go.undef) w := by
  simp only [evalOper] at he
  split at he <;> first | (cases he; done) | skip
  · rename_i hw
    rw [wanted_ok hI h2 hw]
    split at he <;> first | (cases he; done) | skip
    rename_i v s2 hev
    obtain rfl := Option.some.inj he
    simp only [if_true]
    refine .inl (op_wp hG hS hI (some_of_eval hev) hev fun Γ' cv w' i1 r1 o1 => ?_)
    obtain ⟨Γ2, i2⟩ := i1.put o.dst r1 o1
    exact hK _ _ _ i2
  · rename_i hw
    rw [wanted_ok hI h2 hw]
    obtain rfl := Option.some.inj he
    simp only [Bool.false_eq_true, if_false]
    obtain ⟨Γ2, i2⟩ := hI.put o.dst (v := .undef) (cv := Go.undef) .undef (.of_ne (by simp))
    exact hK _ _ _ i2
theorem ops_anyP (hG : GOk G E.W0) (hS : CallSpec P E.W0 call) (hpure : ∀ f args hp v hp' e, call f args hp = some (v, hp', e) → hp' = hp ∧ e = none) {ops : Array Oper} {bops : List AOper} {Q : Exit → Act → World → Prop} {sF : AState} (hc : cOpers P hand draw ops ops.toList = some bops) (hd : drawOk ops bops = true) (hQ : ∀ Γ a w, Inv E sF Γ a w → Q .normal a w) :
    ∀ (fuel : Nat) {listed : Array Bool} {s : AState} {Γ : Ghost} {a : Act} {w : World}, listed.size = ops.size → (restL ops.size listed).length = fuel → evalOps G call ((restL ops.size listed).map fun i => bops.getD i ⟨none, .bad, none⟩) s = some sF → Inv E s Γ a w → wpAny P .any ops Q fuel listed a w := by
  simp only [drawOk, Bool.and_eq_true, List.all_eq_true, List.mem_range] at hd
  obtain ⟨⟨hord, hnh⟩, hpair⟩ := hd
  obtain ⟨hlen, hget⟩ := cOpers_get hc
  intro fuel
  induction fuel with
  | zero =>
    intro listed s Γ a w hsz hl h hI
    have hn := List.eq_nil_of_length_eq_zero hl
    rw [hn] at h
    obtain rfl := Option.some.inj (by simpa [evalOps] using h : some s = some sF)
    refine ⟨List.eq_nil_iff_forall_not_mem.2 fun i hi => ?_, hQ _ _ _ hI⟩
    obtain ⟨h1, o, h2, _⟩ := mem_ready.1 hi
    have : i ∈ restL ops.size listed := mem_restL.2 ⟨(Array.getElem?_eq_some_iff.1 h2).1, h1⟩
    rw [hn] at this
    cases this
  | succ fuel ih =>
    intro listed s Γ a w hsz hl h hI
    have hlisted : ∀ j, j < ops.size → listed.getD j true ≠ false → listed.getD j false = true := fun j hj h => by
      have hj' : j < listed.size := by omega
      simp [hj'] at h ⊢; exact h
    refine ⟨fun hr => ?_, fun i hi => ?_⟩
    · obtain ⟨i, r, hir⟩ : ∃ i r, restL ops.size listed = i :: r := by
        cases hx : restL ops.size listed with
        | nil => rw [hx] at hl; cases hl
        | cons i r => exact ⟨i, r, rfl⟩
      have him := mem_restL.1 (show i ∈ restL ops.size listed by rw [hir]; exact List.mem_cons_self ..)
      have hoi : ops[i]? = some ops[i] := Array.getElem?_eq_getElem him.1
      have hready : i ∈ Region.ready .any ops listed := by
        refine mem_ready.2 ⟨him.2, _, hoi, fun e he hb => ?_⟩
        have := hord i him.1
        rw [hoi] at this
        have hlt := Array.all_eq_true'.1 this e he
        rw [hb] at hlt
        simp only [Bool.not_true, Bool.false_or, decide_eq_true_eq] at hlt
        refine hlisted e.on (by omega) fun hun => ?_
        have hm := mem_restL.2 ⟨show e.on < ops.size by omega, hun⟩
        rw [hir] at hm
        have hs := restL_sorted ops.size listed
        rw [hir] at hs
        rcases List.mem_cons.1 hm with he | hm
        · omega
        · have := (List.pairwise_cons.1 hs).1 _ hm
          omega
      rw [hr] at hready
      cases hready
    · obtain ⟨hun, o, ho, hdeps⟩ := mem_ready.1 hi
      have hin := (Array.getElem?_eq_some_iff.1 ho).1
      obtain ⟨l1, l2, hsplit⟩ := List.append_of_mem (mem_restL.2 ⟨hin, hun⟩)
      have hs := restL_sorted ops.size listed
      rw [hsplit] at hs
      obtain ⟨g, hg1, hg2⟩ := hget i o (by simpa using ho)
      have hbi : bops.getD i ⟨none, .bad, none⟩ = ⟨o.dst, (cOp P hand draw o).getD .bad, g⟩ := by rw [List.getD_eq_getElem?_getD, hg2]; rfl
      have hcomm : ∀ x ∈ l1.map (fun i => bops.getD i ⟨none, .bad, none⟩), commB x ⟨o.dst, (cOp P hand draw o).getD .bad, g⟩ = true := fun x hx => by
        obtain ⟨j, hj, rfl⟩ := List.mem_map.1 hx
        have hji : j < i := (List.pairwise_append.1 hs).2.2 j hj i (List.mem_cons_self ..)
        have hjm := mem_restL.1 (show j ∈ restL ops.size listed by rw [hsplit]; exact List.mem_append_left _ hj)
        have := hpair i hin j hji
        rw [Bool.or_eq_true] at this
        rcases this with h1 | h1
        · exfalso
          unfold waitsB at h1
          rw [ho] at h1
          obtain ⟨e, he, hb⟩ := Array.any_eq_true'.1 h1
          simp only [Bool.and_eq_true, beq_iff_eq] at hb
          have h2 := hdeps e he hb.1
          rw [hb.2, getD_both' hjm.2] at h2
          cases h2
        · rw [hg2] at h1
          split at h1
          · rename_i x y hx hy
            cases hy
            rw [List.getD_eq_getElem?_getD, hx]
            exact h1
          · cases h1
      rw [hsplit, List.map_append, List.map_cons, hbi] at h
      obtain ⟨u, hu1, hu2⟩ := bubble hpure hcomm h
      rw [← List.map_append, ← restL_set hsplit (by omega)] at hu2
      have hlen2 : (restL ops.size (listed.setIfInBounds i true)).length = fuel := by
        rw [restL_set hsplit (by omega)]
        rw [hsplit] at hl
        simp at hl ⊢
        omega
      unfold wpOp
      simp only [ho]
      exact oper_anyP hG hS hg1 hu1 hI fun Γ' a' w' hI' => ih (by simp [hsz]) hlen2 hu2 hI'
end

/-- the code, its drawn regions by 'drawOk' alone -/
def cCodeC (P : Program) (takes : FuncId → List Nat) (res : List Nat) : Code → Option ACode
  | .skip => some .skip
  | .region _ ops false => (cOpers P (fun t => (handed takes res ops.toList).contains t) false ops ops.toList).map (.region false)
  | .region _ ops true => match cOpers P (fun t => (handed takes res ops.toList).contains t) false ops ops.toList with
    | some bops => if drawOk ops bops then some (.region true bops) else some .bad
    | _ => none
  | .seq a b => match cCodeC P takes res a, cCodeC P takes res b with
    | some a, some b => some (.seq a b)
    | _, _ => none
  | .cond c a b => match cOpnd P 0 c, cCodeC P takes res a, cCodeC P takes res b with
    | some c, some a, some b => some (.cond c a b)
    | _, _, _ => none
  | .block id c => (cCodeC P takes res c).map (.block id)
  | .loop c => (cCodeC P takes res c).map .loop
  | .scope c => (cCodeC P takes res c).map .scope
  | .exit id => some (.exit id)
  | .ret => some .ret
  | .label _ => some .skip
  | _ => some .bad
def cFnC (P : Program) (takes : FuncId → List Nat) (fn : Func) : Option AFn :=
  match fn.body, cRess P fn.results.toList with
  | some c, some rs => (cCodeC P takes (resTmps fn.results.toList) c).map fun ac => ⟨fn.ntmps, rs, ac, !(takes litMark).isEmpty⟩
  | _, _ => none
section
variable (G : Nat → Option (List AV)) (call : FuncId → List AV → List AObj → Option (AV × List AObj × Eff)) (L : Nat)
def evalCodeC : ACode → AState → Option (AExit × AState)
  | .skip, s => some (.normal, s)
  | .region false ops, s => (evalOps G call ops s).map (.normal, ·)
  | .region true ops, s => (evalOps G (calmCall call) ops s).map (.normal, ·)
  | .seq a b, s => match evalCodeC a s with
    | some (.normal, s') => evalCodeC b s'
    | r => r
  | .cond c a b, s => match opnd G s.sl c with
    | some (.bool true) => evalCodeC a s
    | some (.bool false) => evalCodeC b s
    | _ => none
  | .block id c, s => match evalCodeC c s with
    | some (.exit i, s') => if i = id then some (.normal, s') else some (.exit i, s')
    | r => r
  | .loop c, s => iter (evalCodeC c) L s
  | .scope c, s => evalCodeC c s
  | .exit id, s => some (.exit id, s)
  | .ret, s => some (.ret, s)
  | .bad, _ => none
end
section
variable {P : Program} {G : Nat → Option (List AV)} {call : FuncId → List AV → List AObj → Option (AV × List AObj × Eff)} {E : Entry}
theorem code_wpC (hm : P.follows .mixedOrders = true) (hG : GOk G E.W0) (hS : CallSpec P E.W0 call) {takes : FuncId → List Nat} {res : List Nat} (L : Nat) : ∀ {c : Code} {ac : ACode} {s : AState} {r : AExit × AState} {Γ : Ghost} {a : Act} {w : World},
    cCodeC P takes res c = some ac → evalCodeC G call L ac s = some r → Inv E s Γ a w → c.wp P (Ends E r) a w := by
  intro c
  induction c with
  | skip =>
    intro ac s r Γ a w hc h hI
    cases hc; cases h
    exact Go.wp_skip (.normal hI)
  | region id ops draw =>
    intro ac s r Γ a w hc h hI
    cases draw with
    | false =>
      simp only [cCodeC] at hc
      obtain ⟨aops, h1, rfl⟩ := Option.map_eq_some_iff.1 hc
      simp only [evalCodeC] at h
      obtain ⟨s1, h2, rfl⟩ := Option.map_eq_some_iff.1 h
      refine wp_region ?_
      rw [List.range_eq_range']
      have := ops_wp hG hS (Q := Ends E (.normal, s1)) 0 (l := ops.toList) (by simp) h1 h2 hI fun Γ a w h => .normal h
      simpa using this
    | true =>
      simp only [cCodeC] at hc
      split at hc <;> first | (cases hc; done) | skip
      rename_i bops h1'
      split at hc
      · rename_i hd
        cases hc
        simp only [evalCodeC] at h
        obtain ⟨s1, h2, rfl⟩ := Option.map_eq_some_iff.1 h
        refine wp_region_any hm ?_
        have hb : Behind w { w with drawn := w.drawn + 1 } := ⟨rfl, rfl, rfl, Nat.le_refl _, fun _ _ => rfl⟩
        have hr : restL ops.size (Array.replicate ops.size false) = List.range ops.size := by
          unfold restL
          refine List.filter_eq_self.2 fun i hi => ?_
          simp only [List.mem_range] at hi
          simp [hi]
        have hmap : (List.range ops.size).map (fun i => bops.getD i ⟨none, .bad, none⟩) = bops := by
          have hl : ops.size = bops.length := by simpa using (cOpers_get h1').1
          rw [hl]
          refine List.ext_getElem? fun i => ?_
          rw [List.getElem?_map]
          by_cases hi : i < bops.length
          · rw [List.getElem?_range hi, Option.map_some, List.getD_eq_getElem?_getD, List.getElem?_eq_getElem hi]; rfl
          · rw [List.getElem?_eq_none (by simpa using hi), List.getElem?_eq_none (by omega)]; rfl
        exact ops_anyP hG (calm_spec hS) calm_pure (Q := Ends E (.normal, s1)) h1' hd (fun Γ a w h => .normal h) ops.size (by simp) (by rw [hr]; simp) (by rw [hr, hmap]; exact h2) (hb.inv hI)
      · cases hc; cases h
  | seq x y ihx ihy =>
    intro ac s r Γ a w hc h hI
    simp only [cCodeC] at hc
    split at hc <;> first | (cases hc; done) | skip
    rename_i ax ay hx hy
    obtain rfl := Option.some.inj hc
    simp only [evalCodeC] at h
    refine Go.wp_seq ?_
    split at h
    · rename_i s1 h1
      refine Go.wp_mono (ihx hx h1 hI) fun e a' w' he => ?_
      obtain ⟨k1, Γ', i1⟩ := he
      cases e <;> first | exact k1.elim | skip
      exact ihy hy h i1
    · rename_i hne
      refine Go.wp_mono (ihx hx h hI) fun e a' w' he => ?_
      cases e <;> first | exact he | skip
      obtain ⟨k1, _⟩ := he
      obtain ⟨q, s1⟩ := r
      cases q <;> first | exact k1.elim | skip
      exact absurd h (hne s1)
  | cond c x y ihx ihy =>
    intro ac s r Γ a w hc h hI
    simp only [cCodeC] at hc
    split at hc <;> first | (cases hc; done) | skip
    rename_i c' ax ay hcc hx hy
    obtain rfl := Option.some.inj hc
    simp only [evalCodeC] at h
    split at h <;> first | (cases h; done) | skip
    · rename_i hb
      have k := (cOpnd_rep hG hI hcc hb).1
      generalize hq : a.eval c = q at k
      cases k
      exact Go.wp_cond_true hq (ihx hx h hI)
    · rename_i hb
      have k := (cOpnd_rep hG hI hcc hb).1
      generalize hq : a.eval c = q at k
      cases k
      exact Go.wp_cond_false hq (ihy hy h hI)
  | block id c ih =>
    intro ac s r Γ a w hc h hI
    simp only [cCodeC] at hc
    obtain ⟨ax, hx, rfl⟩ := Option.map_eq_some_iff.1 hc
    simp only [evalCodeC] at h
    refine Go.wp_block ?_
    split at h
    · rename_i i s1 h1
      split at h
      · rename_i hi
        obtain rfl := Option.some.inj h
        refine Go.wp_mono (ih hx h1 hI) fun e a' w' he => ?_
        obtain ⟨k1, Γ', i1⟩ := he
        cases e <;> first | exact k1.elim | skip
        rename_i j
        simp only [Exit.inBlock]
        rw [if_pos (by rw [← hi]; exact (show i = j from k1).symm)]
        exact .normal i1
      · rename_i hi
        obtain rfl := Option.some.inj h
        refine Go.wp_mono (ih hx h1 hI) fun e a' w' he => ?_
        obtain ⟨k1, Γ', i1⟩ := he
        cases e <;> first | exact k1.elim | skip
        rename_i j
        simp only [Exit.inBlock]
        rw [if_neg (by rw [← (show i = j from k1)]; exact hi)]
        exact ⟨k1, Γ', i1⟩
    · rename_i hne
      refine Go.wp_mono (ih hx h hI) fun e a' w' he => ?_
      cases e <;> first | exact he | skip
      obtain ⟨k1, _⟩ := he
      obtain ⟨q, s1⟩ := r
      cases q <;> first | exact k1.elim | skip
      exact absurd h (hne _ s1)
  | loop c ih =>
    intro ac s r Γ a w hc h hI
    simp only [cCodeC] at hc
    obtain ⟨ax, hx, rfl⟩ := Option.map_eq_some_iff.1 hc
    simp only [evalCodeC] at h
    exact wp_loop_rounds L (iter_wp (fun h1 h2 => ih hx h1 h2) L h hI)
  | scope c ih =>
    intro ac s r Γ a w hc h hI
    simp only [cCodeC] at hc
    obtain ⟨ax, hx, rfl⟩ := Option.map_eq_some_iff.1 hc
    simp only [evalCodeC] at h
    refine Go.wp_scope_straight (Go.wp_mono (ih hx h hI) fun e a' w' he => ?_)
    cases e <;> first | exact he | skip
    obtain ⟨k1, _⟩ := he
    obtain ⟨q, s1⟩ := r
    cases q <;> exact k1.elim
  | exit id =>
    intro ac s r Γ a w hc h hI
    cases hc; cases h
    exact Go.wp_exit ⟨rfl, Γ, hI⟩
  | ret =>
    intro ac s r Γ a w hc h hI
    cases hc; cases h
    exact Go.wp_ret ⟨trivial, Γ, hI⟩
  | label l =>
    intro ac s r Γ a w hc h hI
    cases hc; cases h
    exact Go.wp_label (.normal hI)
  | _ =>
    intro ac s r Γ a w hc h
    cases hc; cases h
end
section
variable {G : Nat → Option (List AV)} {call : FuncId → List AV → List AObj → Option (AV × List AObj × Eff)}
theorem evalCodeC_bs (L : Nat) : ∀ {c : ACode} {s : AState} {r : AExit × AState}, evalCodeC G call L c s = some r → r.2.bs = s.bs := by
  intro c
  induction c with
  | skip => intro s r h; cases h; rfl
  | region draw ops =>
    intro s r h
    cases draw with
    | false =>
      simp only [evalCodeC] at h
      obtain ⟨s1, h1, rfl⟩ := Option.map_eq_some_iff.1 h
      exact evalOps_bs h1
    | true =>
      simp only [evalCodeC] at h
      obtain ⟨s1, h1, rfl⟩ := Option.map_eq_some_iff.1 h
      exact evalOps_bs h1
  | seq x y ihx ihy =>
    intro s r h
    simp only [evalCodeC] at h
    split at h
    · rename_i s1 h1
      rw [ihy h]; exact ihx h1
    · exact ihx h
  | cond c x y ihx ihy =>
    intro s r h
    simp only [evalCodeC] at h
    split at h <;> first | (cases h; done) | skip
    · exact ihx h
    · exact ihy h
  | block id c ih =>
    intro s r h
    simp only [evalCodeC] at h
    split at h
    · rename_i i s1 h1
      have := ih h1
      split at h <;> (obtain rfl := Option.some.inj h; exact this)
    · exact ih h
  | loop c ih =>
    intro s r h
    simp only [evalCodeC] at h
    exact iter_bs ih L h
  | scope c ih => intro s r h; simp only [evalCodeC] at h; exact ih h
  | exit id => intro s r h; cases h; rfl
  | ret => intro s r h; cases h; rfl
  | bad => intro s r h; cases h
end

/-- one call of such a function -/
def evalTop (C : Cfg) (n : Nat) (fn : AFn) (args : List AV) (hp : List AObj) : Option (AV × List AObj × Eff) :=
  match evalCodeC C.G (evalCall C n) C.L fn.code ⟨args ++ List.replicate (fn.ntmps - args.length) .undef, hp, none, hp.length⟩ with
  | some (.exit _, _) => none
  | some (_, s) => match resultOf s fn.results with
    | some v => some (if fn.keep then (v.nm, s.hp, s.ef) else finish v s hp)
    | none => none
  | none => none
theorem evalTop_ok {P : Program} {W0 : World} {C : Cfg} (h : CfgOk P W0 C) (n : Nat) {f : FuncId} {fn : Func} {takes : FuncId → List Nat} {af : AFn} (hf : P.funcs[f]? = some fn) (hname : (fn.name == "runtime.NumGoroutine") = false) (hcf : cFnC P takes fn = some af) :
    CallSpec P W0 fun g args hp => if g = f then evalTop C n af args hp else none := by
  intro g args hp v hp' e hc Γ w xs hr ht hs hx
  replace hc : (if g = f then evalTop C n af args hp else none) = some (v, hp', e) := hc
  split at hc
  case isFalse => cases hc
  rename_i hgf
  subst hgf
  have ih := evalCall_ok h n
  unfold evalTop at hc
  unfold cFnC at hcf
  split at hcf <;> first | (cases hcf; done) | skip
  rename_i c rs hb hrs
  obtain ⟨ac, hac, rfl⟩ := Option.map_eq_some_iff.1 hcf
  split at hc
  · cases hc
  · rename_i x s hne hev
    split at hc <;> first | (cases hc; done) | skip
    rename_i u hu
    have hfin := Option.some.inj hc
    refine ⟨enter_run hf hname hb xs w, ?_⟩
    have hbs : s.bs = hp.length := evalCodeC_bs C.L hev
    have hI : Inv ⟨W0, Γ, w⟩ ⟨args ++ List.replicate (fn.ntmps - args.length) .undef, hp, none, hp.length⟩ Γ { tmps := xs ++ Array.replicate (fn.ntmps - xs.size) Go.undef, defers := [] } w := by
      have get : ∀ (t : Nat) (y : AV), (args ++ List.replicate (fn.ntmps - args.length) AV.undef)[t]? = some y → (args[t]? = some y ∧ (xs ++ Array.replicate (fn.ntmps - xs.size) Go.undef).getD t Go.undef = xs.getD t Go.undef) ∨ (y = .undef ∧ (xs ++ Array.replicate (fn.ntmps - xs.size) Go.undef).getD t Go.undef = Go.undef) := by
        intro t y hy
        rw [List.getElem?_append] at hy
        split at hy
        · rename_i hlt
          refine .inl ⟨hy, ?_⟩
          rw [Array.getD_eq_getD_getElem?, Array.getD_eq_getD_getElem?, Array.getElem?_append_left (by omega)]
        · rename_i hge
          have hm := List.mem_of_getElem? hy
          have := List.eq_of_mem_replicate hm
          refine .inr ⟨this, ?_⟩
          have hlt := getElem?_lt hy
          simp only [List.length_replicate] at hlt
          rw [Array.getD_eq_getD_getElem?, Array.getElem?_append_right (by omega), Array.getElem?_replicate, if_pos (by omega)]
          rfl
      refine ⟨rfl, ⟨by simp [hs], fun t y hy => ?_, fun t y hy => ?_⟩, hr, .refl _ _ _, fun b g hb => hr.lt b g hb, fun b m g i hb => ht.cell b m g i hb, Nat.le_refl _⟩
      · rcases get t y hy with ⟨h1, h2⟩ | ⟨rfl, h2⟩
        · rw [h2]; exact (hx t y h1).1
        · rw [h2]; exact .undef
      · rcases get t y hy with ⟨h1, h2⟩ | ⟨rfl, h2⟩
        · rw [h2]; exact (hx t y h1).2
        · exact .of_ne (by simp)
    have hw := code_wpC h.mixed h.globals ih C.L hac hev hI
    refine calls_of_wp hf hb (Go.wp_mono hw fun en a' w' he => ?_)
    obtain ⟨k1, Γ', i1⟩ := he
    have fin : a'.defers = [] ∧ ∃ cv, (results fn a'.tmps).run P w' = .ok cv w' ∧ ∃ v', Ending.returned cv = .returned v' ∧ ∃ Γ', RW W0 Γ' w' hp' ∧ Rep Γ' w' v v' ∧ OwnAt Γ' w' .res v v' ∧ Frame Γ w Γ' w' e ∧ hp.length ≤ hp'.length := by
      obtain ⟨cv, Γ2, q1, q2, q3, q4, q5⟩ := res_ok i1 hrs hu
      obtain ⟨Γ3, p1, p2, p3, p4, p5⟩ := finish_ok hr hbs (by rw [hbs]; have := i1.le; simpa [hbs] using this) (fun b m g i hb => by rw [hbs]; exact ht.cell b m g i hb) q2 q3 q4 q5 hfin
      exact ⟨i1.defers, cv, q1, cv, rfl, Γ3, p1, p2, p3, p4, p5⟩
    cases x with
    | exit i => exact (hne i rfl).elim
    | normal => cases en <;> first | exact k1.elim | exact fin
    | ret => cases en <;> first | exact k1.elim | exact fin
  · cases hc
/-- an example's run at the beginning -/
theorem top_of {P : Program} {W : World} {C : Cfg} (h : CfgOk P W C) {n : Nat} {f : FuncId} {fn : Func} {takes : FuncId → List Nat} {af : AFn} (hf : P.funcs[f]? = some fn) (hname : (fn.name == "runtime.NumGoroutine") = false) (hcf : cFnC P takes fn = some af)
    {hp : List AObj} {e : Eff} (hev : evalTop C n af [] [] = some (.bool true, hp, e)) : Calls P f #[] W fun e W' => e = .returned (.bool true) ∧ Below W.heap.size W W' := by
  obtain ⟨_, hw⟩ := evalTop_ok h n hf hname hcf f [] [] (.bool true) hp e (by simpa using hev) still W #[] (rw_start W) tidy_start rfl fun j x hx => by simp at hx
  refine hw.mono fun en W' ⟨cv, hv, Γ', r1, r2, _, r4, _⟩ => ?_
  subst hv
  cases r2
  exact ⟨rfl, r4.os, r4.tape, r4.output, r4.size, fun b hb => (r4.keep b hb trivial).2⟩
end Go.Proofs.YtlmfmmclnboglaaGreat.Abs
