/-
  Several texts of this proof in one: EH, EI, EJ.
-/
import Derived.Test.YtiabiflaecidoaaDoorQ4
import Derived.Test.YtiabiflaecidoaaDoorQ2
set_option linter.all false
section
/-
  The program's functions whose contract was shown at the machine, as oracles of the evaluator.
-/
namespace Go.Proofs.YtiabiflaecidoaaDoor
open Go Go.RowKit Go.Proofs.YtiabiflaecidoaaDoor.Abs
set_option linter.all false

theorem tokRow_get (t : Tok) (j : Nat) (c : AV) (h : (tokRow t)[j]? = some c) : j < 4 ∧ c.noId1 = true ∧ ∀ (Γ : Ghost) (w : World), Rep Γ w c (t.cells.getD j Go.undef) := by
  match j, h with
  | 0, h => cases h; exact ⟨by omega, rfl, fun Γ w => .int _ _⟩
  | 1, h => cases h; exact ⟨by omega, rfl, fun Γ w => .str _⟩
  | 2, h => cases h; exact ⟨by omega, rfl, fun Γ w => .int _ _⟩
  | 3, h => cases h; exact ⟨by omega, rfl, fun Γ w => .int _ _⟩
  | j + 4, h => simp [tokRow] at h
theorem rep_of_own {Γ : Ghost} {w : World} {B : Nat} {v : Value} {ts : List Tok} (h : w.ownsRow B 31 4 v ts.length (flatT ts)) (hΓ : ∀ b, B ≤ b → Γ b = .imm) : Rep Γ w (.lst 4 (tokRows ts)) v := by
  rcases h.2 with ⟨rfl, h0⟩ | ⟨g, cap, cur, rfl, hg, hh, h1, h2, h3, h4⟩
  · have : ts = [] := List.eq_nil_of_length_eq_zero h0
    subst this
    exact .lstNil 4
  · have hrow : ∀ (i : Nat) (r : List AV), (tokRows ts)[i]? = some r → ∃ t, ts[i]? = some t ∧ r = tokRow t := fun i r hr => by
      rw [tokRows, List.getElem?_map] at hr
      obtain ⟨t, ht, e⟩ := Option.map_eq_some_iff.1 hr
      exact ⟨t, ht, e.symm⟩
    have e : (AV.lst 4 (tokRows ts)) = .lst 4 (tokRows ts) := rfl
    have hlen : ts.length = (tokRows ts).length := by simp [tokRows]
    rw [hlen]
    refine .lst 4 (tokRows ts) g 0 cap (fun i j => ((ts[i]?).map fun t => t.cells.getD j Go.undef).getD Go.undef) (by rw [← hlen]; exact h1) (fun r hr => ?_) (fun i j r c hr hc => ?_) (fun i j r c hr hc => ?_)
    · obtain ⟨t, _, rfl⟩ := List.mem_map.1 hr; rfl
    · obtain ⟨t, ht, rfl⟩ := hrow i r hr
      obtain ⟨hj, hid, _⟩ := tokRow_get t j c hc
      have hil : i < ts.length := (List.getElem?_eq_some_iff.1 ht).1
      refine ⟨?_, by show FixedK _ (Γ g); rw [hΓ g hg]; trivial, hid⟩
      have e := flatT_get ts i t j ht hj
      rw [← h4, List.getElem?_take_of_lt (by omega), Array.getElem?_toList] at e
      have hcell : t.cells.toList[j]? = some (t.cells.getD j Go.undef) := by
        match j, hj with
        | 0, _ => rfl
        | 1, _ => rfl
        | 2, _ => rfl
        | 3, _ => rfl
      simp only [ht, Option.map_some, Option.getD_some]
      rw [← hcell, ← e, Nat.zero_add]
      simp [World.cell?, hh]
    · obtain ⟨t, ht, rfl⟩ := hrow i r hr
      simp only [ht, Option.map_some, Option.getD_some]
      exact (tokRow_get t j c hc).2.2 Γ w
theorem toks_of_rep {Γ : Ghost} {w : World} {v : Value} {ts : List Tok} (h : Rep Γ w (.lst 4 (tokRows ts)) v) (hl : ts.length ≤ 281474976710656) (ho : ∀ t ∈ ts, t.text.length ≤ 281474976710656) : Toks w v w.heap.size ts := by
  refine ⟨?_, hl, ho⟩
  generalize hr : tokRows ts = rows at h
  cases h with
  | lstNil =>
    have : ts = [] := by simpa [tokRows] using hr
    subst this
    exact ⟨none, 0, rfl, fun h => absurd h (by simp)⟩
  | lstE _ A cap =>
    have : ts = [] := by simpa [tokRows] using hr
    subst this
    exact ⟨some A, cap, rfl, fun h => absurd h (by simp)⟩
  | lst _ _ b o cap cv hlen hk hc hrep =>
    have hlen' : rows.length = ts.length := by rw [← hr]; simp [tokRows]
    refine ⟨some ⟨b, o, none⟩, cap, by rw [hlen'], fun h0 => ⟨b, o, rfl, ?_, fun k t ht => ?_⟩⟩
    · obtain ⟨t, rest, rfl⟩ : ∃ t rest, ts = t :: rest := by cases ts; simp at h0; exact ⟨_, _, rfl⟩
      have := (hc 0 0 (tokRow t) (.int .i64 t.kind) (by rw [← hr]; rfl) rfl).1
      exact lt_of_cell this
    · have hk' : rows[k]? = some (tokRow t) := by rw [← hr, tokRows, List.getElem?_map, ht]; rfl
      have a0 := hc k 0 _ (.int .i64 t.kind) hk' rfl
      have a1 := hc k 1 _ (.str t.text) hk' rfl
      have a2 := hc k 2 _ (.int .i64 t.n) hk' rfl
      have a3 := hc k 3 _ (.int .i64 t.line) hk' rfl
      have r0 := hrep k 0 _ (.int .i64 t.kind) hk' rfl
      have r1 := hrep k 1 _ (.str t.text) hk' rfl
      have r2 := hrep k 2 _ (.int .i64 t.n) hk' rfl
      have r3 := hrep k 3 _ (.int .i64 t.line) hk' rfl
      generalize cv k 0 = v0 at *
      generalize cv k 1 = v1 at *
      generalize cv k 2 = v2 at *
      generalize cv k 3 = v3 at *
      cases r0; cases r1; cases r2; cases r3
      exact ⟨a0.1, a1.1, a2.1, a3.1⟩

/-- what the functions with a machine contract answer -/
def rowTok : List AV → Option Tok
  | [.int .i64 k, .str t, .int .i64 n, .int .i64 l] => some ⟨k, t, n, l⟩
  | _ => none
def rowsTok : List (List AV) → Option (List Tok)
  | [] => some []
  | r :: rs => match rowTok r, rowsTok rs with
    | some t, some ts => some (t :: ts)
    | _, _ => none
theorem rowTok_some {r : List AV} {t : Tok} (h : rowTok r = some t) : r = tokRow t := by
  unfold rowTok at h
  split at h
  · cases h; rfl
  · cases h
theorem rowsTok_some : ∀ {rs : List (List AV)} {ts : List Tok}, rowsTok rs = some ts → rs = tokRows ts
  | [], ts, h => by cases h; rfl
  | r :: rs, ts, h => by
    unfold rowsTok at h
    split at h
    · rename_i t ts' h1 h2
      cases h
      rw [rowTok_some h1, rowsTok_some h2]; rfl
    · cases h
theorem rowsTok_of : ∀ ts : List Tok, rowsTok (tokRows ts) = some ts
  | [] => rfl
  | t :: ts => by
    show (match rowTok (tokRow t), rowsTok (tokRows ts) with | some t, some ts => some (t :: ts) | _, _ => none) = _
    rw [rowsTok_of ts]; rfl
def okToks (ts : List Tok) : Prop := ts.length ≤ 281474976710656 ∧ ∀ t ∈ ts, t.text.length ≤ 281474976710656
instance (ts : List Tok) : Decidable (okToks ts) := inferInstanceAs (Decidable (_ ∧ _))
def orF (f : FuncId) (args : List AV) : Option AV :=
  if f = F_law08_awake then (match args with | [] => some (.bool true) | _ => none)
  else if f = F_lex_Tokens then (match args with | [.str s] => if s.length ≤ 281474976710656 then some (vT (tokensF s)) else none | _ => none)
  else if f = F_lex_Number then (match args with | [.str s] => if s.length ≤ 281474976710656 then some (.tup [.int .i64 (numF s).1, .bool (numF s).2]) else none | _ => none)
  else if f = F_r01_Text then (match args with | [.int .i64 n] => if -9223372036854775808 ≤ n ∧ n ≤ 9223372036854775807 then some (.str (Lib.itoa n)) else none | _ => none)
  else if f = F_lex_Check then (match args with | [.lst 4 rows] => (match rowsTok rows with | some ts => if okToks ts then some (.int .i64 (checkF ts)) else none | none => none) | _ => none)
  else if f = F_lex_Lines then (match args with | [.lst 4 rows] => (match rowsTok rows with | some ts => if okToks ts then some (.int .i64 (linesF ts)) else none | none => none) | _ => none)
  else if f = F_lex_Text then (match args with | [.lst 4 rows] => (match rowsTok rows with | some ts => if okToks ts ∧ bnd ts ≤ 70368744177664 then some (.tup [.str (textF ts).1, .int .i64 (textF ts).2]) else none | none => none) | _ => none)
  else none
theorem bytes_eq (s : List UInt8) : (⟨s.toArray⟩ : ByteArray).data.toList = s := by simp
theorem orF_ok {W0 : World} (hL : Laid W0) : ∀ f args v, orF f args = some v → OracleOk Tryd.prog W0 f args v := by
  intro f args v h
  unfold orF at h
  split at h
  · rename_i e; subst e
    split at h <;> cases h
    refine ⟨fun _ _ h => (by cases h), fun Γ w xs hb hΓ hs hx => ?_⟩
    have hxs : xs = #[] := Array.eq_empty_of_size_eq_zero hs
    subst hxs
    refine went_of_calls Tryd.func10 (by kernel_rfl) rfl ((c_awake w (hL.below hb)).mono ?_)
    rintro e w' ⟨rfl, hb'⟩
    exact ⟨_, rfl, hb', .bool true⟩
  split at h
  · rename_i e; subst e
    split at h
    · rename_i s
      split at h <;> cases h
      rename_i hs
      refine ⟨fun _ _ h => by simp [vT] at h, fun Γ w xs hb hΓ hsz hx => ?_⟩
      have h0 := hx 0 (.str s) rfl
      obtain ⟨x, rfl⟩ : ∃ x, xs = #[x] := by
        cases xs with | mk l => match l, hsz with | [x], _ => exact ⟨x, rfl⟩
      have hx0 : x = .string ⟨s.toArray⟩ := by
        have : Rep Γ w (.str s) x := h0
        cases this; rfl
      subst hx0
      refine went_of_calls Tryd.func11 (by kernel_rfl) rfl ((c_tokens ⟨s.toArray⟩ (by show s.toArray.size ≤ _; simpa using hs) w (hL.below hb)).mono ?_)
      rintro e w' ⟨v, rfl, ho, hb'⟩
      rw [bytes_eq] at ho ⊢
      refine ⟨_, rfl, hb', ?_⟩
      refine .tup _ _ rfl fun j c hc => ?_
      match j, hc with
      | 0, hc => cases hc; exact rep_of_own ho hΓ
      | 1, hc => cases hc; exact .int _ _
      | 2, hc => cases hc; exact .int _ _
      | j + 3, hc => simp at hc
    · cases h
  split at h
  · rename_i e; subst e
    split at h
    · rename_i s
      split at h <;> cases h
      rename_i hs
      refine ⟨fun _ _ h => (by cases h), fun Γ w xs hb hΓ hsz hx => ?_⟩
      have h0 := hx 0 (.str s) rfl
      obtain ⟨x, rfl⟩ : ∃ x, xs = #[x] := by
        cases xs with | mk l => match l, hsz with | [x], _ => exact ⟨x, rfl⟩
      have hx0 : x = .string ⟨s.toArray⟩ := by
        have : Rep Γ w (.str s) x := h0
        cases this; rfl
      subst hx0
      refine went_of_calls Tryd.func20 (by kernel_rfl) rfl ((c_number ⟨s.toArray⟩ (by show s.toArray.size ≤ _; simpa using hs) w (hL.below hb)).mono ?_)
      rintro e w' ⟨rfl, hb'⟩
      rw [bytes_eq]
      refine ⟨_, rfl, hb', .tup _ _ rfl fun j c hc => ?_⟩
      match j, hc with
      | 0, hc => cases hc; exact .int _ _
      | 1, hc => cases hc; exact .bool _
      | j + 2, hc => simp at hc
    · cases h
  split at h
  · rename_i e; subst e
    split at h
    · rename_i n
      split at h <;> cases h
      rename_i hs
      refine ⟨fun _ _ h => (by cases h), fun Γ w xs hb hΓ hsz hx => ?_⟩
      have h0 := hx 0 (.int .i64 n) rfl
      obtain ⟨x, rfl⟩ : ∃ x, xs = #[x] := by
        cases xs with | mk l => match l, hsz with | [x], _ => exact ⟨x, rfl⟩
      have hx0 : x = .int .i64 n := by
        have : Rep Γ w (.int .i64 n) x := h0
        cases this; rfl
      subst hx0
      refine went_of_calls Tryd.func22 (by kernel_rfl) rfl ((c_rtext _ n w (Nat.le_refl _) hs.1 hs.2).mono ?_)
      rintro e w' ⟨rfl, rfl⟩
      exact ⟨_, rfl, Below.refl _ _, .str _⟩
    · cases h
  split at h
  · rename_i e; subst e
    split at h
    · rename_i rows
      split at h
      · rename_i ts hrows
        split at h <;> cases h
        rename_i hs
        obtain rfl := rowsTok_some hrows
        refine ⟨fun _ _ h => (by cases h), fun Γ w xs hb hΓ hsz hx => ?_⟩
        have h0 := hx 0 (.lst 4 (tokRows ts)) rfl
        obtain ⟨x, rfl⟩ : ∃ x, xs = #[x] := by
          cases xs with | mk l => match l, hsz with | [x], _ => exact ⟨x, rfl⟩
        have h1 : Rep Γ w (.lst 4 (tokRows ts)) x := h0
        have hT := toks_of_rep h1 hs.1 hs.2
        refine went_of_calls Tryd.func14 (by kernel_rfl) rfl ((c_check ts x w hT).mono ?_)
        rintro e w' ⟨rfl, hb'⟩
        exact ⟨_, rfl, hb', .int _ _⟩
      · cases h
    · cases h
  split at h
  · rename_i e; subst e
    split at h
    · rename_i rows
      split at h
      · rename_i ts hrows
        split at h <;> cases h
        rename_i hs
        obtain rfl := rowsTok_some hrows
        refine ⟨fun _ _ h => (by cases h), fun Γ w xs hb hΓ hsz hx => ?_⟩
        have h0 := hx 0 (.lst 4 (tokRows ts)) rfl
        obtain ⟨x, rfl⟩ : ∃ x, xs = #[x] := by
          cases xs with | mk l => match l, hsz with | [x], _ => exact ⟨x, rfl⟩
        have h1 : Rep Γ w (.lst 4 (tokRows ts)) x := h0
        have hT := toks_of_rep h1 hs.1 hs.2
        refine went_of_calls Tryd.func15 (by kernel_rfl) rfl ((c_lines ts x w hT).mono ?_)
        rintro e w' ⟨rfl, hb'⟩
        exact ⟨_, rfl, hb', .int _ _⟩
      · cases h
    · cases h
  split at h
  · rename_i e; subst e
    split at h
    · rename_i rows
      split at h
      · rename_i ts hrows
        split at h <;> cases h
        rename_i hs
        obtain rfl := rowsTok_some hrows
        refine ⟨fun _ _ h => (by cases h), fun Γ w xs hb hΓ hsz hx => ?_⟩
        have h0 := hx 0 (.lst 4 (tokRows ts)) rfl
        obtain ⟨x, rfl⟩ : ∃ x, xs = #[x] := by
          cases xs with | mk l => match l, hsz with | [x], _ => exact ⟨x, rfl⟩
        have h1 : Rep Γ w (.lst 4 (tokRows ts)) x := h0
        have hT := toks_of_rep h1 hs.1.1 hs.1.2
        refine went_of_calls Tryd.func16 (by kernel_rfl) rfl ((c_ltext ts x w (hL.below hb) hT hs.2).mono ?_)
        rintro e w' ⟨rfl, hb'⟩
        exact ⟨_, rfl, hb', .tup _ _ rfl fun j c hc => by
          match j, hc with
          | 0, hc => cases hc; exact .str _
          | 1, hc => cases hc; exact .int _ _
          | j + 2, hc => simp at hc⟩
      · cases h
    · cases h
  · cases h
def C8 : Cfg := ⟨fun _ => none, cT, fun f args hp => (orF f args).map fun v => (v, hp, none), 9223372036854775808⟩
theorem C8_L : CfgL C8 := ⟨rfl, Nat.le_refl _⟩
theorem C8_ok {W0 : World} (hL : Laid W0) : CfgOk Tryd.prog W0 C8 where
  mixed := by kernel_rfl
  globals := fun g cells h => by cases h
  table := fun f af h => by
    have h : (tab.find? (·.1 == f)).map (·.2) = some af := h
    obtain ⟨p, hp, rfl⟩ := Option.map_eq_some_iff.1 h
    have hf := List.find?_some hp
    have : p.1 = f := by simpa using hf
    subst this
    exact tab_ok p (List.mem_of_find?_eq_some hp)
  oracle := spec_of_oracles (orF_ok hL)
theorem o_awake (n : Nat) (hp : List AObj) : evalCall C8 (n + 1) F_law08_awake [] hp = some (.bool true, hp, none) := rfl
theorem o_tokens (n : Nat) (s : List UInt8) (hp : List AObj) (hs : s.length ≤ 281474976710656) : evalCall C8 (n + 1) F_lex_Tokens [.str s] hp = some (vT (tokensF s), hp, none) := by
  show ((orF F_lex_Tokens [.str s]).map fun v => (v, hp, none)) = _
  rw [show orF F_lex_Tokens [.str s] = some (vT (tokensF s)) from if_pos hs]
  rfl
theorem o_number (n : Nat) (s : List UInt8) (hp : List AObj) (hs : s.length ≤ 281474976710656) : evalCall C8 (n + 1) F_lex_Number [.str s] hp = some (.tup [.int .i64 (numF s).1, .bool (numF s).2], hp, none) := by
  show ((orF F_lex_Number [.str s]).map fun v => (v, hp, none)) = _
  rw [show orF F_lex_Number [.str s] = some (.tup [.int .i64 (numF s).1, .bool (numF s).2]) from if_pos hs]
  rfl

theorem o_rtext (n : Nat) (x : Int) (hp : List AObj) (h1 : -9223372036854775808 ≤ x) (h2 : x ≤ 9223372036854775807) : evalCall C8 (n + 1) F_r01_Text [.int .i64 x] hp = some (.str (Lib.itoa x), hp, none) := by
  show ((orF F_r01_Text [.int .i64 x]).map fun v => (v, hp, none)) = _
  rw [show orF F_r01_Text [.int .i64 x] = some (.str (Lib.itoa x)) by simp [orF, h1, h2]; decide]
  rfl
theorem o_check (n : Nat) (ts : List Tok) (hp : List AObj) (h : okToks ts) : evalCall C8 (n + 1) F_lex_Check [.lst 4 (tokRows ts)] hp = some (.int .i64 (checkF ts), hp, none) := by
  have e : orF F_lex_Check [.lst 4 (tokRows ts)] = (match rowsTok (tokRows ts) with | some ts => if okToks ts then some (.int .i64 (checkF ts)) else none | none => none) := rfl
  show ((orF F_lex_Check [.lst 4 (tokRows ts)]).map fun v => (v, hp, none)) = _
  rw [e, rowsTok_of]; simp only [if_pos h]; rfl
theorem o_lines (n : Nat) (ts : List Tok) (hp : List AObj) (h : okToks ts) : evalCall C8 (n + 1) F_lex_Lines [.lst 4 (tokRows ts)] hp = some (.int .i64 (linesF ts), hp, none) := by
  have e : orF F_lex_Lines [.lst 4 (tokRows ts)] = (match rowsTok (tokRows ts) with | some ts => if okToks ts then some (.int .i64 (linesF ts)) else none | none => none) := rfl
  show ((orF F_lex_Lines [.lst 4 (tokRows ts)]).map fun v => (v, hp, none)) = _
  rw [e, rowsTok_of]; simp only [if_pos h]; rfl
theorem o_text (n : Nat) (ts : List Tok) (hp : List AObj) (h : okToks ts) (hb : bnd ts ≤ 70368744177664) : evalCall C8 (n + 1) F_lex_Text [.lst 4 (tokRows ts)] hp = some (.tup [.str (textF ts).1, .int .i64 (textF ts).2], hp, none) := by
  have e : orF F_lex_Text [.lst 4 (tokRows ts)] = (match rowsTok (tokRows ts) with | some ts => if okToks ts ∧ bnd ts ≤ 70368744177664 then some (.tup [.str (textF ts).1, .int .i64 (textF ts).2]) else none | none => none) := rfl
  show ((orF F_lex_Text [.lst 4 (tokRows ts)]).map fun v => (v, hp, none)) = _
  rw [e, rowsTok_of]; simp only [if_pos (And.intro h hb)]; rfl
theorem x_reads (s : List UInt8) (hs : s.length ≤ 281474976710656) : evalCall C8 6 F_law08_LexReads [.str s] [] = some (.bool true, [], none) := by
  refine law08_LexReads_run (by rfl) ?_
  by_cases h : 600 < s.length
  · have h' : (600 : Int) < (s.length : Int) := by omega
    simp only [d_law08_LexReads, optK_s, opt2_s, opt3_s, ifK_b, guardK_t, guardK_f, guardB_bt, guardB_bf, pickV_t, pickV_f, gif_t, guardK_pure, ro_gif, pick_and, pick_or', grp_and, grp_or, grp_tt, grp_ft, grp_tf, grp_ff, letK_e, ro_bool, ro_int, ro_str, ro_lst, ro_own, ro_agg, ro_tup, ro_ptr, ro_map, ro_ref, ro_fn, ro_undef, nm_bool, nm_int, nm_str, nm_lst, nm_own, nm_agg, nm_ptr, nm_map, nm_fn, b_add, b_sub, b_mul, b_eq, b_ne, b_lt, b_le, b_gt, b_ge, s_eq, s_ne, q_int, q_str, q_bool, q_nil, q_if, b_eqS, b_neS, b_eqB, b_neB, Option.map_some, u_not, u_neg, l_str, l_lst, c_int, x_tup, after_none, fin_bool, fin_int, fin_str, fin_lst, fin_own, fin_tup, frz2_int, frz2_str, frz2_bool, frz2_lst, fa_ref, fa_ptr, ldc_ref, h', decide_true, if_true, o_awake]
  · have h' : ¬ (600 : Int) < (s.length : Int) := by omega
    have hl := tokensF_len s
    simp only [d_law08_LexReads, optK_s, opt2_s, opt3_s, ifK_b, guardK_t, guardK_f, guardB_bt, guardB_bf, pickV_t, pickV_f, gif_t, guardK_pure, ro_gif, pick_and, pick_or', grp_and, grp_or, grp_tt, grp_ft, grp_tf, grp_ff, letK_e, ro_bool, ro_int, ro_str, ro_lst, ro_own, ro_agg, ro_tup, ro_ptr, ro_map, ro_ref, ro_fn, ro_undef, nm_bool, nm_int, nm_str, nm_lst, nm_own, nm_agg, nm_ptr, nm_map, nm_fn, b_add, b_sub, b_mul, b_eq, b_ne, b_lt, b_le, b_gt, b_ge, s_eq, s_ne, q_int, q_str, q_bool, q_nil, q_if, b_eqS, b_neS, b_eqB, b_neB, Option.map_some, u_not, u_neg, l_str, l_lst, c_int, x_tup, after_none, fin_bool, fin_int, fin_str, fin_lst, fin_own, fin_tup, frz2_int, frz2_str, frz2_bool, frz2_lst, fa_ref, fa_ptr, ldc_ref, h', decide_false, Bool.false_eq_true, if_false, o_tokens 4 s _ hs, e_rtokens C8_L 1 s _ (by omega), vT, List.getElem?_cons_zero, List.getElem?_cons_succ, e_same C8_L 4 _ _ _ (show (tokensF s).1.length < 4611686018427387904 by omega), sameT_refl, decide_true, o_awake, Bool.and_true, Bool.true_and]
theorem c_reads (s : ByteArray) (hs : s.size ≤ 281474976710656) (w : World) (hL : Laid w) :
    Calls Tryd.prog 3 #[.string s] w fun e w' => e = .returned (.bool true) ∧ Below w.heap.size w w' :=
  law_of (C8_ok hL) (x_reads s.data.toList (by rw [len_toList]; exact hs)) rfl fun j x hx => by
    match j, hx with
    | 0, hx => cases hx; exact ⟨by show Rep _ _ _ (.string s); exact .str s.data.toList, fun k r e => by cases e⟩
    | j + 1, hx => simp at hx
end Go.Proofs.YtiabiflaecidoaaDoor
end
section
/-
  LexNumbers.
-/
namespace Go.Proofs.YtiabiflaecidoaaDoor
open Go Go.RowKit Go.Proofs.YtiabiflaecidoaaDoor.Abs
set_option linter.all false
theorem ia_zero (k : Nat) (r : List AV) (l : List (List AV)) : iaVal (.slice k) (.lst k (r :: l)) (.int .i64 0) = some (.ref r) := by simp [iaVal]
open Lib in
theorem numF_text (s : List UInt8) (h : (numF s).2 = true) : itoa (numF s).1 = s ∧ 0 ≤ (numF s).1 ∧ (numF s).1 ≤ 1000000000000 := by
  have hb := numF_bounds s h
  refine ⟨?_, hb⟩
  unfold numF at h ⊢
  rw [parse_same] at h ⊢
  split at h
  · rename_i hc
    rw [if_pos hc]
    unfold parseR at hc ⊢
    split at hc
    · exact absurd hc.1 (by simp)
    · rename_i hl
      rw [if_neg hl]
      split at hc
      · rename_i hq
        rw [if_pos hq]
        simp only [Bool.and_eq_true, beq_iff_eq] at hq
        exact hq.2
      · exact absurd hc.1 (by simp)
  · cases h
open Lib in
theorem numF_itoa (n : Int) (h0 : -9223372036854775808 ≤ n) (h1 : n ≤ 9223372036854775807) : numF (itoa n) = if 0 ≤ n ∧ n ≤ 1000000000000 then (n, true) else (0, false) := by
  unfold numF
  rw [parseI_itoa n h0 h1]
  by_cases hi : inB n = true
  · have hi' := hi
    simp only [inB, Bool.and_eq_true, decide_eq_true_eq] at hi'
    rw [hi]
    simp only [if_true, true_and]
    by_cases hn : 0 ≤ n
    · rw [if_pos hn, if_pos ⟨hn, hi'.2⟩]
    · rw [if_neg hn, if_neg (fun h => hn h.1)]
  · have hi' : inB n = false := by simpa using hi
    rw [hi']
    simp only [Bool.false_eq_true, if_false, false_and]
    rw [if_neg (fun h => hi (by simp [inB]; omega))]
open Lib in
theorem itoa_len (n : Int) (h0 : -9223372036854775808 ≤ n) (h1 : n ≤ 9223372036854775807) : (itoa n).length ≤ 21 := by
  by_cases h : n < 0
  · rw [itoa_minus n h]
    have := digits_length 19 n.natAbs (by omega)
    simp; omega
  · rw [itoa_pos n (by omega)]
    have := digits_length 19 n.natAbs (by omega)
    omega
theorem run_all (p : UInt8 → Bool) : ∀ (l : List UInt8), l.all p = true → runN p l = l.length
  | [], _ => rfl
  | c :: r, h => by
    simp only [List.all_cons, Bool.and_eq_true] at h
    have := run_all p r h.2
    simp only [runN] at this ⊢
    simp [List.takeWhile_cons, h.1, this]
open Lib in
theorem tok_num (n : Int) (h0 : 0 ≤ n) (h1 : n ≤ 1000000000000) : tokensF (itoa n) = ([⟨2, [], n, 1⟩, ⟨4, [], 0, 1⟩, ⟨0, [], 0, 1⟩], 0, 0) := by
  have hl := itoa_len n (by omega) (by omega)
  have hf := numF_itoa n (by omega) (by omega)
  rw [if_pos ⟨h0, h1⟩] at hf
  rw [tokensF_endV C8_L, if_neg (by omega)]
  have ha : (itoa n).all isDigit = true := by
    rw [itoa_pos n h0, ← isD_eq]; exact digits_all _ _ (Nat.le_refl _)
  obtain ⟨c, r, hcr, _⟩ := digits_head n.natAbs n.natAbs (Nat.le_refl _)
  rw [← itoa_pos n h0] at hcr
  rw [hcr] at ha hf ⊢
  have hr := run_all isDigit (c :: r) ha
  have hc : isDigit c = true := by simp at ha; exact ha.1
  have hb := isD_bounds (c := c) hc
  have hlet := digit_not_letter hc
  have ht : tokenF (c :: r) = (⟨2, [], n, 0⟩, (c :: r).length) := by
    simp only [tokenF, hlet, hc, Bool.false_eq_true, if_false, if_true, hr, List.take_length, hf]
  rw [scan, step_tok c r st0 rfl (by omega) rfl (by rw [ht]; simp), if_neg (by simp [st0]), ht]
  have := scan_skip r.length r ⟨1, true, false, 0, [⟨2, [], n, 1⟩], false⟩ (Nat.le_refl _) rfl
  rw [List.drop_length] at this
  show endV (scan r ⟨1, true, false, r.length, [⟨2, [], n, 1⟩], false⟩) = _
  rw [show (⟨1, true, false, r.length, [⟨2, [], n, 1⟩], false⟩ : St) = { (⟨1, true, false, 0, [⟨2, [], n, 1⟩], false⟩ : St) with skip := r.length } from rfl, this]
  rfl
theorem x_numbers (s : List UInt8) (n : Int) (hs : s.length ≤ 281474976710656) (h0 : -9223372036854775808 ≤ n) (h1 : n ≤ 9223372036854775807) : evalCall C8 6 F_law08_LexNumbers [.str s, .int .i64 n] [] = some (.bool true, [], none) := by
  refine law08_LexNumbers_run (by rfl) ?_
  have hl := itoa_len n h0 h1
  have hf := numF_itoa n h0 h1
  have first : ∀ (k : List AObj → KR), True := fun _ => trivial
  have ht : (numF s).2 = true → evalCall C8 5 F_r01_Text [.int .i64 (numF s).1] [] = some (.str s, [], none) := by
    intro h
    obtain ⟨a, b, c⟩ := numF_text s h
    rw [o_rtext 4 _ _ (by omega) (by omega), a]
  have hg : (decide (0 ≤ n) && decide (n ≤ 1000000000000)) = decide (0 ≤ n ∧ n ≤ 1000000000000) := by
    rw [Bool.eq_iff_iff]; simp
  have e1 : ∀ (b : Bool) (k : AV → List AObj → Eff → KR), (b = true → (numF s).2 = true) →
      grpK (.bool b) true (opt3 (evalCall C8 5 F_r01_Text [.int .i64 (numF s).1] []) fun v15 h16 f17 => optK (binVal .neq .prim (AV.ro v15) (.str s)) fun v18 => some (v18, h16, (afterK ([] : List AObj).length none f17))) (some (.bool false)) [] none k = k (.bool false) [] none := by
    intro b k h
    cases b with
    | false => rfl
    | true => simp [ht (h rfl), optK_s, opt2_s, opt3_s, ifK_b, guardK_t, guardK_f, guardB_bt, guardB_bf, pickV_t, pickV_f, gif_t, guardK_pure, ro_gif, pick_and, pick_or', grp_and, grp_or, grp_tt, grp_ft, grp_tf, grp_ff, letK_e, ro_bool, ro_int, ro_str, ro_lst, ro_own, ro_agg, ro_tup, ro_ptr, ro_map, ro_ref, ro_fn, ro_undef, nm_bool, nm_int, nm_str, nm_lst, nm_own, nm_agg, nm_ptr, nm_map, nm_fn, b_add, b_sub, b_mul, b_eq, b_ne, b_lt, b_le, b_gt, b_ge, s_eq, s_ne, q_int, q_str, q_bool, q_nil, q_if, b_eqS, b_neS, b_eqB, b_neB, Option.map_some, u_not, u_neg, l_str, l_lst, c_int, x_tup, after_none, fin_bool, fin_int, fin_str, fin_lst, fin_own, fin_tup, frz2_int, frz2_str, frz2_bool, frz2_lst, fa_ref, fa_ptr, ldc_ref]
  have e2 := e1 (numF s).2
  simp only [d_law08_LexNumbers, optK_s, opt2_s, opt3_s, ifK_b, guardK_t, guardK_f, guardB_bt, guardB_bf, pickV_t, pickV_f, gif_t, guardK_pure, ro_gif, pick_and, pick_or', grp_and, grp_or, grp_tt, grp_ft, grp_tf, grp_ff, letK_e, ro_bool, ro_int, ro_str, ro_lst, ro_own, ro_agg, ro_tup, ro_ptr, ro_map, ro_ref, ro_fn, ro_undef, nm_bool, nm_int, nm_str, nm_lst, nm_own, nm_agg, nm_ptr, nm_map, nm_fn, b_add, b_sub, b_mul, b_eq, b_ne, b_lt, b_le, b_gt, b_ge, s_eq, s_ne, q_int, q_str, q_bool, q_nil, q_if, b_eqS, b_neS, b_eqB, b_neB, Option.map_some, u_not, u_neg, l_str, l_lst, c_int, x_tup, after_none, fin_bool, fin_int, fin_str, fin_lst, fin_own, fin_tup, frz2_int, frz2_str, frz2_bool, frz2_lst, fa_ref, fa_ptr, ldc_ref, o_number 4 s _ hs, e_rnumber C8_L 3 s _ (by omega), numR_eq, List.getElem?_cons_zero, List.getElem?_cons_succ, ne_eq, not_true_eq_false, decide_false, beq_self_eq_true, Bool.not_true]
  rw [e2 _ (fun h => h)]
  simp only [optK_s, opt2_s, opt3_s, ifK_b, guardK_t, guardK_f, guardB_bt, guardB_bf, pickV_t, pickV_f, gif_t, guardK_pure, ro_gif, pick_and, pick_or', grp_and, grp_or, grp_tt, grp_ft, grp_tf, grp_ff, letK_e, ro_bool, ro_int, ro_str, ro_lst, ro_own, ro_agg, ro_tup, ro_ptr, ro_map, ro_ref, ro_fn, ro_undef, nm_bool, nm_int, nm_str, nm_lst, nm_own, nm_agg, nm_ptr, nm_map, nm_fn, b_add, b_sub, b_mul, b_eq, b_ne, b_lt, b_le, b_gt, b_ge, s_eq, s_ne, q_int, q_str, q_bool, q_nil, q_if, b_eqS, b_neS, b_eqB, b_neB, Option.map_some, u_not, u_neg, l_str, l_lst, c_int, x_tup, after_none, fin_bool, fin_int, fin_str, fin_lst, fin_own, fin_tup, frz2_int, frz2_str, frz2_bool, frz2_lst, fa_ref, fa_ptr, ldc_ref, Bool.false_eq_true, if_false, o_rtext 4 n _ h0 h1, o_number 4 (Lib.itoa n) _ (by omega), hf, hg, List.getElem?_cons_zero, List.getElem?_cons_succ, o_tokens 4 (Lib.itoa n) _ (by omega)]
  by_cases hr : 0 ≤ n ∧ n ≤ 1000000000000
  · have htk := tok_num n hr.1 hr.2
    simp [hr, optK_s, opt2_s, opt3_s, ifK_b, guardK_t, guardK_f, guardB_bt, guardB_bf, pickV_t, pickV_f, gif_t, guardK_pure, ro_gif, pick_and, pick_or', grp_and, grp_or, grp_tt, grp_ft, grp_tf, grp_ff, letK_e, ro_bool, ro_int, ro_str, ro_lst, ro_own, ro_agg, ro_tup, ro_ptr, ro_map, ro_ref, ro_fn, ro_undef, nm_bool, nm_int, nm_str, nm_lst, nm_own, nm_agg, nm_ptr, nm_map, nm_fn, b_add, b_sub, b_mul, b_eq, b_ne, b_lt, b_le, b_gt, b_ge, s_eq, s_ne, q_int, q_str, q_bool, q_nil, q_if, b_eqS, b_neS, b_eqB, b_neB, Option.map_some, u_not, u_neg, l_str, l_lst, c_int, x_tup, after_none, fin_bool, fin_int, fin_str, fin_lst, fin_own, fin_tup, frz2_int, frz2_str, frz2_bool, frz2_lst, fa_ref, fa_ptr, ldc_ref, htk, vT, tokRows, tokRow, ia_zero, o_awake]
  · simp [hr, optK_s, opt2_s, opt3_s, ifK_b, guardK_t, guardK_f, guardB_bt, guardB_bf, pickV_t, pickV_f, gif_t, guardK_pure, ro_gif, pick_and, pick_or', grp_and, grp_or, grp_tt, grp_ft, grp_tf, grp_ff, letK_e, ro_bool, ro_int, ro_str, ro_lst, ro_own, ro_agg, ro_tup, ro_ptr, ro_map, ro_ref, ro_fn, ro_undef, nm_bool, nm_int, nm_str, nm_lst, nm_own, nm_agg, nm_ptr, nm_map, nm_fn, b_add, b_sub, b_mul, b_eq, b_ne, b_lt, b_le, b_gt, b_ge, s_eq, s_ne, q_int, q_str, q_bool, q_nil, q_if, b_eqS, b_neS, b_eqB, b_neB, Option.map_some, u_not, u_neg, l_str, l_lst, c_int, x_tup, after_none, fin_bool, fin_int, fin_str, fin_lst, fin_own, fin_tup, frz2_int, frz2_str, frz2_bool, frz2_lst, fa_ref, fa_ptr, ldc_ref, vT, o_awake]
theorem c_numbers (s : ByteArray) (n : Int) (hs : s.size ≤ 281474976710656) (h0 : -9223372036854775808 ≤ n) (h1 : n ≤ 9223372036854775807) (w : World) (hL : Laid w) :
    Calls Tryd.prog 7 #[.string s, .int .i64 n] w fun e w' => e = .returned (.bool true) ∧ Below w.heap.size w w' :=
  law_of (C8_ok hL) (x_numbers s.data.toList n (by rw [len_toList]; exact hs) h0 h1) rfl fun j x hx => by
    match j, hx with
    | 0, hx => cases hx; exact ⟨by show Rep _ _ _ (.string s); exact .str s.data.toList, fun k r e => by cases e⟩
    | 1, hx => cases hx; exact ⟨.int _ _, fun k r e => by cases e⟩
    | j + 2, hx => simp at hx
end Go.Proofs.YtiabiflaecidoaaDoor
end
section
/-
  LexLong.
-/
namespace Go.Proofs.YtiabiflaecidoaaDoor
open Go Go.RowKit Go.Proofs.YtiabiflaecidoaaDoor.Abs
set_option linter.all false

/-- the array when i bytes are stored -/
def arrA (N i : Nat) : List AV := List.replicate i (.int .u8 97) ++ List.replicate (N - i) (.int .u8 0)
theorem arrA_len (N i : Nat) (h : i ≤ N) : (arrA N i).length = N := by simp [arrA]; omega
theorem arrA_step (N i : Nat) (h : i < N) : splice (arrA N i) i [.int .u8 97] = arrA N (i + 1) := by
  obtain ⟨k, hk⟩ : ∃ k, N - i = k + 1 := ⟨N - i - 1, by omega⟩
  have hk' : N - (i + 1) = k := by omega
  unfold splice arrA
  rw [hk, hk']
  have h1 : (List.replicate i (AV.int .u8 97) ++ List.replicate (k + 1) (AV.int .u8 0)).take i = List.replicate i (AV.int .u8 97) := List.take_left' (by simp)
  have h2 : (List.replicate i (AV.int .u8 97) ++ List.replicate (k + 1) (AV.int .u8 0)).drop (i + [AV.int .u8 97].length) = List.replicate k (AV.int .u8 0) := by
    rw [← List.drop_drop, List.drop_left' (by simp)]; simp
  rw [h1, h2, List.replicate_succ']
theorem chunk_one (a : AV) : ∀ n, chunk 1 n (List.replicate n a) = List.replicate n [a]
  | 0 => rfl
  | n + 1 => by
    rw [List.replicate_succ, List.replicate_succ, chunk]
    simp [chunk_one a n]
theorem byte_rows : ∀ n, (List.replicate n [AV.int .u8 97]).mapM Abs.byteOf = some (List.replicate n (97 : UInt8))
  | 0 => rfl
  | n + 1 => by
    rw [List.replicate_succ, List.mapM_cons, byte_rows n]
    rfl
theorem long_loop (K : FuncId → List AV → List AObj → KR) (k0 : AV → AV → List AObj → Eff → KR) (N : Nat) (hN : N ≤ 100000) (T : TypeId) : ∀ (m i : Nat), i ≤ N → N - i < m →
    d_law08_LexLong_l0 C8.G K C8.L [] k0 m (.int .i64 N) (.arr 0 0 N 1) (.int .i64 i) [.cells (arrA N i) T] none = k0 (.int .i64 N) (.arr 0 0 N 1) [.cells (arrA N N) T] none
  | 0, _, _, h => by omega
  | m + 1, i, hi, hm => by
    by_cases hl : i < N
    · have hl' : (i : Int) < (N : Int) := by omega
      have hia : iaVal (.slice 1) (.arr 0 0 N 1) (.int .i64 i) = some (.ptr 0 i) := by simp [iaVal, hl]
      have hst : stV ([] : List AObj).length 1 (.ptr 0 i) (.int .u8 97) [.cells (arrA N i) T] none = some ([.cells (arrA N (i + 1)) T], none) := by
        have := arrA_len N i (by omega)
        simp [stV, AV.cells, AV.laid, this, arrA_step N i hl, noteK]; omega
      simp only [d_law08_LexLong_l0, optK_s, opt2_s, opt3_s, ifK_b, guardK_t, guardK_f, guardB_bt, guardB_bf, pickV_t, pickV_f, gif_t, guardK_pure, ro_gif, pick_and, pick_or', grp_and, grp_or, grp_tt, grp_ft, grp_tf, grp_ff, letK_e, ro_bool, ro_int, ro_str, ro_lst, ro_own, ro_agg, ro_tup, ro_ptr, ro_map, ro_ref, ro_fn, ro_undef, nm_bool, nm_int, nm_str, nm_lst, nm_own, nm_agg, nm_ptr, nm_map, nm_fn, b_add, b_sub, b_mul, b_eq, b_ne, b_lt, b_le, b_gt, b_ge, s_eq, s_ne, q_int, q_str, q_bool, q_nil, q_if, b_eqS, b_neS, b_eqB, b_neB, Option.map_some, u_not, u_neg, l_str, l_lst, c_int, x_tup, after_none, fin_bool, fin_int, fin_str, fin_lst, fin_own, fin_tup, frz2_int, frz2_str, frz2_bool, frz2_lst, fa_ref, fa_ptr, ldc_ref, hl', decide_true, if_true, hia, hst, wrap_nat i (by omega)]
      exact long_loop K k0 N hN T m (i + 1) (by omega) (by omega)
    · have : i = N := by omega
      subst this
      simp only [d_law08_LexLong_l0, optK_s, opt2_s, opt3_s, ifK_b, guardK_t, guardK_f, guardB_bt, guardB_bf, pickV_t, pickV_f, gif_t, guardK_pure, ro_gif, pick_and, pick_or', grp_and, grp_or, grp_tt, grp_ft, grp_tf, grp_ff, letK_e, ro_bool, ro_int, ro_str, ro_lst, ro_own, ro_agg, ro_tup, ro_ptr, ro_map, ro_ref, ro_fn, ro_undef, nm_bool, nm_int, nm_str, nm_lst, nm_own, nm_agg, nm_ptr, nm_map, nm_fn, b_add, b_sub, b_mul, b_eq, b_ne, b_lt, b_le, b_gt, b_ge, s_eq, s_ne, q_int, q_str, q_bool, q_nil, q_if, b_eqS, b_neS, b_eqB, b_neB, Option.map_some, u_not, u_neg, l_str, l_lst, c_int, x_tup, after_none, fin_bool, fin_int, fin_str, fin_lst, fin_own, fin_tup, frz2_int, frz2_str, frz2_bool, frz2_lst, fa_ref, fa_ptr, ldc_ref, Int.lt_irrefl, decide_false, Bool.false_eq_true, if_false]
theorem tok_long (N : Nat) (h0 : 1 ≤ N) (h1 : N ≤ 20000) : tokensF (List.replicate N 97) = ([⟨1, List.replicate N 97, 0, 1⟩, ⟨4, [], 0, 1⟩, ⟨0, [], 0, 1⟩], 0, 0) := by
  rw [tokensF_endV C8_L, if_neg (by simp; omega)]
  obtain ⟨k, rfl⟩ : ∃ k, N = k + 1 := ⟨N - 1, by omega⟩
  have hr : runN isInner (List.replicate (k + 1) 97) = (List.replicate (k + 1) (97 : UInt8)).length := run_all _ _ (by simp; decide)
  have ht : tokenF (List.replicate (k + 1) 97) = (⟨1, List.replicate (k + 1) 97, 0, 0⟩, k + 1) := by
    rw [List.replicate_succ] at hr ⊢
    have hlet : isLetter 97 = true := by decide
    simp only [tokenF, hlet, if_true, hr, List.take_length]
    simp
  have hc := List.replicate_succ (n := k) (a := (97 : UInt8))
  rw [hc] at ht ⊢
  rw [scan, step_tok 97 _ st0 rfl (by decide) rfl (by rw [ht]; simp), if_neg (by simp [st0]), ht]
  have := scan_skip k (List.replicate k 97) ⟨1, true, false, 0, [⟨1, 97 :: List.replicate k 97, 0, 1⟩], false⟩ (by simp) rfl
  rw [List.drop_of_length_le (by simp)] at this
  show endV (scan (List.replicate k 97) { (⟨1, true, false, 0, [⟨1, 97 :: List.replicate k 97, 0, 1⟩], false⟩ : St) with skip := k }) = _
  rw [this]
  rfl
theorem x_long (n : Int) : evalCall C8 6 F_law08_LexLong [.int .i64 n] [] = some (.bool true, [], none) := by
  refine law08_LexLong_run (by rfl) ?_
  by_cases hr : 19990 ≤ n ∧ n ≤ 20010
  · obtain ⟨N, rfl⟩ : ∃ N : Nat, n = N := ⟨n.toNat, by omega⟩
    have h1 : ¬ (N : Int) < 19990 := by omega
    have h2 : ¬ (20010 : Int) < N := by omega
    have hmk : mkslV ty_uint8 [(.int .u8 0)] (.int .i64 N) [] = some (.arr 0 0 N 1, [.cells (arrA N 0) ty_uint8]) := by
      have : (List.flatten (List.replicate N [AV.int .u8 0])) = List.replicate N (.int .u8 0) := by
        clear hr h1 h2
        induction N with
        | zero => rfl
        | succ k ih => rw [List.replicate_succ, List.flatten_cons, ih, List.replicate_succ]; rfl
      have hb : (0 : Int) ≤ N ∧ (N : Int) ≤ 4294967296 := by omega
      simp [mkslV, hb, arrA, this]
    have hconv : convVal [.cells (arrA N N) ty_uint8] .ofBytes (.arr 0 0 N 1) = some (.str (List.replicate N 97)) := by
      have e : arrA N N = List.replicate N (.int .u8 97) := by simp [arrA]
      simp only [convVal, rowsOf, List.getElem?_cons_zero, e, List.length_replicate, Nat.zero_add, Nat.mul_one, Nat.le_refl, if_true, List.drop_zero, chunk_one, byte_rows, Option.map_some]
    have hloop := fun K k0 => long_loop K k0 N (by omega) ty_uint8 C8.L 0 (by omega) (by have := C8_L.L; omega)
    simp only [d_law08_LexLong, optK_s, opt2_s, opt3_s, ifK_b, guardK_t, guardK_f, guardB_bt, guardB_bf, pickV_t, pickV_f, gif_t, guardK_pure, ro_gif, pick_and, pick_or', grp_and, grp_or, grp_tt, grp_ft, grp_tf, grp_ff, letK_e, ro_bool, ro_int, ro_str, ro_lst, ro_own, ro_agg, ro_tup, ro_ptr, ro_map, ro_ref, ro_fn, ro_undef, nm_bool, nm_int, nm_str, nm_lst, nm_own, nm_agg, nm_ptr, nm_map, nm_fn, b_add, b_sub, b_mul, b_eq, b_ne, b_lt, b_le, b_gt, b_ge, s_eq, s_ne, q_int, q_str, q_bool, q_nil, q_if, b_eqS, b_neS, b_eqB, b_neB, Option.map_some, u_not, u_neg, l_str, l_lst, c_int, x_tup, after_none, fin_bool, fin_int, fin_str, fin_lst, fin_own, fin_tup, frz2_int, frz2_str, frz2_bool, frz2_lst, fa_ref, fa_ptr, ldc_ref, h1, h2, decide_false, Bool.false_eq_true, if_false, Bool.or_self, hmk]
    refine Eq.trans (hloop _ _) ?_
    simp only [d_law08_LexLong_j1, optK_s, opt2_s, opt3_s, ifK_b, guardK_t, guardK_f, guardB_bt, guardB_bf, pickV_t, pickV_f, gif_t, guardK_pure, ro_gif, pick_and, pick_or', grp_and, grp_or, grp_tt, grp_ft, grp_tf, grp_ff, letK_e, ro_bool, ro_int, ro_str, ro_lst, ro_own, ro_agg, ro_tup, ro_ptr, ro_map, ro_ref, ro_fn, ro_undef, nm_bool, nm_int, nm_str, nm_lst, nm_own, nm_agg, nm_ptr, nm_map, nm_fn, b_add, b_sub, b_mul, b_eq, b_ne, b_lt, b_le, b_gt, b_ge, s_eq, s_ne, q_int, q_str, q_bool, q_nil, q_if, b_eqS, b_neS, b_eqB, b_neB, Option.map_some, u_not, u_neg, l_str, l_lst, c_int, x_tup, after_none, fin_bool, fin_int, fin_str, fin_lst, fin_own, fin_tup, frz2_int, frz2_str, frz2_bool, frz2_lst, fa_ref, fa_ptr, ldc_ref, hconv, o_tokens 4 (List.replicate N 97) _ (by simp; omega)]
    by_cases h3 : 20000 < N
    · have h3' : (20000 : Int) < N := by omega
      have ht : tokensF (List.replicate N 97) = ([], 0, 6) := by rw [tokensF_endV C8_L, if_pos (by simpa using h3)]
      simp [h3', ht, vT, optK_s, opt2_s, opt3_s, ifK_b, guardK_t, guardK_f, guardB_bt, guardB_bf, pickV_t, pickV_f, gif_t, guardK_pure, ro_gif, pick_and, pick_or', grp_and, grp_or, grp_tt, grp_ft, grp_tf, grp_ff, letK_e, ro_bool, ro_int, ro_str, ro_lst, ro_own, ro_agg, ro_tup, ro_ptr, ro_map, ro_ref, ro_fn, ro_undef, nm_bool, nm_int, nm_str, nm_lst, nm_own, nm_agg, nm_ptr, nm_map, nm_fn, b_add, b_sub, b_mul, b_eq, b_ne, b_lt, b_le, b_gt, b_ge, s_eq, s_ne, q_int, q_str, q_bool, q_nil, q_if, b_eqS, b_neS, b_eqB, b_neB, Option.map_some, u_not, u_neg, l_str, l_lst, c_int, x_tup, after_none, fin_bool, fin_int, fin_str, fin_lst, fin_own, fin_tup, frz2_int, frz2_str, frz2_bool, frz2_lst, fa_ref, fa_ptr, ldc_ref, tokRows, o_awake]
    · have h3' : ¬ (20000 : Int) < N := by omega
      simp [h3', tok_long N (by omega) (by omega), vT, optK_s, opt2_s, opt3_s, ifK_b, guardK_t, guardK_f, guardB_bt, guardB_bf, pickV_t, pickV_f, gif_t, guardK_pure, ro_gif, pick_and, pick_or', grp_and, grp_or, grp_tt, grp_ft, grp_tf, grp_ff, letK_e, ro_bool, ro_int, ro_str, ro_lst, ro_own, ro_agg, ro_tup, ro_ptr, ro_map, ro_ref, ro_fn, ro_undef, nm_bool, nm_int, nm_str, nm_lst, nm_own, nm_agg, nm_ptr, nm_map, nm_fn, b_add, b_sub, b_mul, b_eq, b_ne, b_lt, b_le, b_gt, b_ge, s_eq, s_ne, q_int, q_str, q_bool, q_nil, q_if, b_eqS, b_neS, b_eqB, b_neB, Option.map_some, u_not, u_neg, l_str, l_lst, c_int, x_tup, after_none, fin_bool, fin_int, fin_str, fin_lst, fin_own, fin_tup, frz2_int, frz2_str, frz2_bool, frz2_lst, fa_ref, fa_ptr, ldc_ref, tokRows, tokRow, ia_zero, o_awake]
  · by_cases h1 : n < 19990
    · simp [d_law08_LexLong, optK_s, opt2_s, opt3_s, ifK_b, guardK_t, guardK_f, guardB_bt, guardB_bf, pickV_t, pickV_f, gif_t, guardK_pure, ro_gif, pick_and, pick_or', grp_and, grp_or, grp_tt, grp_ft, grp_tf, grp_ff, letK_e, ro_bool, ro_int, ro_str, ro_lst, ro_own, ro_agg, ro_tup, ro_ptr, ro_map, ro_ref, ro_fn, ro_undef, nm_bool, nm_int, nm_str, nm_lst, nm_own, nm_agg, nm_ptr, nm_map, nm_fn, b_add, b_sub, b_mul, b_eq, b_ne, b_lt, b_le, b_gt, b_ge, s_eq, s_ne, q_int, q_str, q_bool, q_nil, q_if, b_eqS, b_neS, b_eqB, b_neB, Option.map_some, u_not, u_neg, l_str, l_lst, c_int, x_tup, after_none, fin_bool, fin_int, fin_str, fin_lst, fin_own, fin_tup, frz2_int, frz2_str, frz2_bool, frz2_lst, fa_ref, fa_ptr, ldc_ref, h1, o_awake]
    · have h2 : 20010 < n := by omega
      simp [d_law08_LexLong, optK_s, opt2_s, opt3_s, ifK_b, guardK_t, guardK_f, guardB_bt, guardB_bf, pickV_t, pickV_f, gif_t, guardK_pure, ro_gif, pick_and, pick_or', grp_and, grp_or, grp_tt, grp_ft, grp_tf, grp_ff, letK_e, ro_bool, ro_int, ro_str, ro_lst, ro_own, ro_agg, ro_tup, ro_ptr, ro_map, ro_ref, ro_fn, ro_undef, nm_bool, nm_int, nm_str, nm_lst, nm_own, nm_agg, nm_ptr, nm_map, nm_fn, b_add, b_sub, b_mul, b_eq, b_ne, b_lt, b_le, b_gt, b_ge, s_eq, s_ne, q_int, q_str, q_bool, q_nil, q_if, b_eqS, b_neS, b_eqB, b_neB, Option.map_some, u_not, u_neg, l_str, l_lst, c_int, x_tup, after_none, fin_bool, fin_int, fin_str, fin_lst, fin_own, fin_tup, frz2_int, frz2_str, frz2_bool, frz2_lst, fa_ref, fa_ptr, ldc_ref, h1, h2, o_awake]
theorem c_long (n : Int) (w : World) (hL : Laid w) :
    Calls Tryd.prog 9 #[.int .i64 n] w fun e w' => e = .returned (.bool true) ∧ Below w.heap.size w w' :=
  law_of (C8_ok hL) (x_long n) rfl fun j x hx => by
    match j, hx with
    | 0, hx => cases hx; exact ⟨.int _ _, fun k r e => by cases e⟩
    | j + 1, hx => simp at hx
end Go.Proofs.YtiabiflaecidoaaDoor
end
