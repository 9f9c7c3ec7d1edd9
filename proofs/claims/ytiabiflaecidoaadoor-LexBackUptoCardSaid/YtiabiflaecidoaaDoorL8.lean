/-
  lists of tokens; Check of lex.
-/
import Derived.Test.YtiabiflaecidoaaDoorL7
import Derived.StillTailTactics
namespace Go.Proofs.YtiabiflaecidoaaDoor
open Go.RowKit

/-- a slice that reads as a list of tokens, in a block below B -/
structure Toks (w : World) (v : Value) (B : Nat) (ts : List Tok) : Prop where
  ex : ∃ A cap, v = .slice A ts.length cap ∧ (0 < ts.length → ∃ b o, A = some ⟨b, o, none⟩ ∧ b < B ∧ ∀ k t, ts[k]? = some t →
    w.cell? ⟨b, o + k * 4, none⟩ = some (.int .i64 t.kind) ∧ w.cell? ⟨b, o + k * 4 + 1, none⟩ = some (.string ⟨t.text.toArray⟩) ∧ w.cell? ⟨b, o + k * 4 + 2, none⟩ = some (.int .i64 t.n) ∧ w.cell? ⟨b, o + k * 4 + 3, none⟩ = some (.int .i64 t.line))
  len : ts.length ≤ 281474976710656
  ok : ∀ t ∈ ts, t.text.length ≤ 281474976710656

theorem cell_below {B : Nat} {w w' : World} (h : Below B w w') {b o : Nat} (hb : b < B) : w'.cell? ⟨b, o, none⟩ = w.cell? ⟨b, o, none⟩ := by
  have := h.block b hb
  simp [World.cell?, this]

theorem Toks.below {w w' : World} {v : Value} {B : Nat} {ts : List Tok} (h : Toks w v B ts) (hb : Below B w w') : Toks w' v B ts := by
  obtain ⟨⟨A, cap, hv, hx⟩, h2, h3⟩ := h
  refine ⟨⟨A, cap, hv, fun h0 => ?_⟩, h2, h3⟩
  obtain ⟨b, o, hA, hB, hc⟩ := hx h0
  refine ⟨b, o, hA, hB, fun k t hk => ?_⟩
  simp only [cell_below hb hB]
  exact hc k t hk

theorem own4 {W w' : World} {c0 c1 c2 c3 : Value} {T : Nat} (h : Below (W.alloc (.cells #[c0, c1, c2, c3] T)).heap.size (W.alloc (.cells #[c0, c1, c2, c3] T)) w') :
    w'.cell? ⟨W.heap.size, 0, none⟩ = some c0 ∧ w'.cell? ⟨W.heap.size, 1, none⟩ = some c1 ∧ w'.cell? ⟨W.heap.size, 2, none⟩ = some c2 ∧ w'.cell? ⟨W.heap.size, 3, none⟩ = some c3 := by
  have e : w'.heap[W.heap.size]? = some (.cells #[c0, c1, c2, c3] T (0, 0)) := by
    rw [h.block _ (by rw [size_alloc']; omega)]
    show (W.heap.push _)[W.heap.size]? = _
    simp
  refine ⟨?_, ?_, ?_, ?_⟩ <;> simp [World.cell?, e]

def stepC (p : Option Tok) (t : Tok) (last : Bool) : Int :=
  if t.kind < 0 ∨ 4 < t.kind then 1
  else if formF t = false then 8
  else match p with
    | none => if t.kind = 4 ∨ (t.kind = 0 ∧ last = false) then 8 else if t.line < 1 then 12 else 0
    | some b => followsF b t last
def checkL : Option Tok → List Tok → Int
  | _, [] => 0
  | p, t :: r => if stepC p t r.isEmpty ≠ 0 then stepC p t r.isEmpty else checkL (some t) r
def checkF (ts : List Tok) : Int :=
  if checkL none ts ≠ 0 then checkL none ts
  else match ts.getLast? with
    | none => 8
    | some t => if t.kind = 0 then 0 else 8
def prevT (ts : List Tok) (k : Nat) : Option Tok := if k = 0 then none else ts[k - 1]?

theorem checkL_bad (ts : List Tok) (k : Nat) (hk : k < ts.length) (h : stepC (prevT ts k) ts[k] (decide (k + 1 = ts.length)) ≠ 0) :
    checkL (prevT ts k) (ts.drop k) = stepC (prevT ts k) ts[k] (decide (k + 1 = ts.length)) := by
  have e : (ts.drop (k + 1)).isEmpty = decide (k + 1 = ts.length) := by
    rw [Bool.eq_iff_iff]; simp [List.isEmpty_iff]; omega
  rw [List.drop_eq_getElem_cons hk, checkL, e, if_pos h]
theorem checkL_good (ts : List Tok) (k : Nat) (hk : k < ts.length) (h : stepC (prevT ts k) ts[k] (decide (k + 1 = ts.length)) = 0) :
    checkL (prevT ts k) (ts.drop k) = checkL (prevT ts (k + 1)) (ts.drop (k + 1)) := by
  have e : (ts.drop (k + 1)).isEmpty = decide (k + 1 = ts.length) := by
    rw [Bool.eq_iff_iff]; simp [List.isEmpty_iff]; omega
  have e2 : prevT ts (k + 1) = some ts[k] := by simp [prevT, hk]
  rw [List.drop_eq_getElem_cons hk, checkL, e, if_neg (by omega), e2]

set_option maxRecDepth 100000 in
set_option maxHeartbeats 8000000 in
theorem c_check (ts : List Tok) (v : Value) (w : World) (h : Toks w v w.heap.size ts) :
    Calls Tryd.prog 14 #[v] w fun e w' => e = .returned (.int .i64 (checkF ts)) ∧ Below w.heap.size w w' := by
  obtain ⟨r, hr⟩ : ∃ r, checkF ts = r := ⟨_, rfl⟩
  rw [hr]
  have HR := Lib.hid hr
  have HT := Lib.hid h
  obtain ⟨⟨A, cap, rfl, hx⟩, hlen, hok⟩ := h
  have HX := Lib.hid hx
  have HO := Lib.hid hok
  have HW : Hid (w.heap.size ≤ w.heap.size) := Nat.le_refl _
  clear hr hx hok
  go_enter Tryd.func14, Tryd.ntmps14
  go_wp2
  go_loopw [9] (fun i wr => ∃ k : Nat, k ≤ ts.length ∧ i = .int .i64 k ∧ Hid (Below w.heap.size w wr) ∧ Hid (checkL none ts = checkL (prevT ts k) (ts.drop k))) (fun i _ => ts.length - (intOf i).toNat)
  case atStart => exact ⟨0, Nat.zero_le _, rfl, Below.refl _ _, rfl⟩
  case round =>
    obtain ⟨k, hk, rfl, HB, HK⟩ := hrel
    by_cases hlt : k < ts.length
    · obtain ⟨b, o, rfl, hbB, hc⟩ := HX.out (by omega)
      have hc2 := hc
      simp only [← cell_below HB.out hbB] at hc
      obtain ⟨t, ht⟩ : ∃ t, ts[k] = t := ⟨_, rfl⟩
      obtain ⟨x1, x2, x3, x4⟩ := hc k t (by rw [List.getElem?_eq_getElem hlt, ht])
      have htok : t.text.length ≤ 281474976710656 := HO.out t (by rw [← ht]; exact List.getElem_mem hlt)
      have HTK := Lib.hid htok
      have hbad := checkL_bad ts k hlt
      have hgood := checkL_good ts k hlt
      rw [ht] at hbad hgood
      have HBAD := Lib.hid hbad
      have HGOOD := Lib.hid hgood
      have HC := Lib.hid hc
      have HC2 := Lib.hid hc2
      have hsz := HB.out.size
      clear hc hc2 ht htok hbad hgood
      obtain ⟨last, hlast⟩ : ∃ l, decide (k + 1 = ts.length) = l := ⟨_, rfl⟩
      rw [hlast] at HBAD HGOOD
      have hlb : (((k : Int) + 1) == (ts.length : Int)) = last := by
        rw [← hlast, Bool.eq_iff_iff]; simp; omega
      clear hlast
      by_cases g1 : t.kind < 0
      · have HRR : Hid (r = 1) := by
          have e : stepC (prevT ts k) t last = 1 := by unfold stepC; rw [if_pos (.inl g1)]
          have := HBAD.out (by rw [e]; decide)
          unfold Hid; rw [← HR.out, checkF, HK.out, this, e]; rfl
        go_wp2
        go_ret
        exact ⟨by rw [HRR.out]; rfl, HB.out.trans (by go_grown)⟩
      · by_cases g2 : 4 < t.kind
        · have HRR : Hid (r = 1) := by
            have e : stepC (prevT ts k) t last = 1 := by unfold stepC; rw [if_pos (.inr g2)]
            have := HBAD.out (by rw [e]; decide)
            unfold Hid; rw [← HR.out, checkF, HK.out, this, e]; rfl
          go_wp2
          go_ret
          exact ⟨by rw [HRR.out]; rfl, HB.out.trans (by go_grown)⟩
        · have gk : ¬(t.kind < 0 ∨ 4 < t.kind) := by omega
          obtain ⟨f, hf⟩ : ∃ f, formF t = f := ⟨_, rfl⟩
          have HF := Lib.hid hf
          cases f
          · have HRR : Hid (r = 8) := by
              have e : stepC (prevT ts k) t last = 8 := by unfold stepC; rw [if_neg gk, if_pos hf]
              have := HBAD.out (by rw [e]; decide)
              unfold Hid; rw [← HR.out, checkF, HK.out, this, e]; rfl
            clear hf
            go_wp2_with (go_at_call 28; refine (c_form t HTK.out _).mono ?_; rw [HF.out]; rintro e w3 ⟨rfl, hb3⟩; obtain ⟨y1, y2, y3, y4⟩ := own4 hb3; have HB4 := Lib.hid ((HB.out.alloc hsz _).trans (hb3.mono (by rw [size_alloc']; omega))); clear hb3)
            go_ret
            exact ⟨by rw [HRR.out]; rfl, HB4.out⟩
          · have hstep : stepC (prevT ts k) t last = (match prevT ts k with | none => if t.kind = 4 ∨ (t.kind = 0 ∧ last = false) then 8 else if t.line < 1 then 12 else 0 | some b => followsF b t last) := by
              unfold stepC; rw [if_neg gk, if_neg (by rw [hf]; simp)]
            clear hf
            by_cases hk0 : k = 0
            · have hp0 : prevT ts k = none := by simp [prevT, hk0]
              rw [hp0] at hstep
              simp only at hstep
              have bk : ((k : Int) == 0) = true := beqT (by omega)
              have bk2 : decide (0 < k) = false := decide_eq_false (by omega)
              rw [← hp0] at hstep
              have HS := Lib.hid hstep
              clear hstep hp0 hk0
              by_cases g4 : t.kind = 4
              · have b4 := beqT g4
                have HRR : Hid (r = 8) := by
                  have e : stepC (prevT ts k) t last = 8 := by rw [HS.out, if_pos (.inl g4)]
                  have := HBAD.out (by rw [e]; decide)
                  unfold Hid; rw [← HR.out, checkF, HK.out, this, e]; rfl
                clear g4
                go_wp2_with (go_at_call 28; refine (c_form t HTK.out _).mono ?_; rw [HF.out]; rintro e w3 ⟨rfl, hb3⟩; obtain ⟨y1, y2, y3, y4⟩ := own4 hb3; have HB4 := Lib.hid ((HB.out.alloc hsz _).trans (hb3.mono (by rw [size_alloc']; omega))); clear hb3)
                go_ret
                exact ⟨by rw [HRR.out]; rfl, HB4.out⟩
              · have b4 := beqF g4
                by_cases g0 : t.kind = 0
                · have b0 := beqT g0
                  cases last
                  · have HRR : Hid (r = 8) := by
                      have e : stepC (prevT ts k) t false = 8 := by rw [HS.out, if_pos (.inr ⟨g0, rfl⟩)]
                      have := HBAD.out (by rw [e]; decide)
                      unfold Hid; rw [← HR.out, checkF, HK.out, this, e]; rfl
                    clear g0 g4
                    go_wp2_with (go_at_call 28; refine (c_form t HTK.out _).mono ?_; rw [HF.out]; rintro e w3 ⟨rfl, hb3⟩; obtain ⟨y1, y2, y3, y4⟩ := own4 hb3; have HB4 := Lib.hid ((HB.out.alloc hsz _).trans (hb3.mono (by rw [size_alloc']; omega))); clear hb3)
                    go_ret
                    exact ⟨by rw [HRR.out]; rfl, HB4.out⟩
                  · by_cases gl : t.line < 1
                    · have HRR : Hid (r = 12) := by
                        have e : stepC (prevT ts k) t true = 12 := by rw [HS.out, if_neg (by simp [g4]), if_pos gl]
                        have := HBAD.out (by rw [e]; decide)
                        unfold Hid; rw [← HR.out, checkF, HK.out, this, e]; rfl
                      clear g0 g4
                      go_wp2_with (go_at_call 28; refine (c_form t HTK.out _).mono ?_; rw [HF.out]; rintro e w3 ⟨rfl, hb3⟩; obtain ⟨y1, y2, y3, y4⟩ := own4 hb3; have HB4 := Lib.hid ((HB.out.alloc hsz _).trans (hb3.mono (by rw [size_alloc']; omega))); clear hb3)
                      go_ret
                      exact ⟨by rw [HRR.out]; rfl, HB4.out⟩
                    · have HN : Hid (checkL none ts = checkL (prevT ts (k + 1)) (ts.drop (k + 1))) := by
                        have e : stepC (prevT ts k) t true = 0 := by rw [HS.out, if_neg (by simp [g4]), if_neg gl]
                        unfold Hid; rw [HK.out, HGOOD.out e]
                      clear g0 g4
                      go_wp2_with (go_at_call 28; refine (c_form t HTK.out _).mono ?_; rw [HF.out]; rintro e w3 ⟨rfl, hb3⟩; obtain ⟨y1, y2, y3, y4⟩ := own4 hb3; have HB4 := Lib.hid ((HB.out.alloc hsz _).trans (hb3.mono (by rw [size_alloc']; omega))); clear hb3)
                      go_roundw
                      case rel => exact ⟨k + 1, by omega, rfl, HB4, HN⟩
                      case measure => simp only [intOf]; omega
                · have b0 := beqF g0
                  by_cases gl : t.line < 1
                  · have HRR : Hid (r = 12) := by
                      have e : stepC (prevT ts k) t last = 12 := by rw [HS.out, if_neg (by simp [g4, g0]), if_pos gl]
                      have := HBAD.out (by rw [e]; decide)
                      unfold Hid; rw [← HR.out, checkF, HK.out, this, e]; rfl
                    clear g0 g4
                    go_wp2_with (go_at_call 28; refine (c_form t HTK.out _).mono ?_; rw [HF.out]; rintro e w3 ⟨rfl, hb3⟩; obtain ⟨y1, y2, y3, y4⟩ := own4 hb3; have HB4 := Lib.hid ((HB.out.alloc hsz _).trans (hb3.mono (by rw [size_alloc']; omega))); clear hb3)
                    go_ret
                    exact ⟨by rw [HRR.out]; rfl, HB4.out⟩
                  · have HN : Hid (checkL none ts = checkL (prevT ts (k + 1)) (ts.drop (k + 1))) := by
                      have e : stepC (prevT ts k) t last = 0 := by rw [HS.out, if_neg (by simp [g4, g0]), if_neg gl]
                      unfold Hid; rw [HK.out, HGOOD.out e]
                    clear g0 g4
                    go_wp2_with (go_at_call 28; refine (c_form t HTK.out _).mono ?_; rw [HF.out]; rintro e w3 ⟨rfl, hb3⟩; obtain ⟨y1, y2, y3, y4⟩ := own4 hb3; have HB4 := Lib.hid ((HB.out.alloc hsz _).trans (hb3.mono (by rw [size_alloc']; omega))); clear hb3)
                    go_roundw
                    case rel => exact ⟨k + 1, by omega, rfl, HB4, HN⟩
                    case measure => simp only [intOf]; omega
            · have bk : ((k : Int) == 0) = false := beqF (by omega)
              have bk2 : decide (0 < k) = true := decide_eq_true (by omega)
              obtain ⟨j, hj⟩ : ∃ j, k = j + 1 := ⟨k - 1, by omega⟩
              obtain ⟨pt, hpt⟩ : ∃ pt, ts[j]? = some pt := ⟨ts[j], List.getElem?_eq_getElem (by omega)⟩
              have hp0 : prevT ts k = some pt := by subst hj; simpa [prevT] using hpt
              rw [hp0] at hstep
              simp only at hstep
              rw [← hp0] at hstep
              obtain ⟨q, hq⟩ : ∃ q, followsF pt t last = q := ⟨_, rfl⟩
              rw [hq] at hstep
              have HS := Lib.hid hstep
              have HQ := Lib.hid hq
              have HPT := Lib.hid hpt
              have bw : IntKind.i64.wrap ((k : Int) - 1) = (k : Int) - 1 := IntWalk.i64_in _ (by omega)
              have bn : ((k : Int) - 1).toNat = j := by omega
              have bp : 1 ≤ (k : Int) := by omega
              have bl : (k : Int) - 1 < (ts.length : Int) := by omega
              clear hstep hp0 hk0 hq hpt hj
              go_wp2_with (go_at_call 28; refine (c_form t HTK.out _).mono ?_; rw [HF.out]; rintro e w3 ⟨rfl, hb3⟩; obtain ⟨y1, y2, y3, y4⟩ := own4 hb3; have HB4 := Lib.hid ((HB.out.alloc hsz _).trans (hb3.mono (by rw [size_alloc']; omega))); have hc3 := HC2.out; simp only [← cell_below HB4.out hbB] at hc3; obtain ⟨z1, z2, z3, z4⟩ := hc3 j pt HPT.out; clear hb3 hc3)
              go_still_tail 7, (by kernel_rfl)
              go_wp2_with (fail)
              refine (c_follows pt t last _).mono ?_
              rw [HQ.out]
              rintro e w4 ⟨rfl, hb4⟩
              have HB5 := Lib.hid ((below_drewN HB4.out 1).trans (hb4.mono (HB4.out.size)))
              clear hb4
              by_cases hq0 : q = 0
              · have c1 : (q != 0) = false := by simp [hq0]
                have HN : Hid (checkL none ts = checkL (prevT ts (k + 1)) (ts.drop (k + 1))) := by
                  unfold Hid; rw [HK.out, HGOOD.out (by rw [HS.out]; exact hq0)]
                clear hq0
                go_wp2
                go_roundw
                case rel => exact ⟨k + 1, by omega, rfl, HB5, HN⟩
                case measure => simp only [intOf]; omega
              · have c1 : (q != 0) = true := by simp [hq0]
                have HRR : Hid (r = q) := by
                  have := HBAD.out (by rw [HS.out]; exact hq0)
                  unfold Hid; rw [← HR.out, checkF, HK.out, this, HS.out, if_pos hq0]
                clear hq0
                go_wp2
                go_ret
                exact ⟨by rw [HRR.out]; rfl, HB5.out⟩
    · obtain rfl : k = ts.length := by omega
      have HZ : Hid (checkL none ts = 0) := by
        unfold Hid; rw [HK.out, List.drop_length]; cases prevT ts ts.length <;> rfl
      by_cases hz : ts.length = 0
      · have hnil : ts = [] := List.eq_nil_of_length_eq_zero hz
        have HRR : Hid (r = 8) := by unfold Hid; rw [← HR.out, checkF, HZ.out, hnil]; rfl
        have b0 : ((ts.length : Int) == 0) = true := beqT (by omega)
        clear hnil
        go_wp2
        go_ret
        exact ⟨by rw [HRR.out]; rfl, HB.out⟩
      · have b0 : ((ts.length : Int) == 0) = false := beqF (by omega)
        obtain ⟨b, o, rfl, hbB, hc⟩ := HX.out (by omega)
        simp only [← cell_below HB.out hbB] at hc
        obtain ⟨j, hj⟩ : ∃ j, ts.length = j + 1 := ⟨ts.length - 1, by omega⟩
        obtain ⟨t, ht⟩ : ∃ t, ts[j]? = some t := ⟨ts[j], List.getElem?_eq_getElem (by omega)⟩
        obtain ⟨x1, _⟩ := hc j t ht
        have hgl : ts.getLast? = some t := by rw [List.getLast?_eq_getElem?, hj]; exact ht
        have HRR : Hid (r = if t.kind = 0 then 0 else 8) := by
          unfold Hid; rw [← HR.out, checkF, HZ.out, hgl]; rfl
        have bn : ((ts.length : Int) - 1).toNat = j := by omega
        have bp : 1 ≤ (ts.length : Int) := by omega
        clear hc hgl hj ht
        by_cases h0 : t.kind = 0
        · have c1 : (t.kind != 0) = false := by simp [h0]
          have HR2 : Hid (r = 0) := by unfold Hid; rw [HRR.out, if_pos h0]
          clear h0 HRR
          go_wp2
          go_ret
          exact ⟨by rw [HR2.out]; rfl, HB.out⟩
        · have c1 : (t.kind != 0) = true := by simp [h0]
          have HR2 : Hid (r = 8) := by unfold Hid; rw [HRR.out, if_neg h0]
          clear h0 HRR
          go_wp2
          go_ret
          exact ⟨by rw [HR2.out]; rfl, HB.out⟩
end Go.Proofs.YtiabiflaecidoaaDoor
