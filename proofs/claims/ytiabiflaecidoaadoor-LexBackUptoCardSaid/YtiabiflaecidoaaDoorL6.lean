/-
  The contract of lex.Tokens.
-/
import Derived.Test.YtiabiflaecidoaaDoorL4
import Derived.Test.YtiabiflaecidoaaDoorL5
import Derived.WalkMore
namespace Go.Proofs.YtiabiflaecidoaaDoor
open Go.RowKit

def TokPost (w : World) (r : List Tok × Int × Int) (e : Ending) (w' : World) : Prop :=
  ∃ v, e = .returned (.tuple #[v, .int .i64 r.2.1, .int .i64 r.2.2]) ∧ w'.ownsRow w.heap.size 31 4 v r.1.length (flatT r.1) ∧ Below w.heap.size w w'

/-- the scanning at a position: what is left to do gives the whole; the numbers are in bounds -/
structure Scan (s : ByteArray) (p nx : Nat) (st : St) : Prop where
  eq' : scan s.data.toList st0 = scan (s.data.toList.drop p) st
  ok' : st.wrong = false
  skip' : st.skip = nx - p
  nx' : nx ≤ s.size
  ascii' : ∀ j (hj : j < s.size), p ≤ j → j < nx → s[j].toNat < 128
  toks' : st.toks.length ≤ max p nx
  line' : 1 ≤ st.line ∧ st.line ≤ p + 1

theorem first4 (w : World) (s : ByteArray) :
    ((((w.alloc (.cells #[.slice none 0 0] 23)).alloc (.cells #[.int .i64 1] 3)).alloc (.cells #[.bool false] 4)).iter s 0).heap[w.heap.size + 3]? = some (Obj.stringIter s 0) ∧
    TSt w w.heap.size [] 1 false ((((w.alloc (.cells #[.slice none 0 0] 23)).alloc (.cells #[.int .i64 1] 3)).alloc (.cells #[.bool false] 4)).iter s 0) := by
  have hh : ((((w.alloc (.cells #[.slice none 0 0] 23)).alloc (.cells #[.int .i64 1] 3)).alloc (.cells #[.bool false] 4)).iter s 0).heap =
    (((w.heap.push (.cells #[.slice none 0 0] 23)).push (.cells #[.int .i64 1] 3)).push (.cells #[.bool false] 4)).push (.stringIter s 0) := rfl
  refine ⟨?_, ⟨⟨.slice none 0 0, ?_, World.ownsRow_nil _ _ _ _⟩, ?_, ?_, ?_, ?_⟩⟩
  · rw [hh]; simp only [Array.getElem?_push, Array.size_push]; rw [if_pos trivial]
  · rw [hh]; simp only [Array.getElem?_push, Array.size_push]; rw [if_neg (by omega), if_neg (by omega), if_neg (by omega), if_pos trivial]
  · rw [hh]; simp only [Array.getElem?_push, Array.size_push]; rw [if_neg (by omega), if_neg (by omega), if_pos trivial]
  · rw [hh]; simp only [Array.getElem?_push, Array.size_push]; rw [if_neg (by omega), if_pos trivial]
  · refine ⟨rfl, rfl, rfl, ?_, fun k hk => ?_⟩
    · rw [hh]; simp only [Array.size_push]; omega
    · rw [hh]; simp only [Array.getElem?_push, Array.size_push]; rw [if_neg (by omega), if_neg (by omega), if_neg (by omega), if_neg (by omega)]
  · rw [hh]; simp only [Array.size_push]; omega

set_option maxRecDepth 100000 in
set_option maxHeartbeats 8000000 in
theorem c_tokens (s : ByteArray) (hs : s.size ≤ 281474976710656) (w : World) (hL : Laid w) :
    Calls Tryd.prog 11 #[.string s] w (TokPost w (tokensF s.data.toList)) := by
  obtain ⟨r, hr⟩ : ∃ r, tokensF s.data.toList = r := ⟨_, rfl⟩
  rw [hr]
  by_cases hlen : 20000 < s.size
  · have HR : Hid (r = ([], 0, 6)) := by unfold Hid; rw [← hr, tokensF, if_pos (by rw [len_toList]; exact hlen)]
    clear hr
    go_enter Tryd.func11, Tryd.ntmps11
    go_wp2
    go_step3
    go_wp2
    rw [Exit.noGoto_ret]
    go_ret3
    rw [HR.out]
    exact ⟨_, rfl, World.ownsRow_nil _ _ _ _, Below.refl _ _⟩
  · have HR : Hid (r = (if (scan s.data.toList st0).wrong = true then ([], (scan s.data.toList st0).line, 8)
      else ((if (scan s.data.toList st0).full then (scan s.data.toList st0).toks ++ [⟨4, [], 0, (scan s.data.toList st0).line⟩] else (scan s.data.toList st0).toks) ++ [⟨0, [], 0, (scan s.data.toList st0).line⟩], 0, 0))) := by
      unfold Hid; rw [← hr, tokensF, if_neg (by rw [len_toList]; exact hlen)]
    have hl2 : s.size ≤ 20000 := by omega
    have HL := Lib.hid hL
    clear hr hs hlen hL
    go_enter Tryd.func11, Tryd.ntmps11
    go_wp2
    go_step3
    go_wp2
    go_step3
    go_wp2
    go_loopw [7, 9, 10] (fun a b c wr => ∃ (p nx : Nat) (st : St), p ≤ s.size ∧ a = .int .i64 nx ∧ b = .bool st.comment ∧ c = .bool false ∧ wr.heap[w.heap.size + 3]? = some (Obj.stringIter s p) ∧ Hid (TSt w w.heap.size st.toks st.line st.full wr) ∧ Hid (Scan s p nx st)) (fun _ _ _ wr => s.size - wr.iterPos (w.heap.size + 3))
    case atStart =>
      have hf := first4 w s
      exact ⟨0, 0, st0, by omega, rfl, rfl, rfl, hf.1, hf.2, ⟨rfl, rfl, rfl, Nat.zero_le _, fun j _ _ h => by omega, by simp [st0], by simp [st0]⟩⟩
    case round =>
      obtain ⟨p, nx, st, hp, rfl, rfl, rfl, hit, HT, HS⟩ := hrel
      have hip : wr.iterPos (w.heap.size + 3) = p := by simp [World.iterPos, hit]
      have HIP := Lib.hid hip
      clear hip
      by_cases hlt : p < s.size
      · by_cases ha : s[p].toNat < 128
        · have hnext0 := fun ty => Lib.run_next_ascii_at (P := Tryd.prog) wr (w.heap.size + 3) s p ty hit hlt ha
          have HT2 := Lib.hid (HT.out.iter s (p + 1))
          have hit2 := Lib.iterAt_heap wr (w.heap.size + 3) s p (p + 1) hit
          obtain ⟨W2, hW2⟩ : ∃ W2, wr.iterAt (w.heap.size + 3) s (p + 1) = W2 := ⟨_, rfl⟩
          simp only [hW2] at hnext0 hit2
          rw [hW2] at HT2
          have hip2 : W2.iterPos (w.heap.size + 3) = p + 1 := by simp [World.iterPos, hit2]
          have HIP2 := Lib.hid hip2
          clear hW2 hip2 hit HT
          by_cases hsk : p < nx
          · have HN : Hid (Scan s (p + 1) nx { st with skip := st.skip - 1 }) := by
              have h := HS.out
              have e : stepT st (s.data.toList.drop p) = { st with skip := st.skip - 1 } := by
                rw [drop_cons s p hlt]; exact step_skip _ _ _ (by rw [h.skip']; omega)
              refine ⟨?_, h.ok', ?_, h.nx', fun j hj h1 h2 => h.ascii' j hj (by omega) h2, ?_, ?_⟩
              · rw [h.eq', scan_step s p hlt st (by rw [e]; exact h.ok'), e]
              · show st.skip - 1 = _; rw [h.skip']; omega
              · have := h.toks'; show st.toks.length ≤ _; omega
              · have := h.line'; show 1 ≤ st.line ∧ st.line ≤ _; omega
            clear HS
            go_wp2
            go_roundw
            case rel => exact ⟨p + 1, nx, { st with skip := st.skip - 1 }, by omega, rfl, rfl, rfl, hit2, HT2, HN⟩
            case measure => rw [HIP.out, HIP2.out]; omega
          · have hsk0 : st.skip = 0 := by have := HS.out.skip'; omega
            have hcons := drop_cons s p hlt
            have hln : 1 ≤ st.line ∧ st.line ≤ 20001 := by have := HS.out.line'; omega
            have htk : st.toks.length ≤ 20000 := by have := HS.out.toks'; have := HS.out.nx'; omega
            by_cases h10 : s[p].toNat = 10
            · have b10 : ((s[p].toNat : Int) == 10) = true := by rw [h10]; rfl
              have e := step_line s[p] (s.data.toList.drop (p + 1)) st hsk0 h10
              rw [← hcons] at e
              have HN : Hid (Scan s (p + 1) nx { st with toks := (if st.full then st.toks ++ [⟨4, [], 0, st.line⟩] else st.toks), line := st.line + 1, full := false, comment := false }) := by
                have h := HS.out
                refine ⟨?_, h.ok', ?_, h.nx', fun j hj h1 h2 => by omega, ?_, ?_⟩
                · rw [h.eq', scan_step s p hlt st (by rw [e]; exact h.ok'), e]
                · show st.skip = _; omega
                · have := h.toks'
                  show (if st.full then st.toks ++ [⟨4, [], 0, st.line⟩] else st.toks).length ≤ _
                  split
                  · simp; omega
                  · omega
                · have := h.line'; show 1 ≤ st.line + 1 ∧ st.line + 1 ≤ _; omega
              clear HS e hcons h10
              cases hf : st.full
              · rw [hf] at HT2 HN
                have HT4 := Lib.hid ((HT2.out.setLine (st.line + 1)).setFull false)
                have hit4 := setCell_iter (g := w.heap.size + 2) (v := .bool false) (setCell_iter (g := w.heap.size + 1) (v := .int .i64 (st.line + 1)) hit2 (by omega)) (by omega)
                obtain ⟨⟨k2, q2⟩, ⟨k3, q3⟩, _⟩ := HT2.out.cells
                have HIT4 := Lib.hid hit4
                clear hit4 hf
                go_wp2_with (go_at_call 23; refine (c_end_not w w.heap.size st.toks st.line _ HT2.out).mono ?_; rintro e w3 ⟨rfl, rfl⟩)
                go_roundw
                case rel => exact ⟨p + 1, nx, _, by omega, rfl, rfl, rfl, HIT4.out, HT4, HN⟩
                case measure => rw [HIP.out, iterPos_of HIT4.out]; omega
              · rw [hf] at HT2 HN
                clear hf
                go_wp2_with (go_at_call 23; refine (c_end_full w w.heap.size st.toks st.line _ HT2.out (by omega)).mono ?_; rintro e w3 ⟨rfl, HT3, hit3⟩; have HT4 := Lib.hid ((TSt.setLine HT3 (st.line + 1)).setFull false); have HIT4 := Lib.hid (setCell_iter (g := w.heap.size + 2) (v := .bool false) (setCell_iter (g := w.heap.size + 1) (v := .int .i64 (st.line + 1)) (hit3 _ _ _ hit2) (by omega)) (by omega)); obtain ⟨⟨k2, q2⟩, ⟨k3, q3⟩, _⟩ := TSt.cells HT3; clear HT3 hit3)
                go_roundw
                case rel => exact ⟨p + 1, nx, _, by omega, rfl, rfl, rfl, HIT4.out, HT4, HN⟩
                case measure => rw [HIP.out, iterPos_of HIT4.out]; omega
            · have b10 : ((s[p].toNat : Int) == 10) = false := by rw [beq_eq_false_iff_ne]; omega
              by_cases hps : st.comment = true ∨ s[p].toNat = 32 ∨ s[p].toNat = 9
              · have e := step_pass s[p] (s.data.toList.drop (p + 1)) st hsk0 h10 hps
                rw [← hcons] at e
                have HN : Hid (Scan s (p + 1) nx st) := by
                  have h := HS.out
                  refine ⟨?_, h.ok', ?_, h.nx', fun j hj h1 h2 => by omega, ?_, ?_⟩
                  · rw [h.eq', scan_step s p hlt st (by rw [e]; exact h.ok'), e]
                  · omega
                  · have := h.toks'; omega
                  · have := h.line'; omega
                have hps2 : st.comment = true ∨ (st.comment = false ∧ ((s[p].toNat : Int) == 32) = true) ∨ (st.comment = false ∧ ((s[p].toNat : Int) == 32) = false ∧ ((s[p].toNat : Int) == 9) = true) := by
                  cases hcm : st.comment
                  · rw [hcm] at hps
                    by_cases h32 : s[p].toNat = 32
                    · exact .inr (.inl ⟨rfl, by rw [h32]; rfl⟩)
                    · refine .inr (.inr ⟨rfl, by rw [beq_eq_false_iff_ne]; omega, ?_⟩)
                      have : s[p].toNat = 9 := by rcases hps with h | h | h; · cases h
                                                  · exact absurd h h32
                                                  · exact h
                      rw [this]; rfl
                  · exact .inl rfl
                obtain ⟨cm, hcm⟩ : ∃ cm, st.comment = cm := ⟨_, rfl⟩
                rw [hcm] at hps2 ⊢
                have HCM := Lib.hid hcm
                clear HS e hcons h10 hps hcm
                rcases hps2 with rfl | ⟨rfl, b32⟩ | ⟨rfl, b32, b9⟩
                all_goals
                  go_wp2
                  go_roundw
                  case rel => exact ⟨p + 1, nx, st, by omega, rfl, by rw [HCM.out], rfl, hit2, HT2, HN⟩
                  case measure => rw [HIP.out, HIP2.out]; omega
              · have hcm : st.comment = false := by cases h : st.comment; · rfl
                                                    · exact absurd (.inl h) hps
                have b32 : ((s[p].toNat : Int) == 32) = false := by rw [beq_eq_false_iff_ne]; intro h; exact hps (.inr (.inl (by omega)))
                have b9 : ((s[p].toNat : Int) == 9) = false := by rw [beq_eq_false_iff_ne]; intro h; exact hps (.inr (.inr (by omega)))
                by_cases h35 : s[p].toNat = 35
                · have b35 : ((s[p].toNat : Int) == 35) = true := by rw [h35]; rfl
                  have e := step_hash s[p] (s.data.toList.drop (p + 1)) st hsk0 hcm h35
                  rw [← hcons] at e
                  have HN : Hid (Scan s (p + 1) nx { st with comment := true }) := by
                    have h := HS.out
                    refine ⟨?_, h.ok', ?_, h.nx', fun j hj h1 h2 => by omega, ?_, ?_⟩
                    · rw [h.eq', scan_step s p hlt st (by rw [e]; exact h.ok'), e]
                    · show st.skip = _; omega
                    · have := h.toks'; show st.toks.length ≤ _; omega
                    · have := h.line'; show 1 ≤ st.line ∧ st.line ≤ _; omega
                  rw [hcm]
                  clear HS e hcons h10 hps hcm h35
                  go_wp2
                  go_roundw
                  case rel => exact ⟨p + 1, nx, { st with comment := true }, by omega, rfl, rfl, rfl, hit2, HT2, HN⟩
                  case measure => rw [HIP.out, HIP2.out]; omega
                · have b35 : ((s[p].toNat : Int) == 35) = false := by rw [beq_eq_false_iff_ne]; omega
                  have HLW := Lib.hid (HL.out.below HT2.out.below)
                  have hdt : (s.extract p s.size).data.toList = s.data.toList.drop p := Lib.extract_to_end s p
                  obtain ⟨⟨t, n⟩, htn⟩ : ∃ q, tokenF (s.data.toList.drop p) = q := ⟨_, rfl⟩
                  have HTF : Hid (tokenF (s.extract p s.size).data.toList = (t, n)) := by unfold Hid; rw [hdt, htn]
                  have HZ : Hid (0 < (s.extract p s.size).size ∧ (s.extract p s.size).size ≤ 281474976710656) := by unfold Hid; rw [ByteArray.size_extract]; omega
                  have htf := token_at s p (by omega)
                  rw [htn] at htf
                  rw [hcons] at htn
                  by_cases hn : n = 0
                  · have e := step_bad s[p] (s.data.toList.drop (p + 1)) st hsk0 ⟨h10, fun h => hps (.inr (.inl h)), fun h => hps (.inr (.inr h)), h35⟩ hcm (by rw [htn]; exact hn)
                    rw [← hcons] at e
                    have HRR : Hid (r = ([], st.line, 8)) := by
                      have h := HS.out
                      unfold Hid
                      rw [HR.out, h.eq', scan_wrong s p hlt st (by rw [e]), e]
                      rfl
                    obtain rfl : n = 0 := hn
                    clear HS HR e hcons h10 hps h35 hdt htf htn
                    rw [hcm]
                    go_wp2_with (go_at_call 24; refine (c_token (s.extract p s.size) HZ.out.1 HZ.out.2 _ HLW.out).mono ?_; rw [HTF.out]; dsimp only [Tok.cells]; rintro e w3 ⟨rfl, hb3⟩; have HT3 := Lib.hid ((HT2.out.more hb3).alloc (.cells #[.int .i64 t.kind, .string ⟨t.text.toArray⟩, .int .i64 t.n, .int .i64 t.line] 31)); obtain ⟨⟨k2, q2⟩, ⟨k3, q3⟩, _⟩ := TSt.cells (HT2.out.more hb3); obtain ⟨⟨k4, q4⟩, _⟩ := TSt.cells HT3.out; clear hb3)
                    go_quiet (fail)
                    go_wp2
                    rw [Exit.noGoto_ret]
                    go_ret3
                    rw [HRR.out]
                    exact ⟨_, rfl, World.ownsRow_nil _ _ _ _, below_drewN HT3.out.below _⟩
                  · have e := step_tok s[p] (s.data.toList.drop (p + 1)) st hsk0 ⟨h10, fun h => hps (.inr (.inl h)), fun h => hps (.inr (.inr h)), h35⟩ hcm (by rw [htn]; exact hn)
                    rw [htn, ← hcons] at e
                    have HN : Hid (Scan s (p + 1) (p + n) { st with toks := st.toks ++ [{ t with line := st.line }], full := true, skip := n - 1 }) := by
                      have h := HS.out
                      refine ⟨?_, h.ok', ?_, htf.1, fun j hj h1 h2 => htf.2 j hj (by omega) h2, ?_, ?_⟩
                      · rw [h.eq', scan_step s p hlt st (by rw [e]; exact h.ok'), e]
                      · show n - 1 = _; omega
                      · have := h.toks'; show (st.toks ++ [_]).length ≤ _; simp; omega
                      · have := h.line'; show 1 ≤ st.line ∧ st.line ≤ _; omega
                    have hnb : ((n : Int) == 0) = false := by rw [beq_eq_false_iff_ne]; omega
                    have hpn := htf.1
                    obtain ⟨i0, hi, hz0, hz1, hz2⟩ := info_parts info31
                    have HCM := Lib.hid hcm
                    clear HS HR e hcons h10 hps h35 hdt htf htn
                    rw [hcm]
                    go_wp2_with (fail)
                    refine (c_token (s.extract p s.size) HZ.out.1 HZ.out.2 _ HLW.out).mono ?_
                    rw [HTF.out]
                    dsimp only [Tok.cells]
                    rintro e w3 ⟨rfl, hb3⟩
                    have HT3 := Lib.hid (HT2.out.more hb3)
                    have hsz3 := HT3.out.size
                    have hs1 : w.heap.size + 1 < w3.heap.size := by omega
                    have hs2 : w.heap.size < w3.heap.size := by omega
                    have HIT3 := Lib.hid ((hb3.block _ (heap_lt hit2)).trans hit2)
                    obtain ⟨⟨k2, q2⟩, ⟨k3, q3⟩, v, hv, hown, k1, q1⟩ := TSt.cells HT3.out
                    have HO := Lib.hid hown
                    have HV := Lib.hid hv
                    clear hb3 hown hv hit2
                    go_wp2_with (at_builtin; refine wpList_append_own _ rfl _ _ 23 rfl (w.heap.size + 4) 31 i0 _ 4 40 Tryd.underlying23 hi hz0 hz1 hz2 rfl (by decide) _ _ _ rfl ((HO.out.alloc _).alloc _) ⟨w3.heap.size + 1, 0, none⟩ 1 1 [.int .i64 t.kind, .string ⟨t.text.toArray⟩, .int .i64 t.n, .int .i64 st.line] rfl rfl ?c1 ?c2 ?c3 ?c4 ?c5 ?_)
                    case c1 => exact new4' (size_alloc' _ _)
                    case c2 => exact one4
                    case c3 => unfold maxLen; omega
                    case c4 => omega
                    case c5 => rw [size_alloc', size_alloc']; omega
                    intro v' w1 hown1 hg _
                    have hs := size_alloc' (w3.alloc (.cells #[.int .i64 t.kind, .string ⟨t.text.toArray⟩, .int .i64 t.n, .int .i64 st.line] 31)) (.cells #[.int .i64 t.kind, .string ⟨t.text.toArray⟩, .int .i64 t.n, .int .i64 st.line] 31)
                    rw [size_alloc'] at hs
                    have hv := (heap_alloc_lt (o := .cells #[.int .i64 t.kind, .string ⟨t.text.toArray⟩, .int .i64 t.n, .int .i64 st.line] 31) (by rw [size_alloc']; omega)).trans ((heap_alloc_lt (o := .cells #[.int .i64 t.kind, .string ⟨t.text.toArray⟩, .int .i64 t.n, .int .i64 st.line] 31) (by omega)).trans HV.out)
                    have hit := (heap_alloc_lt (o := .cells #[.int .i64 t.kind, .string ⟨t.text.toArray⟩, .int .i64 t.n, .int .i64 st.line] 31) (by rw [size_alloc']; omega)).trans ((heap_alloc_lt (o := .cells #[.int .i64 t.kind, .string ⟨t.text.toArray⟩, .int .i64 t.n, .int .i64 st.line] 31) (by omega)).trans HIT3.out)
                    have hfin := TSt.append ((HT3.out.alloc _).alloc _) hv ((HO.out.alloc _).alloc _) { t with line := st.line } hown1 hg
                    have hrow : some w.heap.size ≠ v.ownBlock := by
                      rcases HO.out.2 with ⟨rfl, _⟩ | ⟨g, cap, cur, rfl, hb, _⟩
                      · simp [Value.ownBlock]
                      · simp [Value.ownBlock]; omega
                    have hrow2 : some (w.heap.size + 2) ≠ v.ownBlock := by
                      rcases HO.out.2 with ⟨rfl, _⟩ | ⟨g, cap, cur, rfl, hb, _⟩
                      · simp [Value.ownBlock]
                      · simp [Value.ownBlock]; omega
                    obtain ⟨d1, g1⟩ := cell_blk ((hg.block w.heap.size (heap_lt hv) hrow).trans hv)
                    obtain ⟨g, cap, hv', _, _⟩ := World.ownsRow.form hown1 (by omega)
                    subst hv'
                    have HF := Lib.hid hfin.1
                    have HI := Lib.hid (hfin.2 _ _ _ hit)
                    obtain ⟨_, ⟨k5, q5⟩, _⟩ := TSt.cells hfin.1
                    clear hfin hown1 hg hs hv hrow hrow2 hit k2 q2 k3 q3 k1 q1 HO HV hi hz0 hz1 hz2 HT3 HIT3
                    go_wp2
                    go_roundw
                    case rel => exact ⟨p + 1, p + n, { st with toks := st.toks ++ [{ t with line := st.line }], full := true, skip := n - 1 }, by omega, rfl, by show _ = Value.bool st.comment; rw [HCM.out], rfl, setCell_iter HI.out (by omega), HF.out.setFull true, HN⟩
                    case measure => rw [HIP.out, iterPos_of (setCell_iter HI.out (by omega))]; omega
        · have hhi : 128 ≤ s[p].toNat := by omega
          have hnx : nx ≤ p := by
            have h := HS.out
            by_cases hc : nx ≤ p
            · exact hc
            · exact absurd (h.ascii' p hlt (by omega) (by omega)) (by omega)
          obtain ⟨⟨rv, dn⟩, hd⟩ : ∃ q, Utf8.decode s p = q := ⟨_, rfl⟩
          have hD := decode_high s p hlt hhi
          rw [hd] at hD
          obtain ⟨hr1, hr2, hd1, hd2, hd3⟩ := hD
          simp only at hr1 hr2 hd1 hd2 hd3
          have hnext0 := fun ty => Lib.run_next_any_at (P := Tryd.prog) wr (w.heap.size + 3) s p ty hit hlt
          rw [hd] at hnext0
          simp only at hnext0
          have HT2 := Lib.hid (HT.out.iter s (p + dn))
          have hit2 := Lib.iterAt_heap wr (w.heap.size + 3) s p (p + dn) hit
          obtain ⟨W2, hW2⟩ : ∃ W2, wr.iterAt (w.heap.size + 3) s (p + dn) = W2 := ⟨_, rfl⟩
          simp only [hW2] at hnext0 hit2
          rw [hW2] at HT2
          have hip2 : W2.iterPos (w.heap.size + 3) = p + dn := by simp [World.iterPos, hit2]
          have HIP2 := Lib.hid hip2
          have hsk0 : st.skip = 0 := by have := HS.out.skip'; omega
          have b10 : ((rv : Int) == 10) = false := by rw [beq_eq_false_iff_ne]; omega
          have b32 : ((rv : Int) == 32) = false := by rw [beq_eq_false_iff_ne]; omega
          have b9 : ((rv : Int) == 9) = false := by rw [beq_eq_false_iff_ne]; omega
          have b35 : ((rv : Int) == 35) = false := by rw [beq_eq_false_iff_ne]; omega
          clear hW2 hip2 hit HT hd
          cases hcm : st.comment
          · have HRR : Hid (r = ([], st.line, 8)) := by
              have h := HS.out
              have hbad := step_bad s[p] (s.data.toList.drop (p + 1)) st hsk0 ⟨by omega, by omega, by omega, by omega⟩ hcm (token_high _ _ hhi)
              rw [← drop_cons s p hlt] at hbad
              unfold Hid
              rw [HR.out, h.eq', scan_wrong s p hlt st (by rw [hbad]), hbad]
              rfl
            have HLW := Lib.hid (HL.out.below HT2.out.below)
            obtain ⟨⟨t, n⟩, htn⟩ : ∃ q, tokenF (s.data.toList.drop p) = q := ⟨_, rfl⟩
            have HTF : Hid (tokenF (s.extract p s.size).data.toList = (t, n)) := by unfold Hid; rw [Lib.extract_to_end s p, htn]
            have HZ : Hid (0 < (s.extract p s.size).size ∧ (s.extract p s.size).size ≤ 281474976710656) := by unfold Hid; rw [ByteArray.size_extract]; omega
            have hn0 : n = 0 := by
              have := token_high s[p] (s.data.toList.drop (p + 1)) hhi
              rw [← drop_cons s p hlt, htn] at this; exact this
            subst hn0
            clear HS HR htn hcm hd3
            go_wp2_with (go_at_call 24; refine (c_token (s.extract p s.size) HZ.out.1 HZ.out.2 _ HLW.out).mono ?_; rw [HTF.out]; dsimp only [Tok.cells]; rintro e w3 ⟨rfl, hb3⟩; have HT3 := Lib.hid ((HT2.out.more hb3).alloc (.cells #[.int .i64 t.kind, .string ⟨t.text.toArray⟩, .int .i64 t.n, .int .i64 t.line] 31)); obtain ⟨⟨k2, q2⟩, ⟨k3, q3⟩, _⟩ := TSt.cells (HT2.out.more hb3); obtain ⟨⟨k4, q4⟩, _⟩ := TSt.cells HT3.out; clear hb3)
            go_quiet (fail)
            go_wp2
            rw [Exit.noGoto_ret]
            go_ret3
            rw [HRR.out]
            exact ⟨_, rfl, World.ownsRow_nil _ _ _ _, below_drewN HT3.out.below _⟩
          · have HN : Hid (Scan s (p + dn) nx st) := by
              have h := HS.out
              refine ⟨?_, h.ok', ?_, h.nx', fun j hj h1 h2 => by omega, ?_, ?_⟩
              · rw [h.eq', scan_comment s st hcm hsk0 h.ok' dn p hd2 hd3]
              · omega
              · have := h.toks'; omega
              · have := h.line'; omega
            have HCM := Lib.hid hcm
            clear HS HR hcm hd3
            go_wp2
            go_roundw
            case rel => exact ⟨p + dn, nx, st, by omega, rfl, by rw [HCM.out], rfl, hit2, HT2, HN⟩
            case measure => rw [HIP.out, HIP2.out]; omega
      · have hnext0 := fun ty => Lib.run_next_end_at (P := Tryd.prog) wr (w.heap.size + 3) s p ty hit hlt
        have HE : Hid (scan s.data.toList st0 = st) := by
          have h := HS.out
          unfold Hid; rw [h.eq', scan_end s p hlt]
        have HW : Hid (st.wrong = false) := HS.out.ok'
        have htk : st.toks.length ≤ 20001 ∧ 1 ≤ st.line ∧ st.line ≤ 20001 := by have := HS.out; have h1 := this.toks'; have h2 := this.line'; have h3 := this.nx'; omega
        clear HS
        obtain ⟨i0, hi, hz0, hz1, hz2⟩ := info_parts info31
        cases hf : st.full
        · rw [hf] at HT
          have HRR : Hid (r = (st.toks ++ [⟨0, [], 0, st.line⟩], 0, 0)) := by
            unfold Hid; rw [HR.out, HE.out, HW.out, hf]; rfl
          clear HR HE HW hf
          obtain ⟨⟨k2, q2⟩, ⟨k3, q3⟩, v, hv, hown, k1, q1⟩ := HT.out.cells
          have HO := Lib.hid hown
          clear hv hown
          have hsz3 := HT.out.size
          have hs1 : w.heap.size + 1 < wr.heap.size := by omega
          have hs2 : w.heap.size < wr.heap.size := by omega
          go_wp2_with (fail)
          refine (c_end_not w w.heap.size st.toks st.line _ HT.out).mono ?_
          rintro e w3 ⟨rfl, rfl⟩
          go_wp2_with (at_builtin; refine wpList_append_own _ rfl _ _ 23 rfl (w.heap.size + 4) 31 i0 _ 4 40 Tryd.underlying23 hi hz0 hz1 hz2 rfl (by decide) _ _ _ rfl (HO.out.alloc _) ⟨wr.heap.size, 0, none⟩ 1 1 [.int .i64 0, .string ⟨#[]⟩, .int .i64 0, .int .i64 st.line] rfl rfl ?c1 ?c2 ?c3 ?c4 ?c5 ?_)
          case c1 => exact new4
          case c2 => exact one4
          case c3 => unfold maxLen; omega
          case c4 => omega
          case c5 => rw [size_alloc']; omega
          intro v' w1 hown1 hg _
          have hBB := Lib.hid (HT.out.below)
          have hvr : ∀ k, v.ownBlock = some k → w.heap.size ≤ k := by
            intro k hk
            rcases HO.out.2 with ⟨rfl, _⟩ | ⟨g, cap, cur, rfl, hb, _⟩
            · simp [Value.ownBlock] at hk
            · simp only [Value.ownBlock, Option.some.injEq] at hk; omega
          have HB1 := Lib.hid ((hBB.out.alloc (by omega) _).grown hg (by rw [size_alloc']; omega) hvr)
          obtain ⟨g, cap, hv', _, _⟩ := World.ownsRow.form hown1 (by omega)
          subst hv'
          have HO1 := Lib.hid hown1
          clear hown1 hg hvr k2 q2 k3 q3 k1 q1 hi hz0 hz1 hz2 HO hBB
          go_wp2
          rw [Exit.noGoto_ret]
          go_ret3
          rw [HRR.out]
          refine ⟨_, rfl, ?_, HB1.out⟩
          have ho := own_mono (B' := w.heap.size) HO1.out (by omega)
          have hl : (st.toks ++ [(⟨0, [], 0, st.line⟩ : Tok)]).length = (st.toks).length + 1 := by simp
          have hf : flatT (st.toks ++ [(⟨0, [], 0, st.line⟩ : Tok)]) = flatT (st.toks) ++ (Tok.cells ⟨0, [], 0, st.line⟩).toList := by rw [flatT_append]; simp [flatT]
          rw [hl, hf]
          exact ho
        · rw [hf] at HT
          have HRR : Hid (r = ((st.toks ++ [⟨4, [], 0, st.line⟩]) ++ [⟨0, [], 0, st.line⟩], 0, 0)) := by
            unfold Hid; rw [HR.out, HE.out, HW.out, hf]; rfl
          clear HR HE HW hf
          obtain ⟨⟨k2, q2⟩, ⟨k3, q3⟩, v0, hv, hown, k1, q1⟩ := HT.out.cells
          clear hv hown
          go_wp2_with (fail)
          refine (c_end_full w w.heap.size st.toks st.line _ HT.out (by omega)).mono ?_
          rintro e w3 ⟨rfl, HT3, hit3⟩
          clear k2 q2 k3 q3 k1 q1 hit3
          obtain ⟨⟨k2, q2⟩, ⟨k3, q3⟩, v, hv, hown, k1, q1⟩ := HT3.cells
          have HO := Lib.hid hown
          have hsz3 := HT3.size
          have hs1 : w.heap.size + 1 < w3.heap.size := by omega
          have hs2 : w.heap.size < w3.heap.size := by omega
          have HT4 := Lib.hid HT3
          clear hv hown HT3
          go_wp2_with (at_builtin; refine wpList_append_own _ rfl _ _ 23 rfl (w.heap.size + 4) 31 i0 _ 4 40 Tryd.underlying23 hi hz0 hz1 hz2 rfl (by decide) _ _ _ rfl (HO.out.alloc _) ⟨w3.heap.size, 0, none⟩ 1 1 [.int .i64 0, .string ⟨#[]⟩, .int .i64 0, .int .i64 st.line] rfl rfl ?c1 ?c2 ?c3 ?c4 ?c5 ?_)
          case c1 => exact new4
          case c2 => exact one4
          case c3 => rw [List.length_append]; simp only [List.length_singleton]; unfold maxLen; omega
          case c4 => rw [List.length_append]; simp only [List.length_singleton]; omega
          case c5 => rw [size_alloc']; omega
          intro v' w1 hown1 hg _
          have hBB := Lib.hid (HT4.out.below)
          have hvr : ∀ k, v.ownBlock = some k → w.heap.size ≤ k := by
            intro k hk
            rcases HO.out.2 with ⟨rfl, _⟩ | ⟨g, cap, cur, rfl, hb, _⟩
            · simp [Value.ownBlock] at hk
            · simp only [Value.ownBlock, Option.some.injEq] at hk; omega
          have HB1 := Lib.hid ((hBB.out.alloc (by omega) _).grown hg (by rw [size_alloc']; omega) hvr)
          obtain ⟨g, cap, hv', _, _⟩ := World.ownsRow.form hown1 (by omega)
          subst hv'
          have HO1 := Lib.hid hown1
          clear hown1 hg hvr k2 q2 k3 q3 k1 q1 hi hz0 hz1 hz2 HO hBB
          go_wp2
          rw [Exit.noGoto_ret]
          go_ret3
          rw [HRR.out]
          refine ⟨_, rfl, ?_, HB1.out⟩
          have ho := own_mono (B' := w.heap.size) HO1.out (by omega)
          have hl : (st.toks ++ [(⟨4, [], 0, st.line⟩ : Tok)] ++ [(⟨0, [], 0, st.line⟩ : Tok)]).length = (st.toks ++ [(⟨4, [], 0, st.line⟩ : Tok)]).length + 1 := by simp
          have hf : flatT (st.toks ++ [(⟨4, [], 0, st.line⟩ : Tok)] ++ [(⟨0, [], 0, st.line⟩ : Tok)]) = flatT (st.toks ++ [(⟨4, [], 0, st.line⟩ : Tok)]) ++ (Tok.cells ⟨0, [], 0, st.line⟩).toList := by rw [flatT_append]; simp [flatT]
          rw [hl, hf]
          have hl1 : (st.toks ++ [(⟨4, [], 0, st.line⟩ : Tok)]).length = st.toks.length + 1 := by simp
          rw [hl1]
          exact ho
end Go.Proofs.YtiabiflaecidoaaDoor
