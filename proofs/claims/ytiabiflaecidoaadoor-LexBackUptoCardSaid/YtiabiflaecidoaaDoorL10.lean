/-
  Text of lex.
-/
import Derived.Test.YtiabiflaecidoaaDoorL9
import Derived.Test.YtiabiflaecidoaaDoorB0
import Derived.Test.YtiabiflaecidoaaDoorX0
namespace Go.Proofs.YtiabiflaecidoaaDoor
set_option linter.all false
open Go.RowKit

structure TS where
  out : List UInt8
  line : Int
  full : Bool

def lineStep (st : TS) (l : Int) : TS := if 0 < l - st.line then ⟨st.out ++ Lib.repeatL [10] (l - st.line).toNat, l, false⟩ else st
def wordT (t : Tok) : List UInt8 := if t.kind = 2 then Lib.itoa t.n else t.text
def tokStep (st : TS) (t : Tok) : TS :=
  if t.kind = 4 ∨ t.kind = 0 then st else ⟨(if st.full then st.out ++ [32] else st.out) ++ wordT t, st.line, true⟩
def textStep (st : TS) (t : Tok) : TS := tokStep (lineStep st t.line) t
def textSt (ts : List Tok) : TS := ts.foldl textStep ⟨[], 1, false⟩
def lastLine (ts : List Tok) : Int := match ts.getLast? with | some t => t.line | none => 0
def textF (ts : List Tok) : List UInt8 × Int :=
  if checkF ts ≠ 0 then ([], checkF ts)
  else if 20001 < lastLine ts then ([], 6)
  else if 20000 < (textSt ts).out.length then ([], 6)
  else ((textSt ts).out, 0)

theorem textSt_step (ts : List Tok) (k : Nat) (hk : k < ts.length) : textSt (ts.take (k + 1)) = textStep (textSt (ts.take k)) ts[k] := by
  rw [List.take_succ_eq_append_getElem hk, textSt, List.foldl_append]; rfl

def bnd (ts : List Tok) : Nat := (ts.map fun t => t.text.length + 15).sum
theorem bnd_step (ts : List Tok) (k : Nat) (hk : k < ts.length) : bnd (ts.take (k + 1)) = bnd (ts.take k) + (ts[k].text.length + 15) := by
  rw [List.take_succ_eq_append_getElem hk, bnd, List.map_append, List.sum_append]; simp [bnd]
theorem bnd_take : ∀ (ts : List Tok) (k : Nat), bnd (ts.take k) ≤ bnd ts
  | [], k => by simp
  | t :: r, 0 => by simp [bnd]
  | t :: r, k + 1 => by
    have := bnd_take r k
    simp only [List.take_succ_cons, bnd, List.map_cons, List.sum_cons] at this ⊢
    omega

theorem lineStep_pos (st : TS) (m : Nat) (hm : 0 < m) : lineStep st (st.line + m) = ⟨st.out ++ Lib.repeatL [10] m, st.line + m, false⟩ := by
  rw [lineStep, if_pos (by omega)]
  congr 2
  congr 1
  omega
theorem lineStep_zero (st : TS) (l : Int) (h : ¬ 0 < l - st.line) : lineStep st l = st := by rw [lineStep, if_neg h]

structure Buf (B : Nat) (w0 : World) (out : List UInt8) (w : World) : Prop where
  b : Lib.IsBuilder 51 5 B B (Lib.byteCells out) w
  below : Below B w0 w
  lt : B < w.heap.size

theorem isb_lt {B b : Nat} {bs : List Value} {w : World} (h : Lib.IsBuilder 51 5 B b bs w) : b < w.heap.size := by
  rcases h with h | h <;> exact h.lt

theorem isb_alloc {B b : Nat} {bs : List Value} {w : World} (h : Lib.IsBuilder 51 5 B b bs w) (o : Obj) : Lib.IsBuilder 51 5 B b bs (w.alloc o) := by
  have hh : ∀ p, Lib.BuilderAt 51 5 B b p bs w → Lib.BuilderAt 51 5 B b p bs (w.alloc o) := by
    rintro p ⟨h1, v, h2, h3, h4⟩
    exact ⟨h1, v, (Below.heap_alloc w o b (heap_some_lt h2)).trans h2, h3.alloc _, h4⟩
  rcases h with h | h
  · exact .inl (hh _ h)
  · exact .inr (hh _ h)
theorem isb_below {B b : Nat} {bs : List Value} {w w' : World} (h : Lib.IsBuilder 51 5 B b bs w) (hb : Below w.heap.size w w') : Lib.IsBuilder 51 5 B b bs w' := by
  have hh : ∀ p, Lib.BuilderAt 51 5 B b p bs w → Lib.BuilderAt 51 5 B b p bs w' := by
    rintro p ⟨h1, v, h2, h3, h4⟩
    exact ⟨h1, v, (hb.block b (heap_some_lt h2)).trans h2, own_below h3 hb, h4⟩
  rcases h with h | h
  · exact .inl (hh _ h)
  · exact .inr (hh _ h)

theorem Buf.alloc {B : Nat} {w0 w : World} {out : List UInt8} (h : Buf B w0 out w) (o : Obj) : Buf B w0 out (w.alloc o) :=
  ⟨isb_alloc h.b o, h.below.alloc (Nat.le_of_lt h.lt) o, by rw [size_alloc']; have := h.lt; omega⟩
theorem Buf.more {B : Nat} {w0 w w' : World} {out : List UInt8} (h : Buf B w0 out w) (hb : Below w.heap.size w w') : Buf B w0 out w' :=
  ⟨isb_below h.b hb, h.below.trans (hb.mono (Nat.le_of_lt h.lt)), Nat.lt_of_lt_of_le h.lt hb.size⟩

theorem c_ws {B : Nat} {w0 w : World} {out : List UInt8} (h : Buf B w0 out w) (l : List UInt8) (hlen : out.length + l.length ≤ 140737488355328) :
    Calls Tryd.prog 30 #[.pointer (some ⟨B, 0, none⟩), .string ⟨l.toArray⟩] w fun e w' => e = .returned (.tuple #[.int .i64 (⟨l.toArray⟩ : ByteArray).size, .nilIface]) ∧ Buf B w0 (out ++ l) w' ∧ Keeps B w w' := by
  refine (c_write_string B B _ ⟨l.toArray⟩ w h.b (by rw [Lib.byteCells_length]; show _ + l.toArray.size ≤ _; simpa using hlen) (Nat.le_of_lt h.lt)).mono ?_
  rintro e w' ⟨rfl, h1, h2, h3⟩
  refine ⟨rfl, ⟨?_, h.below.trans h2, Nat.lt_of_lt_of_le h.lt h2.size⟩, h3⟩
  rw [Lib.byteCells_append]; exact h1
theorem c_wb {B : Nat} {w0 w : World} {out : List UInt8} (h : Buf B w0 out w) (hlen : out.length + 1 ≤ 140737488355328) :
    Calls Tryd.prog 32 #[.pointer (some ⟨B, 0, none⟩), .int .u8 32] w fun e w' => e = .returned .nilIface ∧ Buf B w0 (out ++ [32]) w' ∧ Keeps B w w' := by
  refine (c_write_byte B B _ 32 w h.b (by rw [Lib.byteCells_length]; exact hlen) (Nat.le_of_lt h.lt)).mono ?_
  rintro e w' ⟨rfl, h1, h2, h3⟩
  refine ⟨rfl, ⟨?_, h.below.trans h2, Nat.lt_of_lt_of_le h.lt h2.size⟩, h3⟩
  rw [Lib.byteCells_append]; exact h1

def TB (w : World) (p : Nat) (k : Int) (s : List UInt8) (n l : Int) : Prop := w.heap[p]? = some (.cells #[.int .i64 k, .string ⟨s.toArray⟩, .int .i64 n, .int .i64 l] 31 (0, 0))
theorem TB.new (w : World) (k : Int) (s : List UInt8) (n l : Int) : TB (w.alloc (.cells #[.int .i64 k, .string ⟨s.toArray⟩, .int .i64 n, .int .i64 l] 31)) w.heap.size k s n l := by
  show (w.heap.push _)[w.heap.size]? = _; simp
theorem TB.more {w w' : World} {p : Nat} {k : Int} {s : List UInt8} {n l : Int} (h : TB w p k s n l) (hb : Below w.heap.size w w') : TB w' p k s n l := (hb.block p (heap_some_lt h)).trans h
theorem TB.keep {w w' : World} {p b : Nat} {k : Int} {s : List UInt8} {n l : Int} (h : TB w p k s n l) (hk : Keeps b w w') (hb : p ≠ b) : TB w' p k s n l := hk _ _ _ _ hb (by decide) h
theorem TB.cells {w : World} {p : Nat} {k : Int} {s : List UInt8} {n l : Int} (h : TB w p k s n l) :
    w.cell? ⟨p, 0, none⟩ = some (.int .i64 k) ∧ w.cell? ⟨p, 1, none⟩ = some (.string ⟨s.toArray⟩) ∧ w.cell? ⟨p, 2, none⟩ = some (.int .i64 n) ∧ w.cell? ⟨p, 3, none⟩ = some (.int .i64 l) := by
  unfold TB at h
  refine ⟨?_, ?_, ?_, ?_⟩ <;> simp [World.cell?, h]

set_option maxRecDepth 100000 in
set_option maxHeartbeats 16000000 in
theorem c_ltext (ts : List Tok) (v : Value) (w : World) (hL : Laid w) (h : Toks w v w.heap.size ts) (hbnd : bnd ts ≤ 70368744177664) :
    Calls Tryd.prog 16 #[v] w fun e w' => e = .returned (.tuple #[.string ⟨(textF ts).1.toArray⟩, .int .i64 (textF ts).2]) ∧ Below w.heap.size w w' := by
  obtain ⟨r, hr⟩ : ∃ r, textF ts = r := ⟨_, rfl⟩
  rw [hr]
  have HR := Lib.hid hr
  have HL := Lib.hid hL
  have HT := Lib.hid h
  obtain ⟨⟨A, cap, rfl, hx⟩, hlen, hok⟩ := h
  have HX := Lib.hid hx
  have HO := Lib.hid hok
  clear hr hx hok hL
  obtain ⟨q, hq⟩ : ∃ q, checkF ts = q := ⟨_, rfl⟩
  have HQ := Lib.hid hq
  by_cases hq0 : q = 0
  · have c1 : (q != 0) = false := by simp [hq0]
    have hgood := good_of (hq.trans hq0)
    have hpos := hgood.last.choose
    obtain ⟨b, o, rfl, hbB, hc⟩ := HX.out hpos
    have HG := Lib.hid hgood
    have HC := Lib.hid hc
    obtain ⟨ll, hll⟩ : ∃ l, lastLine ts = l := ⟨_, rfl⟩
    have hlast : lastLine ts = (ts[ts.length - 1]'(by omega)).line := by
      rw [lastLine, List.getLast?_eq_getElem?, List.getElem?_eq_getElem (by omega)]
    have hl0 : ∀ k (hk : k < ts.length), 1 ≤ ts[k].line ∧ ts[k].line ≤ ll := fun k hk => by
      refine ⟨hgood.first k hk, ?_⟩
      have := hgood.mono k (ts.length - 1 - k) (by omega)
      simp only [show k + (ts.length - 1 - k) = ts.length - 1 from by omega] at this
      omega
    have HL0 := Lib.hid hl0
    obtain ⟨lt, hlt⟩ : ∃ t, ts[ts.length - 1]? = some t := ⟨_, List.getElem?_eq_getElem (by omega)⟩
    have hltl : lt.line = ll := by
      rw [List.getElem?_eq_getElem (by omega)] at hlt
      simp only [Option.some.injEq] at hlt
      rw [← hlt, ← hll, hlast]
    have HLT := Lib.hid hlt
    have HLTL := Lib.hid hltl
    have bn : ((ts.length : Int) - 1).toNat = ts.length - 1 := by omega
    have bp : 1 ≤ (ts.length : Int) := by omega
    by_cases hbig : 20001 < ll
    · have HRR : Hid (r = ([], 6)) := by unfold Hid; rw [← HR.out, textF, HQ.out, if_neg (by omega), hll, if_pos hbig]
      clear hq0 hq hgood hc hll hlast hl0 hlt hltl
      go_enter Tryd.func16, Tryd.ntmps16
      go_wp2_with (go_at_call 14; refine (c_check ts _ _ HT.out).mono ?_; rw [HQ.out]; rintro e w1 ⟨rfl, hb1⟩; have HB1 := Lib.hid hb1; have hc1 := HC.out; simp only [← cell_below hb1 hbB] at hc1; obtain ⟨x1, x2, x3, x4⟩ := hc1 _ _ HLT.out; rw [HLTL.out] at x4; clear hb1 hc1)
      go_ret2
      rw [HRR.out]
      exact ⟨rfl, HB1.out⟩
    · have HRR : Hid (r = if 20000 < (textSt ts).out.length then ([], 6) else ((textSt ts).out, 0)) := by unfold Hid; rw [← HR.out, textF, HQ.out, if_neg (by omega), hll, if_neg hbig]
      clear hq0 hq hgood hc hll hlast hl0 hlt hltl HR
      go_enter Tryd.func16, Tryd.ntmps16
      go_wp2_with (go_at_call 14; refine (c_check ts _ _ HT.out).mono ?_; rw [HQ.out]; rintro e w1 ⟨rfl, hb1⟩; have HB1 := Lib.hid hb1; have hc1 := HC.out; simp only [← cell_below hb1 hbB] at hc1; obtain ⟨x1, x2, x3, x4⟩ := hc1 _ _ HLT.out; rw [HLTL.out] at x4; clear hb1 hc1)
      have hfresh : Buf w1.heap.size w1 [] (w1.alloc (.cells #[.pointer none, .slice none 0 0] 51)) := ⟨Lib.fresh_isBuilder 51 5 w1, (Below.refl _ _).alloc (Nat.le_refl _) _, by rw [size_alloc']; omega⟩
      have HF := Lib.hid hfresh
      clear hfresh x1 x2 x3 x4
      go_loopw [6, 7, 26] (fun l f i wr => ∃ (k : Nat) (st : TS), k ≤ ts.length ∧ i = .int .i64 k ∧ l = .int .i64 st.line ∧ f = .bool st.full ∧ 1 ≤ st.line ∧ st.line ≤ 20001 ∧ st.out.length ≤ st.line + bnd (ts.take k) ∧ Hid (textSt (ts.take k) = st) ∧ Hid (Buf w1.heap.size w1 st.out wr)) (fun _ _ i _ => ts.length - (intOf i).toNat)
      case atStart => exact ⟨0, ⟨[], 1, false⟩, Nat.zero_le _, rfl, rfl, rfl, by decide, by decide, by simp [bnd], rfl, HF⟩
      case round =>
        obtain ⟨k, st, hk, rfl, rfl, rfl, hs1, hs2, hs3, HST, HBU⟩ := hrel
        by_cases hlt : k < ts.length
        · have HBW : Hid (Below w.heap.size w wr) := HB1.out.trans (HBU.out.below.mono HB1.out.size)
          obtain ⟨⟨tk, tt, tn, tl⟩, ht⟩ : ∃ t, ts[k] = t := ⟨_, rfl⟩
          have htl := HL0.out k hlt
          have hstep := textSt_step ts k hlt
          have hbs := bnd_step ts k hlt
          have hbt := bnd_take ts (k + 1)
          have hform := (stepC_zero (HG.out.step k hlt)).2.2.1
          have hc1 := HC.out
          simp only [← cell_below HBW.out hbB] at hc1
          obtain ⟨x1, x2, x3, x4⟩ := hc1 k ⟨tk, tt, tn, tl⟩ (by rw [List.getElem?_eq_getElem hlt, ht])
          rw [ht] at htl hstep hbs hform
          rw [HST.out] at hstep
          simp only at htl hbs x1 x2 x3 x4
          have hlt1 : w1.heap.size < wr.heap.size := HBU.out.lt
          have hne : wr.heap.size ≠ w1.heap.size := by omega
          have HNE := Lib.hid hne
          have HSTEP := Lib.hid hstep
          have HFM := Lib.hid hform
          clear ht hstep hform hc1 hne
          have HLW : ∀ w', Below w1.heap.size w1 w' → Laid w' := fun w' hb => HL.out.below (HB1.out.trans (hb.mono HB1.out.size))
          have HLWH := Lib.hid HLW
          clear HLW
          by_cases hn : 0 < tl - st.line
          · obtain ⟨m, rfl⟩ : ∃ m : Nat, tl = st.line + m := ⟨(tl - st.line).toNat, by omega⟩
            have hm : 0 < m := by omega
            have HLS : Hid (lineStep st (st.line + m) = ⟨st.out ++ Lib.repeatL [10] m, st.line + m, false⟩) := lineStep_pos st m hm
            go_wp2_with (fail)
            rw [show st.line + (m : Int) - st.line = m from by omega]
            refine (Tryd.strings_Repeat ⟨#[10]⟩ m _ (by omega) (by rw [show (⟨#[10]⟩ : ByteArray).size = 1 from rfl]; omega)).mono ?_
            rintro e wa ⟨rfl, hba⟩
            have hbufa := (HBU.out.alloc _).more hba
            have htba := (TB.new wr tk tt tn (st.line + m)).more hba
            have HBa := Lib.hid hbufa
            have HTa := Lib.hid htba
            clear hba hbufa htba
            go_wp2_with (fail)
            refine (c_ws HBa.out (Lib.repeatL [10] m) (by (try simp only [List.length_append, List.length_cons, List.length_nil, Lib.repeatL_length, Int.natCast_add]); omega)).mono ?_
            rintro e wb ⟨rfl, hbufb, hkb⟩
            have htbb := HTa.out.keep hkb HNE.out
            obtain ⟨y1, y2, y3, y4⟩ := htbb.cells
            have HBb := Lib.hid hbufb
            have HTb := Lib.hid htbb
            clear hbufb hkb htbb
            by_cases g4 : tk = 4
            · have b4 := beqT g4
              have HN : Hid (textSt (ts.take (k + 1)) = ⟨st.out ++ Lib.repeatL [10] m, st.line + m, false⟩) := by
                unfold Hid; rw [HSTEP.out, textStep, HLS.out, tokStep, if_pos (.inl g4)]
              clear g4
              go_wp2
              go_roundw
              case rel => exact ⟨k + 1, ⟨st.out ++ Lib.repeatL [10] m, st.line + m, false⟩, by omega, rfl, rfl, rfl, by show 1 ≤ st.line + m; omega, by show st.line + m ≤ 20001; omega, by show ((st.out ++ Lib.repeatL [10] m).length : Int) ≤ st.line + m + _; (try simp only [List.length_append, List.length_cons, List.length_nil, Lib.repeatL_length, Int.natCast_add]); omega, HN, HBb⟩
              case measure => simp only [intOf]; omega
            · have b4 := beqF g4
              by_cases g0 : tk = 0
              · have b0 := beqT g0
                have HN : Hid (textSt (ts.take (k + 1)) = ⟨st.out ++ Lib.repeatL [10] m, st.line + m, false⟩) := by
                  unfold Hid; rw [HSTEP.out, textStep, HLS.out, tokStep, if_pos (.inr g0)]
                clear g0 g4
                go_wp2
                go_roundw
                case rel => exact ⟨k + 1, ⟨st.out ++ Lib.repeatL [10] m, st.line + m, false⟩, by omega, rfl, rfl, rfl, by show 1 ≤ st.line + m; omega, by show st.line + m ≤ 20001; omega, by show ((st.out ++ Lib.repeatL [10] m).length : Int) ≤ st.line + m + _; (try simp only [List.length_append, List.length_cons, List.length_nil, Lib.repeatL_length, Int.natCast_add]); omega, HN, HBb⟩
                case measure => simp only [intOf]; omega
              · have b0 := beqF g0
                by_cases g2 : tk = 2
                · have b2 := beqT g2
                  have HN : Hid (textSt (ts.take (k + 1)) = ⟨(st.out ++ Lib.repeatL [10] m) ++ Lib.itoa tn, st.line + m, true⟩) := by
                    unfold Hid; rw [HSTEP.out, textStep, HLS.out, tokStep, if_neg (by simp [g4, g0])]; simp [wordT, g2]
                  have hnb : 0 ≤ tn ∧ tn ≤ 1000000000000 := by have := HFM.out; simp [formF, g2] at this; omega
                  have hit : (Lib.itoa tn).length ≤ 14 := itoa_length tn (by simp [inB]; omega)
                  clear g4 g0 g2
                  go_wp2_with (fail)
                  refine (c_text tn (by omega) (by omega) _ (HLWH.out _ (HBb.out).below)).mono ?_
                  rintro e wd ⟨rfl, hbd⟩
                  have hbufd := (HBb.out).more hbd
                  have HBd := Lib.hid hbufd
                  clear hbufd hbd
                  go_wp2_with (fail)
                  refine (c_ws HBd.out (Lib.itoa tn) (by (try simp only [List.length_append, List.length_cons, List.length_nil, Lib.repeatL_length, Int.natCast_add]); omega)).mono ?_
                  rintro e we ⟨rfl, hbufe, hke⟩
                  have HBe := Lib.hid hbufe
                  clear hbufe hke
                  go_wp2
                  go_roundw
                  case rel => exact ⟨k + 1, ⟨(st.out ++ Lib.repeatL [10] m) ++ Lib.itoa tn, st.line + m, true⟩, by omega, rfl, rfl, rfl, by show 1 ≤ st.line + m; omega, by show st.line + m ≤ 20001; omega, by show (((st.out ++ Lib.repeatL [10] m) ++ Lib.itoa tn).length : Int) ≤ st.line + m + _; (try simp only [List.length_append, List.length_cons, List.length_nil, Lib.repeatL_length, Int.natCast_add]); omega, HN, HBe⟩
                  case measure => simp only [intOf]; omega
                · have b2 := beqF g2
                  have HN : Hid (textSt (ts.take (k + 1)) = ⟨(st.out ++ Lib.repeatL [10] m) ++ tt, st.line + m, true⟩) := by
                    unfold Hid; rw [HSTEP.out, textStep, HLS.out, tokStep, if_neg (by simp [g4, g0])]; simp [wordT, g2]
                  clear g4 g0 g2
                  go_wp2_with (fail)
                  refine (c_ws HBb.out (tt) (by (try simp only [List.length_append, List.length_cons, List.length_nil, Lib.repeatL_length, Int.natCast_add]); omega)).mono ?_
                  rintro e we ⟨rfl, hbufe, hke⟩
                  have HBe := Lib.hid hbufe
                  clear hbufe hke
                  go_wp2
                  go_roundw
                  case rel => exact ⟨k + 1, ⟨(st.out ++ Lib.repeatL [10] m) ++ tt, st.line + m, true⟩, by omega, rfl, rfl, rfl, by show 1 ≤ st.line + m; omega, by show st.line + m ≤ 20001; omega, by show (((st.out ++ Lib.repeatL [10] m) ++ tt).length : Int) ≤ st.line + m + _; (try simp only [List.length_append, List.length_cons, List.length_nil, Lib.repeatL_length, Int.natCast_add]); omega, HN, HBe⟩
                  case measure => simp only [intOf]; omega
          · have HLS : Hid (lineStep st tl = ⟨st.out, st.line, st.full⟩) := lineStep_zero st tl hn
            by_cases g4 : tk = 4
            · have b4 := beqT g4
              have HN : Hid (textSt (ts.take (k + 1)) = ⟨st.out, st.line, st.full⟩) := by
                unfold Hid; rw [HSTEP.out, textStep, HLS.out, tokStep, if_pos (.inl g4)]
              clear g4
              go_wp2
              go_roundw
              case rel => exact ⟨k + 1, ⟨st.out, st.line, st.full⟩, by omega, rfl, rfl, rfl, by show 1 ≤ st.line; omega, by show st.line ≤ 20001; omega, by show ((st.out).length : Int) ≤ st.line + _; (try simp only [List.length_append, List.length_cons, List.length_nil, Lib.repeatL_length, Int.natCast_add]); omega, HN, HBU.out.alloc _⟩
              case measure => simp only [intOf]; omega
            · have b4 := beqF g4
              by_cases g0 : tk = 0
              · have b0 := beqT g0
                have HN : Hid (textSt (ts.take (k + 1)) = ⟨st.out, st.line, st.full⟩) := by
                  unfold Hid; rw [HSTEP.out, textStep, HLS.out, tokStep, if_pos (.inr g0)]
                clear g0 g4
                go_wp2
                go_roundw
                case rel => exact ⟨k + 1, ⟨st.out, st.line, st.full⟩, by omega, rfl, rfl, rfl, by show 1 ≤ st.line; omega, by show st.line ≤ 20001; omega, by show ((st.out).length : Int) ≤ st.line + _; (try simp only [List.length_append, List.length_cons, List.length_nil, Lib.repeatL_length, Int.natCast_add]); omega, HN, HBU.out.alloc _⟩
                case measure => simp only [intOf]; omega
              · have b0 := beqF g0
                by_cases g2 : tk = 2
                · have b2 := beqT g2
                  obtain ⟨fl, hfl⟩ : ∃ fl, st.full = fl := ⟨_, rfl⟩
                  rw [hfl] at HLS ⊢
                  clear hfl
                  cases fl
                  · have HN : Hid (textSt (ts.take (k + 1)) = ⟨(st.out) ++ Lib.itoa tn, st.line, true⟩) := by
                      unfold Hid; rw [HSTEP.out, textStep, HLS.out, tokStep, if_neg (by simp [g4, g0])]; simp [wordT, g2]
                    have hnb : 0 ≤ tn ∧ tn ≤ 1000000000000 := by have := HFM.out; simp [formF, g2] at this; omega
                    have hit : (Lib.itoa tn).length ≤ 14 := itoa_length tn (by simp [inB]; omega)
                    clear g4 g0 g2
                    go_wp2_with (fail)
                    refine (c_text tn (by omega) (by omega) _ (HLWH.out _ ((HBU.out.alloc _)).below)).mono ?_
                    rintro e wd ⟨rfl, hbd⟩
                    have hbufd := ((HBU.out.alloc _)).more hbd
                    have HBd := Lib.hid hbufd
                    clear hbufd hbd
                    go_wp2_with (fail)
                    refine (c_ws HBd.out (Lib.itoa tn) (by (try simp only [List.length_append, List.length_cons, List.length_nil, Lib.repeatL_length, Int.natCast_add]); omega)).mono ?_
                    rintro e we ⟨rfl, hbufe, hke⟩
                    have HBe := Lib.hid hbufe
                    clear hbufe hke
                    go_wp2
                    go_roundw
                    case rel => exact ⟨k + 1, ⟨(st.out) ++ Lib.itoa tn, st.line, true⟩, by omega, rfl, rfl, rfl, by show 1 ≤ st.line; omega, by show st.line ≤ 20001; omega, by show (((st.out) ++ Lib.itoa tn).length : Int) ≤ st.line + _; (try simp only [List.length_append, List.length_cons, List.length_nil, Lib.repeatL_length, Int.natCast_add]); omega, HN, HBe⟩
                    case measure => simp only [intOf]; omega
                  · have HN : Hid (textSt (ts.take (k + 1)) = ⟨(st.out ++ [32]) ++ Lib.itoa tn, st.line, true⟩) := by
                      unfold Hid; rw [HSTEP.out, textStep, HLS.out, tokStep, if_neg (by simp [g4, g0])]; simp [wordT, g2]
                    have hnb : 0 ≤ tn ∧ tn ≤ 1000000000000 := by have := HFM.out; simp [formF, g2] at this; omega
                    have hit : (Lib.itoa tn).length ≤ 14 := itoa_length tn (by simp [inB]; omega)
                    clear g4 g0 g2
                    go_wp2_with (fail)
                    refine (c_wb (HBU.out.alloc _) (by (try simp only [List.length_append, List.length_cons, List.length_nil, Lib.repeatL_length, Int.natCast_add]); omega)).mono ?_
                    rintro e wc ⟨rfl, hbufc, hkc⟩
                    have htbc := TB.keep (TB.new wr tk tt tn tl) hkc HNE.out
                    obtain ⟨z1, z2, z3, z4⟩ := htbc.cells
                    have HBc := Lib.hid hbufc
                    have HTc := Lib.hid htbc
                    clear hbufc hkc htbc
                    go_wp2_with (fail)
                    refine (c_text tn (by omega) (by omega) _ (HLWH.out _ (HBc.out).below)).mono ?_
                    rintro e wd ⟨rfl, hbd⟩
                    have hbufd := (HBc.out).more hbd
                    have HBd := Lib.hid hbufd
                    clear hbufd hbd
                    go_wp2_with (fail)
                    refine (c_ws HBd.out (Lib.itoa tn) (by (try simp only [List.length_append, List.length_cons, List.length_nil, Lib.repeatL_length, Int.natCast_add]); omega)).mono ?_
                    rintro e we ⟨rfl, hbufe, hke⟩
                    have HBe := Lib.hid hbufe
                    clear hbufe hke
                    go_wp2
                    go_roundw
                    case rel => exact ⟨k + 1, ⟨(st.out ++ [32]) ++ Lib.itoa tn, st.line, true⟩, by omega, rfl, rfl, rfl, by show 1 ≤ st.line; omega, by show st.line ≤ 20001; omega, by show (((st.out ++ [32]) ++ Lib.itoa tn).length : Int) ≤ st.line + _; (try simp only [List.length_append, List.length_cons, List.length_nil, Lib.repeatL_length, Int.natCast_add]); omega, HN, HBe⟩
                    case measure => simp only [intOf]; omega
                · have b2 := beqF g2
                  obtain ⟨fl, hfl⟩ : ∃ fl, st.full = fl := ⟨_, rfl⟩
                  rw [hfl] at HLS ⊢
                  clear hfl
                  cases fl
                  · have HN : Hid (textSt (ts.take (k + 1)) = ⟨(st.out) ++ tt, st.line, true⟩) := by
                      unfold Hid; rw [HSTEP.out, textStep, HLS.out, tokStep, if_neg (by simp [g4, g0])]; simp [wordT, g2]
                    clear g4 g0 g2
                    go_wp2_with (fail)
                    refine (c_ws (HBU.out.alloc _) (tt) (by (try simp only [List.length_append, List.length_cons, List.length_nil, Lib.repeatL_length, Int.natCast_add]); omega)).mono ?_
                    rintro e we ⟨rfl, hbufe, hke⟩
                    have HBe := Lib.hid hbufe
                    clear hbufe hke
                    go_wp2
                    go_roundw
                    case rel => exact ⟨k + 1, ⟨(st.out) ++ tt, st.line, true⟩, by omega, rfl, rfl, rfl, by show 1 ≤ st.line; omega, by show st.line ≤ 20001; omega, by show (((st.out) ++ tt).length : Int) ≤ st.line + _; (try simp only [List.length_append, List.length_cons, List.length_nil, Lib.repeatL_length, Int.natCast_add]); omega, HN, HBe⟩
                    case measure => simp only [intOf]; omega
                  · have HN : Hid (textSt (ts.take (k + 1)) = ⟨(st.out ++ [32]) ++ tt, st.line, true⟩) := by
                      unfold Hid; rw [HSTEP.out, textStep, HLS.out, tokStep, if_neg (by simp [g4, g0])]; simp [wordT, g2]
                    clear g4 g0 g2
                    go_wp2_with (fail)
                    refine (c_wb (HBU.out.alloc _) (by (try simp only [List.length_append, List.length_cons, List.length_nil, Lib.repeatL_length, Int.natCast_add]); omega)).mono ?_
                    rintro e wc ⟨rfl, hbufc, hkc⟩
                    have htbc := TB.keep (TB.new wr tk tt tn tl) hkc HNE.out
                    obtain ⟨z1, z2, z3, z4⟩ := htbc.cells
                    have HBc := Lib.hid hbufc
                    have HTc := Lib.hid htbc
                    clear hbufc hkc htbc
                    go_wp2_with (fail)
                    refine (c_ws HBc.out (tt) (by (try simp only [List.length_append, List.length_cons, List.length_nil, Lib.repeatL_length, Int.natCast_add]); omega)).mono ?_
                    rintro e we ⟨rfl, hbufe, hke⟩
                    have HBe := Lib.hid hbufe
                    clear hbufe hke
                    go_wp2
                    go_roundw
                    case rel => exact ⟨k + 1, ⟨(st.out ++ [32]) ++ tt, st.line, true⟩, by omega, rfl, rfl, rfl, by show 1 ≤ st.line; omega, by show st.line ≤ 20001; omega, by show (((st.out ++ [32]) ++ tt).length : Int) ≤ st.line + _; (try simp only [List.length_append, List.length_cons, List.length_nil, Lib.repeatL_length, Int.natCast_add]); omega, HN, HBe⟩
                    case measure => simp only [intOf]; omega
        · obtain rfl : k = ts.length := by omega
          have hout : textSt ts = st := by have := HST.out; rwa [List.take_length] at this
          have HOUT := Lib.hid hout
          have HBW : Hid (Below w.heap.size w wr) := HB1.out.trans (HBU.out.below.mono HB1.out.size)
          have hlen2 : st.out.length ≤ 140737488355328 := by
            have := hs3; rw [List.take_length] at this; omega
          have HLN : Hid (∀ w', Lib.IsBuilder 51 5 w1.heap.size w1.heap.size (Lib.byteCells st.out) w' → Calls Tryd.prog 34 #[.pointer (some ⟨w1.heap.size, 0, none⟩)] w' fun e w'' => e = .returned (.int .i64 st.out.length) ∧ w'' = w') := fun w' hb => by
            have := Tryd.Builder_Len w1.heap.size w1.heap.size _ w' hb
            rwa [Lib.byteCells_length] at this
          by_cases hbg : 20000 < st.out.length
          · have HR3 : Hid (r = ([], 6)) := by unfold Hid; rw [HRR.out, HOUT.out, if_pos hbg]
            clear hout
            go_wp2_with (go_at_call 34; refine (HLN.out _ HBU.out.b).mono ?_; rintro e w2 ⟨rfl, rfl⟩)
            go_ret2
            rw [HR3.out]
            exact ⟨rfl, HBW.out⟩
          · have HR3 : Hid (r = (st.out, 0)) := by unfold Hid; rw [HRR.out, HOUT.out, if_neg hbg]
            clear hout
            go_wp2_with (first
              | (go_at_call 34; refine (HLN.out _ HBU.out.b).mono ?_; rintro e w2 ⟨rfl, rfl⟩)
              | (go_at_call 35; refine (Tryd.Builder_String_any w1.heap.size w1.heap.size st.out _ HBU.out.b (Nat.le_of_lt HBU.out.lt)).mono ?_; rintro e w3 ⟨rfl, hb3⟩; have HB3 := Lib.hid (HBW.out.trans (hb3.mono HB1.out.size)); clear hb3))
            go_ret2
            rw [HR3.out]
            exact ⟨rfl, HB3.out⟩
  · have c1 : (q != 0) = true := by simp [hq0]
    have HRR : Hid (r = ([], q)) := by unfold Hid; rw [← HR.out, textF, HQ.out, if_pos hq0]
    clear hq0 hq
    go_enter Tryd.func16, Tryd.ntmps16
    go_wp2_with (go_at_call 14; refine (c_check ts _ _ HT.out).mono ?_; rw [HQ.out]; rintro e w1 ⟨rfl, hb1⟩; have HB1 := Lib.hid hb1; clear hb1)
    go_ret2
    rw [HRR.out]
    exact ⟨rfl, HB1.out⟩
end Go.Proofs.YtiabiflaecidoaaDoor
