/-
  The contract of num.Parse.
-/
import Derived.Test.YtiabiflaecidoaaDoorW3
namespace Go.Proofs.YtiabiflaecidoaaDoor
open Go.RowKit

/-- what Parse returns for a text -/
def parseI (l : List UInt8) : Int × Bool :=
  match Lib.atoiAll l with
  | .ok n => if inB n && (Lib.itoa n == l) then (n, true) else (0, false)
  | _ => (0, false)

/-- strconv.Atoi, whichever way it ends: the number and no error, or some number and an error. -/
theorem c_atoi (s : ByteArray) (hs : s.size ≤ 281474976710656) (w : World) (hL : Laid w) :
    Calls Tryd.prog 52 #[.string s] w fun e w' => ((∃ n, Lib.atoiAll s.data.toList = .ok n ∧ -9223372036854775808 ≤ n ∧ n ≤ 9223372036854775807 ∧ e = .returned (.tuple #[.int .i64 n, .nilIface])) ∨
      (parseI s.data.toList = (0, false) ∧ ∃ (n : Int) (t : TypeId) (v : Value), e = .returned (.tuple #[.int .i64 n, .iface t v]))) ∧ Below w.heap.size w w' := by
  obtain ⟨tp, p, h1⟩ := hL.syn
  obtain ⟨tp2, p2, h2⟩ := hL.ran
  cases h : Lib.atoiAll s.data.toList
  case ok n =>
    refine (Tryd.strconv_Atoi_ok s (by omega) n h w).mono ?_
    rintro e w' ⟨rfl, hw⟩
    have hb := Lib.atoiAll_bounds h
    refine ⟨.inl ⟨n, rfl, hb.1, hb.2, rfl⟩, ?_⟩
    rcases hw with rfl | ⟨t, rfl⟩
    · exact Below.refl _ _
    · exact below_bytes w t
  case range =>
    refine (Tryd.strconv_Atoi_range_var s hs h tp2 p2 w h2).mono ?_
    rintro e w' ⟨N, rfl, _, _, hb⟩
    exact ⟨.inr ⟨by simp [parseI, h], _, _, _, rfl⟩, hb⟩
  all_goals
    refine (Any.strconv_Atoi_syntax_var Tryd.laysC172 s hs h tp p w h1).mono ?_
    rintro e w' ⟨N, rfl, _, _, hb⟩
    exact ⟨.inr ⟨by simp [parseI, h], _, _, _, rfl⟩, hb⟩

theorem ret2 {r : Int × Bool} {a : Int} {b : Bool} (h : r = (a, b)) : Ending.returned (.tuple #[.int .i64 a, .bool b]) = .returned (.tuple #[.int .i64 r.1, .bool r.2]) := by rw [h]
set_option maxHeartbeats 400000 in
theorem c_parse (s : ByteArray) (hs : s.size ≤ 281474976710656) (w : World) (hL : Laid w) :
    Calls Tryd.prog 37 #[.string s] w fun e w' => e = .returned (.tuple #[.int .i64 (parseI s.data.toList).1, .bool (parseI s.data.toList).2]) ∧ Below w.heap.size w w' := by
  have HL := Lib.hid hL
  clear hL
  obtain ⟨r, hr⟩ : ∃ r, parseI s.data.toList = r := ⟨_, rfl⟩
  rw [hr]
  have HR := Lib.hid hr
  clear hr
  go_enter Tryd.func37, Tryd.ntmps37
  go_wp2_with fail
  refine (c_atoi s hs _ HL.out).mono ?_
  rintro e w1 ⟨h, hb⟩
  rcases h with ⟨n, hn, h1, h2, rfl⟩ | ⟨hp, n, t, v, rfl⟩
  · have HN := Lib.hid hn
    clear hn
    have HL1 := Lib.hid (HL.out.below hb)
    by_cases hi : inB n = true
    · by_cases ht : (Lib.itoa n == s.data.toList) = true
      · have hq : (Lib.itoa n == s.toList) = true := by rw [← Lib.toList_data] at ht; exact ht
        have hres : Hid (r = (n, true)) := by unfold Hid; rw [← HR.out, parseI, HN.out]; simp [hi, ht]
        clear ht
        go_wp2_with (first | (go_at_call 53; refine (c_in _ _).mono ?_; rintro e w' ⟨rfl, rfl⟩) | (go_at_call 33; refine (c_text _ h1 h2 _ HL1.out).mono ?_; rintro e w2 ⟨rfl, hb2⟩))
        go_ret2
        exact ⟨ret2 hres.out, hb.trans (hb2.mono hb.size)⟩
      · have hq : (Lib.itoa n == s.toList) = false := by rw [← Lib.toList_data] at ht; simpa using ht
        have hres : Hid (r = (0, false)) := by unfold Hid; rw [← HR.out, parseI, HN.out]; simp [hi, ht]
        clear ht
        go_wp2_with (first | (go_at_call 53; refine (c_in _ _).mono ?_; rintro e w' ⟨rfl, rfl⟩) | (go_at_call 33; refine (c_text _ h1 h2 _ HL1.out).mono ?_; rintro e w2 ⟨rfl, hb2⟩))
        go_ret2
        exact ⟨ret2 hres.out, hb.trans (hb2.mono hb.size)⟩
    · have hi' : inB n = false := by simpa using hi
      have hres : Hid (r = (0, false)) := by unfold Hid; rw [← HR.out, parseI, HN.out]; simp [hi]
      clear hi
      go_wp2_with (first | (go_at_call 53; refine (c_in _ _).mono ?_; rintro e w' ⟨rfl, rfl⟩) | (go_at_call 33; refine (c_text _ h1 h2 _ HL1.out).mono ?_; rintro e w2 ⟨rfl, hb2⟩))
      go_ret2
      exact ⟨ret2 hres.out, hb⟩
  · have hres : Hid (r = (0, false)) := by unfold Hid; rw [← HR.out, hp]
    clear hp
    go_wp2
    go_ret2
    exact ⟨ret2 hres.out, hb⟩
end Go.Proofs.YtiabiflaecidoaaDoor
