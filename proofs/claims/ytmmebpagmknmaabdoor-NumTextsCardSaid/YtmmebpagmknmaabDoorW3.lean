/-
  The contracts of Mul, Gcd, Text, Parse of num, and of Mul, Gcd of simulatorref01.
-/
import Derived.Test.YtmmebpagmknmaabDoorW2
import Derived.Test.YtmmebpagmknmaabDoorShelf
import Derived.Test.YtmmebpagmknmaabDoorCm
import Derived.WalkSmall
namespace Go.Proofs.YtmmebpagmknmaabDoor
open Go.RowKit

theorem var_below {w w' : World} (hb : Below w.heap.size w w') {n : String} {cs : Array Value} (h : w.var? Tryd.prog n = some cs) : w'.var? Tryd.prog n = some cs := by
  unfold World.var? at h ⊢
  cases hg : Tryd.prog.globalNamed n with
  | none => simp [hg] at h
  | some g =>
    simp only [hg, Option.bind_some] at h ⊢
    have hlt : g < w.heap.size := by
      by_cases hh : g < w.heap.size
      · exact hh
      · rw [Array.getElem?_eq_none (by omega)] at h; cases h
    rw [hb.block g hlt]; exact h
theorem Laid.below {w w' : World} (hL : Laid w) (hb : Below w.heap.size w w') : Laid w' :=
  ⟨var_below hb hL.tab, hL.syn.imp fun _ h => h.imp fun _ h => var_below hb h, hL.ran.imp fun _ h => h.imp fun _ h => var_below hb h⟩

theorem below_grow (w : World) (k : Nat) (os : Array Obj) : Below w.heap.size w (Sort.grow (w.drewN k) os) :=
  ⟨rfl, rfl, rfl, by simp [Sort.grow, World.drewN], fun i hi => by show (w.heap ++ os)[i]? = _; rw [Array.getElem?_append_left hi]⟩
theorem below_bytes (w : World) (t : ByteArray) : Below w.heap.size w (Lib.bytesWorld w 5 t) := by
  refine ⟨rfl, rfl, rfl, ?_, fun i hi => ?_⟩
  · unfold Lib.bytesWorld World.freeze; split
    · show w.heap.size ≤ (w.heap.push _).size
      simp
    · show w.heap.size ≤ ((w.heap.push _).modify _ _).size
      simp
  · unfold Lib.bytesWorld World.freeze
    split
    · exact Below.heap_alloc _ _ _ hi
    · show ((w.drew.alloc _).heap.modify w.heap.size _)[i]? = _
      rw [Array.getElem?_modify, if_neg (by omega)]; exact Below.heap_alloc _ _ _ hi

theorem c_text (n : Int) (h0 : -9223372036854775808 ≤ n) (h1 : n ≤ 9223372036854775807) (w : World) (hL : Laid w) :
    Calls Tryd.prog 5 #[.int .i64 n] w fun e w' => e = .returned (.string ⟨(Lib.itoa n).toArray⟩) ∧ Below w.heap.size w w' := by
  have ht := hL.tab
  clear hL
  have HT := Lib.hid ht
  clear ht
  go_enter Tryd.func5, Tryd.ntmps5
  go_wp2_with fail
  refine (Tryd.strconv_Itoa n h0 h1 _ HT.out).mono ?_
  rintro e w' ⟨rfl, k, os, rfl⟩
  go_wp2
  go_ret
  exact ⟨rfl, below_grow w k os⟩

theorem gcd_step (a b : Nat) : Nat.gcd b (a % b) = Nat.gcd a b := by rw [Nat.gcd_comm a b, Nat.gcd_rec b a, Nat.gcd_comm]

set_option maxHeartbeats 400000 in
theorem c_gcd (a b : Int) (w : World) :
    Calls Tryd.prog 17 #[.int .i64 a, .int .i64 b] w fun e w' => e = .returned (.int .i64 (gcdI a b)) ∧ Below w.heap.size w w' := by
  have ha := clip_bd a
  have hb := clip_bd b
  unfold gcdI
  obtain ⟨x0, hx0⟩ : ∃ x0, (clip a).natAbs = x0 := ⟨_, rfl⟩
  obtain ⟨y0, hy0⟩ : ∃ y0, (clip b).natAbs = y0 := ⟨_, rfl⟩
  rw [hx0, hy0]
  have E1 : Hid (absI (clip a) = x0) := (absI_nat (clip a)).trans (by rw [hx0])
  have E2 : Hid (absI (clip b) = y0) := (absI_nat (clip b)).trans (by rw [hy0])
  have hx1 : x0 ≤ 1000000000000 := by omega
  have hy1 : y0 ≤ 1000000000000 := by omega
  clear hx0 hy0
  go_enter Tryd.func17, Tryd.ntmps17
  go_wp2_with (first | (go_at_call 19; refine (c_clip _ _).mono ?_; rintro e w' ⟨rfl, rfl⟩) | (go_at_call 25; refine (c_size _ (by omega) (by omega) _).mono ?_; (first | rw [E1.out] | rw [E2.out]); rintro e w' ⟨rfl, rfl⟩))
  clear E1 E2 ha hb
  go_loopw [0, 1] (fun av bv wr => ∃ x y : Nat, av = .int .i64 x ∧ bv = .int .i64 y ∧ x ≤ 1000000000000 ∧ y ≤ 1000000000000 ∧ Hid (Nat.gcd x y = Nat.gcd x0 y0) ∧ Below w.heap.size w wr) (fun _ bv _ => (intOf bv).toNat)
  case atStart => exact ⟨x0, y0, rfl, rfl, by omega, by omega, rfl, Below.refl _ _⟩
  case round =>
    obtain ⟨x, y, rfl, rfl, hx, hy, HG, hB⟩ := hrel
    clear hx1 hy1
    by_cases h0 : y = 0
    · obtain rfl : y = 0 := h0
      go_wp2
      go_ret
      exact ⟨ret_int (by rw [← HG.out, Nat.gcd_zero_right]), hB⟩
    · have hy1 : 1 ≤ y := by omega
      have hn : ((y : Int) != 0) = true := by rw [bne_iff_ne]; omega
      have hm : x % y < y := Nat.mod_lt _ (by omega)
      clear h0
      go_wp2
      go_quiet (fail)
      go_roundw
      case rel =>
        refine ⟨_, _, _, _, _, _, _, _, ⟨y, x % y, ?_, ?_, by omega, by omega, ?_, hB.trans ⟨rfl, rfl, rfl, Nat.le_refl _, fun _ _ => rfl⟩⟩, rfl⟩
        · rfl
        · go_num
        · unfold Hid; rw [gcd_step]; exact HG.out
      case measure => simp [intOf]; omega

end Go.Proofs.YtmmebpagmknmaabDoor
