/-
  The contracts of Mul, Gcd, Text, Parse of num, and of Mul, Gcd of simulatorref01.
-/
import Derived.Test.YtiabiflaecidoaaDoorW2
import Derived.Test.YtiabiflaecidoaaDoorShelf
import Derived.Test.YtiabiflaecidoaaDoorCm
import Derived.WalkSmall
namespace Go.Proofs.YtiabiflaecidoaaDoor
open Go.RowKit

theorem var_below {w w' : World} (hb : Below w.heap.size w w') {n : String} {cs : Array Value} (h : w.var? Tryd.prog n = some cs) : w'.var? Tryd.prog n = some cs := by
  unfold World.var? at h ⊢
  cases hg : Tryd.prog.globalNamed n with
  | none => simp [hg] at h
  | some g =>
    simp only [hg, Option.bind_some] at h ⊢
    have hlt : g < w.heap.size := by
      by_cases hh : g < w.heap.size
      · exact hh
      · rw [Array.getElem?_eq_none (by omega)] at h; cases h
    rw [hb.block g hlt]; exact h
theorem Laid.below {w w' : World} (hL : Laid w) (hb : Below w.heap.size w w') : Laid w' :=
  ⟨var_below hb hL.tab, hL.syn.imp fun _ h => h.imp fun _ h => var_below hb h, hL.ran.imp fun _ h => h.imp fun _ h => var_below hb h⟩

theorem below_grow (w : World) (k : Nat) (os : Array Obj) : Below w.heap.size w (Sort.grow (w.drewN k) os) :=
  ⟨rfl, rfl, rfl, by simp [Sort.grow, World.drewN], fun i hi => by show (w.heap ++ os)[i]? = _; rw [Array.getElem?_append_left hi]⟩
theorem below_bytes (w : World) (t : ByteArray) : Below w.heap.size w (Lib.bytesWorld w 5 t) := by
  refine ⟨rfl, rfl, rfl, ?_, fun i hi => ?_⟩
  · unfold Lib.bytesWorld World.freeze; split
    · show w.heap.size ≤ (w.heap.push _).size
      simp
    · show w.heap.size ≤ ((w.heap.push _).modify _ _).size
      simp
  · unfold Lib.bytesWorld World.freeze
    split
    · exact Below.heap_alloc _ _ _ hi
    · show ((w.drew.alloc _).heap.modify w.heap.size _)[i]? = _
      rw [Array.getElem?_modify, if_neg (by omega)]; exact Below.heap_alloc _ _ _ hi

theorem c_text (n : Int) (h0 : -9223372036854775808 ≤ n) (h1 : n ≤ 9223372036854775807) (w : World) (hL : Laid w) :
    Calls Tryd.prog 33 #[.int .i64 n] w fun e w' => e = .returned (.string ⟨(Lib.itoa n).toArray⟩) ∧ Below w.heap.size w w' := by
  have ht := hL.tab
  clear hL
  have HT := Lib.hid ht
  clear ht
  go_enter Tryd.func33, Tryd.ntmps33
  go_wp2_with fail
  refine (Tryd.strconv_Itoa n h0 h1 _ HT.out).mono ?_
  rintro e w' ⟨rfl, k, os, rfl⟩
  go_wp2
  go_ret
  exact ⟨rfl, below_grow w k os⟩

theorem gcd_step (a b : Nat) : Nat.gcd b (a % b) = Nat.gcd a b := by rw [Nat.gcd_comm a b, Nat.gcd_rec b a, Nat.gcd_comm]

end Go.Proofs.YtiabiflaecidoaaDoor
