import Derived.Test.YtleomfgijkapfaaGreatDoorRows
import Derived.WalkKit
import Derived.Handy
import Derived.Lib.Hide
import Derived.BigQuiet
import Derived.Deep.QuietTactic
import Derived.WalkSmall
import Derived.Lib.ItoaMem
import Derived.Lib.ItoaLen
import Derived.Lib.LaidTab
import Derived.Lib.ItoaNum
import Derived.Test.YtleomfgijkapfaaGreatDoorU6
set_option linter.all false
section
namespace Go.Proofs.YtleomfgijkapfaaGreatDoor.Num
open Go Go.RowKit
structure Laid (w:World):Prop where
 tab:Lib.TabIs Tryz.prog w "internal/strconv.uint64pow10" .u64 Lib.pow10Tab
theorem var_below {w w':World}(hb:Below w.heap.size w w'){n:String}{cs:Array Value}(h:w.var? Tryz.prog n=some cs):w'.var? Tryz.prog n=some cs:=by
 unfold World.var? at h ⊢
 cases hg:Tryz.prog.globalNamed n with
 | none=>simp [hg] at h
 | some g =>
  simp only [hg,Option.bind_some] at h ⊢
  have hlt:g < w.heap.size:=by
   by_cases hh:g < w.heap.size
   ·exact hh
   ·rw [Array.getElem?_eq_none (by omega)] at h; cases h
  rw [hb.block g hlt]; exact h
theorem below_grow (w:World)(k:Nat)(os:Array Obj):Below w.heap.size w (Sort.grow (w.drewN k) os) :=
 ⟨rfl,rfl,rfl,by simp [Sort.grow,World.drewN],fun i hi=>by show (w.heap ++ os)[i]? = _; rw [Array.getElem?_append_left hi]⟩
theorem c_text (n:Int)(h0:-9223372036854775808≤n)(h1:n≤9223372036854775807)(w:World)(hL:Laid w) :
  Calls Tryz.prog 40 #[.int .i64 n] w fun e w'=>e=.returned (.string ⟨(Lib.itoa n).toArray⟩)∧Below w.heap.size w w':=by
 have ht:=hL.tab
 clear hL
 have HT:=Lib.hid ht
 clear ht
 go_enter Tryz.func40,Tryz.ntmps40
 go_wp2_with fail
 refine (Tryz.strconv_Itoa n h0 h1 _ HT.out).mono ?_
 rintro e w' ⟨rfl,k,os,rfl⟩
 go_wp2
 go_ret
 exact ⟨rfl,below_grow w k os⟩
theorem Laid.below {w w':World}(hL:Laid w)(hb:Below w.heap.size w w'):Laid w':=⟨var_below hb hL.tab⟩
section
open Lib
theorem Gp (u:Nat)(h:u < 10):decDigits u=[UInt8.ofNat (48 + u)]:=by rw [decDigits,dif_pos h]
theorem OT (u:Nat)(h:¬ u < 10):decDigits u=decDigits (u / 10) ++ [UInt8.ofNat (48 + u % 10)]:=by rw [decDigits,dif_neg h]
theorem OW (n:Int)(h:0≤n):itoa n=decDigits n.natAbs:=by rw [itoa,if_neg (by omega),show n.toNat=n.natAbs from by omega]
theorem Le (n:Int)(h:n < 0):itoa n=45 :: decDigits n.natAbs:=by rw [itoa,if_pos h]
theorem ZkG (n:Int)(h:10≤n):itoa n=itoa (n / 10) ++ itoa (n % 10):=by
 rw [OW n (by omega),OW (n / 10) (by omega),OW (n % 10) (by omega),OT _ (by omega),Gp (n % 10).natAbs (by omega)]
 congr 2
 ·congr 1; omega
 ·congr 2; omega
theorem ZbS (n:Int)(h:n≤-10):itoa n=itoa (n.tdiv 10) ++ itoa (-(n.tmod 10)):=by
 have e:n=-(-n):=by omega
 have h1:n.tdiv 10=-((-n) / 10):=by rw [e,Int.neg_tdiv,Int.tdiv_eq_ediv_of_nonneg (by omega)]; omega
 have h2:n.tmod 10=-((-n) % 10):=by rw [e,Int.neg_tmod,Int.tmod_eq_emod_of_nonneg (by omega)]; omega
 rw [Le n (by omega),h1,h2,Le (-(-n / 10)) (by omega),OW (-(-(-n % 10))) (by omega),OT _ (by omega),Gp (-(-(-n % 10))).natAbs (by omega),List.cons_append]
 congr 3
 ·congr 1; omega
 ·congr 2; omega
theorem ZbR (n:Int)(h:n < 0):itoa n=45 :: itoa (-n):=by rw [Le n h,OW _ (by omega),show (-n).natAbs=n.natAbs from by omega]
end
theorem NT {a:ByteArray}{l:List UInt8}(h:a.data.toList=l):Ending.returned (.string a)=.returned (.string ⟨l.toArray⟩):=by
 subst h; cases a; simp
set_option maxHeartbeats 1000000 in
theorem c_rtext (k:Nat):∀ (n:Int) (w:World),2 * n.natAbs + (if n < 0 then 1 else 0)≤k→-9223372036854775808≤n→n≤9223372036854775807 →
  Calls Tryz.prog 92 #[.int .i64 n] w fun e w'=>e=.returned (.string ⟨(Lib.itoa n).toArray⟩)∧w=w':=by
 induction k with
 | zero =>
  intro n w hk _ _
  have h0:n=0:=by split at hk <;> omega
  subst h0
  go_enter Tryz.func92,Tryz.ntmps92
  go_wp2_with fail
  go_ret
  exact ⟨NT (by decide +kernel),rfl⟩
 | succ k ih =>
  intro n w hk hlo hhi
  have IH:=Lib.hid ih
  clear ih
  by_cases h1:10≤n
  ·have HE:=Lib.hid (ZkG n h1)
   have k1:2 * (n / 10).natAbs + (if n / 10 < 0 then 1 else 0)≤k:=by rw [if_neg (by omega)]; split at hk <;> omega
   have k2:2 * (n % 10).natAbs + (if n % 10 < 0 then 1 else 0)≤k:=by rw [if_neg (by omega)]; split at hk <;> omega
   have K1:=Lib.hid k1
   have K2:=Lib.hid k2
   have l1:=Lib.itoa_length_le (n / 10) (by omega) (by omega)
   have l2:=Lib.itoa_length_le (n % 10) (by omega) (by omega)
   clear hk k1 k2
   go_enter Tryz.func92,Tryz.ntmps92
   go_wp2_with fail
   refine (IH.out (n / 10) _ K1.out (by omega) (by omega)).mono ?_
   rintro e w' ⟨rfl,rfl⟩
   go_wp2_with fail
   refine (IH.out (n % 10) _ K2.out (by omega) (by omega)).mono ?_
   rintro e w' ⟨rfl,rfl⟩
   go_wp2
   go_ret
   exact ⟨NT (by rw [HE.out]; simp),rfl⟩
  ·by_cases h2:0≤n
   ·have:n=0∨n=1∨n=2∨n=3∨n=4∨n=5∨n=6∨n=7∨n=8∨n=9:=by omega
    clear IH hk hlo hhi h1 h2
    rcases this with rfl | rfl | rfl | rfl | rfl | rfl | rfl | rfl | rfl | rfl
    all_goals
     go_enter Tryz.func92,Tryz.ntmps92
     go_wp2
     go_ret
     exact ⟨NT (by decide +kernel),rfl⟩
   ·by_cases h3:-10 < n
    ·have HE:=Lib.hid (ZbR n (by omega))
     have k1:2 * (-n).natAbs + (if -n < 0 then 1 else 0)≤k:=by rw [if_neg (by omega)]; rw [if_pos (by omega)] at hk; omega
     have K1:=Lib.hid k1
     have l1:=Lib.itoa_length_le (-n) (by omega) (by omega)
     clear hk k1
     go_enter Tryz.func92,Tryz.ntmps92
     go_wp2_with fail
     refine (IH.out (-n) _ K1.out (by omega) (by omega)).mono ?_
     rintro e w' ⟨rfl,rfl⟩
     go_wp2
     go_ret
     exact ⟨NT (by rw [HE.out]; simp),rfl⟩
    ·have HE:=Lib.hid (ZbS n (by omega))
     have e1:n.tdiv 10=-((-n) / 10):=by
      have e:n=-(-n):=by omega
      rw [e,Int.neg_tdiv,Int.tdiv_eq_ediv_of_nonneg (by omega)]; omega
     have e2:n.tmod 10=-((-n) % 10):=by
      have e:n=-(-n):=by omega
      rw [e,Int.neg_tmod,Int.tmod_eq_emod_of_nonneg (by omega)]; omega
     have k1:2 * (n.tdiv 10).natAbs + (if n.tdiv 10 < 0 then 1 else 0)≤k:=by rw [if_pos (by omega)] at hk; split <;> omega
     have k2:2 * (-(n.tmod 10)).natAbs + (if -(n.tmod 10) < 0 then 1 else 0)≤k:=by rw [if_pos (by omega)] at hk; split <;> omega
     have K1:=Lib.hid k1
     have K2:=Lib.hid k2
     have b1:-922337203685477581≤n.tdiv 10∧n.tdiv 10≤0:=by omega
     have b2:-9≤n.tmod 10∧n.tmod 10≤0:=by omega
     have l1:=Lib.itoa_length_le (n.tdiv 10) (by omega) (by omega)
     have l2:=Lib.itoa_length_le (-(n.tmod 10)) (by omega) (by omega)
     clear hk k1 k2 e1 e2
     go_enter Tryz.func92,Tryz.ntmps92
     go_wp2_with fail
     refine (IH.out (n.tdiv 10) _ K1.out (by omega) (by omega)).mono ?_
     rintro e w' ⟨rfl,rfl⟩
     go_wp2_with fail
     refine (IH.out (-(n.tmod 10)) _ K2.out (by omega) (by omega)).mono ?_
     rintro e w' ⟨rfl,rfl⟩
     go_wp2
     go_ret
     exact ⟨NT (by rw [HE.out]; simp),rfl⟩
end Go.Proofs.YtleomfgijkapfaaGreatDoor.Num
end
