import Derived.Test.YtcfjcimhjmpkiaaGreatDoorHTb17
set_option linter.all false
section
namespace Go.Proofs.YtcfjcimhjmpkiaaGreatDoor
open Go Go.Proofs.YtcfjcimhjmpkiaaGreatDoor.Abs Go.Proofs.YtcfjcimhjmpkiaaGreatDoor.Tl
set_option maxRecDepth 100000
theorem ZP {α β:Type}(a:α)(f:α→Option β):bT (some a) f=f a:=by
 have h:bT (some a) f=f a:=rfl
 exact h
theorem YR {α:Type}(l:List α){i:Nat}(hi:i≤l.length):(i=l.length∧l.drop i=[])∨∃ c,Z9 l (i:Int)=some c∧l.drop i=c :: l.drop (i + 1)∧i < l.length:=by
 rcases Nat.lt_or_ge i l.length with h | h
 ·exact .inr ⟨l[i],by rw [Vz]; exact List.getElem?_eq_getElem h,List.drop_eq_getElem_cons h,h⟩
 ·exact .inl ⟨by omega,List.drop_eq_nil_of_le h⟩
theorem La {α:Type}{l:List α}{i:Nat}(h:i < l.length):decide ((i:Int) < (l.length:Int))=true:=decide_eq_true (by omega)
theorem MZ {α:Type}(l:List α):decide ((l.length:Int) < (l.length:Int))=false:=decide_eq_false (by omega)
theorem YG {i:Nat}(h:i≤4611686018427387904):Go.IntKind.i64.wrap ((i:Int) + 1)=((i + 1:Nat):Int):=by
 rw [wrap_in (by omega) (by omega)]; omega
def Yh {α:Type}(f:α→Int):List α→Int
 | []=>0
 | x :: l=>if f x≠0 then f x else Yh f l
def okB (c:UInt8):Bool:=decide (32≤c.toNat) && decide (c.toNat≤126)
def Qm (s:List UInt8):Int:=if 40 < s.length then 6 else if s.all okB=true then 0 else 3
def Uk (n:Nat)(r:List (List UInt8)):Int:=if r.length < 1∨20 < r.length∨r.length≠n then 8 else Yh Qm r
def Um (l:List (List (List UInt8))):Int:=if 500 < l.length then 6 else Yh (Uk (l.headD []).length) l
theorem Ia {x:List UInt8}{i:Nat}{c:UInt8}(g:Z9 x (i:Int)=some c)(hl:i < x.length)(hx:x.length≤1000)(self:Int×PUnit→Option Int) :
  ZL x self ((i:Int),())=if okB c=true then self (((i + 1:Nat):Int),()) else some 3:=by
 unfold ZL okB
 dsimp only
 rw [La hl,cond_true,g,ZP,ZP,YG (by omega)]
 by_cases h1:c.toNat < 32
 ·rw [decide_eq_true (show (c.toNat:Int) < 32 by omega),decide_eq_false (show ¬ 32≤c.toNat by omega)]; rfl
 ·rw [decide_eq_false (show ¬ (c.toNat:Int) < 32 by omega),decide_eq_true (show 32≤c.toNat by omega),show (false == false)=true from rfl,cond_true,ZP,Bool.true_and]
  by_cases h2:c.toNat≤126
  ·rw [decide_eq_false (show ¬ (c.toNat:Int) > 126 by omega),decide_eq_true h2,cond_false,if_pos rfl]
  ·rw [decide_eq_true (show (c.toNat:Int) > 126 by omega),decide_eq_false h2,cond_true]; rfl
theorem IB (x:List UInt8)(self:Int×PUnit→Option Int):ZL x self ((x.length:Int),())=some 0:=by
 unfold ZL
 dsimp only
 rw [MZ,cond_false]
theorem U6 {x:List UInt8}(hx:x.length≤1000):∀ (m i:Nat),i≤x.length→x.length - i < m→Zj (ZL x) m ((i:Int),())=some (if (x.drop i).all okB=true then 0 else 3)
 | 0,i,h,hm=>absurd hm (by omega)
 | m + 1,i,h,hm=>by
  rw [Zj]
  rcases YR x h with ⟨rfl,hd⟩ | ⟨c,g,hd,hl⟩
  ·rw [IB,hd]; rfl
  ·rw [Ia g hl hx,hd,List.all_cons,U6 hx m (i + 1) hl (by omega)]
   cases okB c <;> simp
theorem IA {L:Nat}(hL:1000≤L)(x:List UInt8):Yw L (x,())=some (Qm x):=by
 rw [X9]
 unfold Qm
 by_cases h:40 < x.length
 ·rw [decide_eq_true (by omega),cond_true,if_pos h]
 ·rw [decide_eq_false (by omega),cond_false,if_neg h]
  have:=U6 (x := x) (by omega) L 0 (by omega) (by omega)
  rw [List.drop_zero] at this
  exact this
theorem Me {L:Nat}(hL:1000≤L)(x:List UInt8):WA L (x,())=some (Qm x):=by
 rw [← IA hL x,Ii,X9]; rfl
theorem TU {e:Int}(h:e≠0):(e != 0)=true:=by simp [h]
theorem Rx:((0:Int) != 0)=false:=rfl
theorem Ho {L:Nat}(hL:1000≤L){y:List (List UInt8)}(hy:y.length≤20){a:Int}{i:Nat}(hi:i≤1000)(self:Int×Int×PUnit→Option Int):∀ (m k:Nat),k≤y.length→y.length - k < m →
  Zj (Yt L self (a,(i:Int),()) y) m (a,(k:Int),())=if Yh Qm (y.drop k)≠0 then some (Yh Qm (y.drop k)) else self (a,((i + 1:Nat):Int),())
 | 0,k,h,hm=>absurd hm (by omega)
 | m + 1,k,h,hm=>by
  rw [Zj]
  have hr:∀ s1,Yt L self (a,(i:Int),()) y s1 (a,(k:Int),())=bif decide ((k:Int) < (y.length:Int)) then bT (Z9 y (k:Int)) fun z=>bT (Yw L (z,())) fun w=>bif w != 0 then some w else s1 (a,Go.IntKind.i64.wrap ((k:Int) + 1),()) else self (a,Go.IntKind.i64.wrap ((i:Int) + 1),()):=fun s1=>rfl
  rw [hr]
  rcases YR y h with ⟨rfl,hd⟩ | ⟨c,g,hd,hl⟩
  ·rw [MZ,cond_false,hd,YG (by omega)]; rfl
  ·rw [La hl,cond_true,g,ZP,IA hL,ZP,hd,Yh,YG (by omega)]
   by_cases h0:Qm c=0
   ·rw [h0,Rx,cond_false,Ho hL hy hi self m (k + 1) hl (by omega)]
    simp
   ·rw [TU h0,cond_true,if_pos h0,if_pos h0]
theorem JQ {α:Type}(l:List (List α)){i:Nat}(hi:i < l.length):Z9 l 0=some (l.headD []):=by
 cases l with
 | nil=>cases hi
 | cons a l=>rfl
theorem Jr {L:Nat}(hL:1000≤L){x:List (List (List UInt8))}(hx:x.length≤500){a:Int}:∀ (m i:Nat),i≤x.length→x.length - i < m→Zj (Yu x L) m (a,(i:Int),())=some (Yh (Uk (x.headD []).length) (x.drop i))
 | 0,i,h,hm=>absurd hm (by omega)
 | m + 1,i,h,hm=>by
  rw [Zj]
  have hr:∀ self,Yu x L self (a,(i:Int),())=bif decide ((i:Int) < (x.length:Int)) then bT (Z9 x (i:Int)) fun y=>bT (bif (decide ((y.length:Int) < 1) || decide ((y.length:Int) > 20)) == false then bT (Z9 x 0) fun y_1=>some ((y.length:Int) != (y_1.length:Int)) else some true) fun y_1=>bif y_1 then some 8 else Zj (Yt L self (a,(i:Int),()) y) L (a,0,()) else some 0:=fun self=>rfl
  rw [hr]
  rcases YR x h with ⟨rfl,hd⟩ | ⟨c,g,hd,hl⟩
  ·rw [MZ,cond_false,hd]; rfl
  ·rw [La hl,cond_true,g,ZP,JQ x hl,hd,Yh,ZP]
   by_cases h1:c.length < 1∨20 < c.length
   ·have e1:(decide ((c.length:Int) < 1) || decide ((c.length:Int) > 20))=true:=by simp only [Bool.or_eq_true,decide_eq_true_eq]; omega
    have e2:Uk (x.headD []).length c=8:=by unfold Uk; rw [if_pos (by omega)]
    rw [e1,show (true == false)=false from rfl,cond_false,ZP,cond_true,e2]; rfl
   ·have e1:(decide ((c.length:Int) < 1) || decide ((c.length:Int) > 20))=false:=by rw [decide_eq_false (by omega),decide_eq_false (by omega)]; rfl
    rw [e1,show (false == false)=true from rfl,cond_true,ZP]
    by_cases h2:c.length=(x.headD []).length
    ·have e2:((c.length:Int) != ((x.headD []).length:Int))=false:=by rw [h2]; simp
     have e3:Uk (x.headD []).length c=Yh Qm c:=by unfold Uk; rw [if_neg (by omega)]
     have e4:=Ho hL (y := c) (by omega) (a := a) (i := i) (by omega) (Zj (Yu x L) m) L 0 (by omega) (by omega)
     rw [List.drop_zero] at e4
     rw [e2,cond_false,e3]
     refine e4.trans ?_
     rw [Jr hL hx m (i + 1) hl (by omega)]
     by_cases h0:Yh Qm c=0
     ·rw [h0]; simp
     ·rw [if_pos h0,if_pos h0]
    ·have e2:((c.length:Int) != ((x.headD []).length:Int))=true:=by rw [bne_iff_ne]; omega
     have e3:Uk (x.headD []).length c=8:=by unfold Uk; rw [if_pos (by omega)]
     rw [e2,cond_true,e3]; rfl
theorem Tt {L:Nat}(hL:1000≤L)(x:List (List (List UInt8))):Wl L (x,())=some (Um x):=by
 rw [Jk]
 unfold Um
 by_cases h:500 < x.length
 ·rw [decide_eq_true (by omega),cond_true,if_pos h]
 ·rw [decide_eq_false (by omega),cond_false,if_neg h]
  have:=Jr hL (x := x) (by omega) (a := 0) L 0 (by omega) (by omega)
  rw [List.drop_zero] at this
  exact this
theorem UN {L:Nat}(hL:1000≤L){x:List (List (List UInt8))}{y:List (List UInt8)}(hy:y.length≤20){a:Int}{i:Nat}(hi:i≤1000)(gi:Z9 x (i:Int)=some y)(self:Int×Int×PUnit→Option Int):∀ (m k:Nat),k≤y.length→y.length - k < m →
  Zj (YW x L self (a,(i:Int),())) m (a,(k:Int),())=if Yh Qm (y.drop k)≠0 then some (Yh Qm (y.drop k)) else self (a,((i + 1:Nat):Int),())
 | 0,k,h,hm=>absurd hm (by omega)
 | m + 1,k,h,hm=>by
  rw [Zj]
  have hr:∀ s1,YW x L self (a,(i:Int),()) s1 (a,(k:Int),())=bT (Z9 x (i:Int)) fun y=>bif decide ((k:Int) < (y.length:Int)) then bT (Z9 x (i:Int)) fun y=>bT (Z9 y (k:Int)) fun z=>bT (WA L (z,())) fun w=>bif w != 0 then some w else s1 (a,Go.IntKind.i64.wrap ((k:Int) + 1),()) else self (a,Go.IntKind.i64.wrap ((i:Int) + 1),()):=fun s1=>rfl
  rw [hr,gi,ZP]
  rcases YR y h with ⟨rfl,hd⟩ | ⟨c,g,hd,hl⟩
  ·rw [MZ,cond_false,hd,YG (by omega)]; rfl
  ·rw [La hl,cond_true,ZP,g,ZP,Me hL,ZP,hd,Yh,YG (by omega)]
   by_cases h0:Qm c=0
   ·rw [h0,Rx,cond_false,UN hL hy hi gi self m (k + 1) hl (by omega)]
    simp
   ·rw [TU h0,cond_true,if_pos h0,if_pos h0]
theorem VC {L:Nat}(hL:1000≤L){x:List (List (List UInt8))}(hx:x.length≤500){a:Int}:∀ (m i:Nat),i≤x.length→x.length - i < m→Zj (YX x L) m (a,(i:Int),())=some (Yh (Uk (x.headD []).length) (x.drop i))
 | 0,i,h,hm=>absurd hm (by omega)
 | m + 1,i,h,hm=>by
  rw [Zj]
  have hr:∀ self,YX x L self (a,(i:Int),())=bif decide ((i:Int) < (x.length:Int)) then bT (Z9 x (i:Int)) fun y=>bT (bif decide ((y.length:Int) < 1) == false then bT (Z9 x (i:Int)) fun y=>some (decide ((y.length:Int) > 20)) else some true) fun y=>bT (bif y == false then bT (Z9 x (i:Int)) fun y=>bT (Z9 x 0) fun y_1=>some ((y.length:Int) != (y_1.length:Int)) else some true) fun y=>bif y then some 8 else Zj (YW x L self (a,(i:Int),())) L (a,0,()) else some 0:=fun self=>rfl
  rw [hr]
  rcases YR x h with ⟨rfl,hd⟩ | ⟨c,g,hd,hl⟩
  ·rw [MZ,cond_false,hd]; rfl
  ·rw [La hl,cond_true,g,JQ x hl,hd,Yh,ZP,ZP]
   by_cases h1:c.length < 1
   ·have e2:Uk (x.headD []).length c=8:=by unfold Uk; rw [if_pos (by omega)]
    rw [decide_eq_true (show (c.length:Int) < 1 by omega),show (true == false)=false from rfl,cond_false,ZP,show (true == false)=false from rfl,cond_false,ZP,cond_true,e2]; rfl
   rw [decide_eq_false (show ¬ (c.length:Int) < 1 by omega),show (false == false)=true from rfl,cond_true,ZP,ZP]
   by_cases h3:20 < c.length
   ·have e2:Uk (x.headD []).length c=8:=by unfold Uk; rw [if_pos (by omega)]
    rw [decide_eq_true (show (c.length:Int) > 20 by omega),show (true == false)=false from rfl,cond_false,ZP,cond_true,e2]; rfl
   rw [decide_eq_false (show ¬ (c.length:Int) > 20 by omega),show (false == false)=true from rfl,cond_true,ZP,ZP]
   by_cases h2:c.length=(x.headD []).length
   ·have e2:((c.length:Int) != ((x.headD []).length:Int))=false:=by rw [h2]; simp
    have e3:Uk (x.headD []).length c=Yh Qm c:=by unfold Uk; rw [if_neg (by omega)]
    have e4:=UN hL (y := c) (by omega) (a := a) (i := i) (by omega) g (Zj (YX x L) m) L 0 (by omega) (by omega)
    rw [List.drop_zero] at e4
    rw [e2,cond_false,e3]
    refine e4.trans ?_
    rw [VC hL hx m (i + 1) hl (by omega)]
    by_cases h0:Yh Qm c=0
    ·rw [h0]; simp
    ·rw [if_pos h0,if_pos h0]
   ·have e2:((c.length:Int) != ((x.headD []).length:Int))=true:=by rw [bne_iff_ne]; omega
    have e3:Uk (x.headD []).length c=8:=by unfold Uk; rw [if_pos (by omega)]
    rw [e2,cond_true,e3]; rfl
theorem O7 {L:Nat}(hL:1000≤L)(x:List (List (List UInt8))):WJ L (x,())=some (Um x):=by
 rw [KY]
 unfold Um
 by_cases h:500 < x.length
 ·rw [decide_eq_true (by omega),cond_true,if_pos h]
 ·rw [decide_eq_false (by omega),cond_false,if_neg h]
  have:=VC hL (x := x) (by omega) (a := 0) L 0 (by omega) (by omega)
  rw [List.drop_zero] at this
  exact this
end Go.Proofs.YtcfjcimhjmpkiaaGreatDoor
end
section
namespace Go.Proofs.YtcfjcimhjmpkiaaGreatDoor
open Go Go.Proofs.YtcfjcimhjmpkiaaGreatDoor.Abs Go.Proofs.YtcfjcimhjmpkiaaGreatDoor.Tl
set_option maxRecDepth 100000
def ZX (s:List UInt8):List UInt8:=(s.reverse.dropWhile (· == 32)).reverse
theorem OT:ZX []=[]:=rfl
theorem Y1 (p:List UInt8)(c:UInt8):ZX (p ++ [c])=if c=32 then ZX p else p ++ [c]:=by
 unfold ZX
 rw [List.reverse_append,List.reverse_singleton,List.singleton_append,List.dropWhile_cons]
 by_cases h:c=32
 ·rw [if_pos (by simp [h]),if_pos h]
 ·rw [if_neg (by simp [h]),if_neg h,List.reverse_cons,List.reverse_reverse]
theorem Vo (s:List UInt8):(ZX s).length≤s.length:=by
 unfold ZX
 rw [List.length_reverse]
 have:=(List.dropWhile_sublist (fun c=>c == (32:UInt8)) (l := s.reverse)).length_le
 rw [List.length_reverse] at this
 exact this
theorem Qj {α:Type}(s:List α):s=[]∨∃ p c,s=p ++ [c]:=by
 rcases List.eq_nil_or_concat s with h | ⟨p,c,h⟩
 ·exact .inl h
 ·exact .inr ⟨p,c,by rw [h,List.concat_eq_append]⟩
theorem JK (c:UInt8)(n:Nat)(hn:n < 256):decide ((c.toNat:Int)=(n:Int))=decide (c=UInt8.ofNat n):=by
 rw [decide_eq_decide]
 constructor
 ·intro h
  have h1:c.toNat=n:=by omega
  rw [← h1,UInt8.ofNat_toNat]
 ·intro h
  rw [h,UInt8.toNat_ofNat']; omega
theorem UR (G:GT)(K:KT)(L:Nat)(hp0:HP):∀ (m:Nat) (s:List UInt8),s.length < m→s.length≤4611686018427387904→Zl G K L hp0 (Zk G K L hp0) m (.str s) (.str s) (.int .u8 32) hp0 none=some (.str (ZX s),hp0,none)
 | 0,s,h,_=>absurd h (Nat.not_lt_zero _)
 | m + 1,s,h,hb=>by
  rw [Zl]
  rcases Qj s with rfl | ⟨p,c,rfl⟩
  ·have e:decide ((0:Int) < (([]:List UInt8).length:Int))=false:=rfl
   simp only [EV,e,Zk,Bool.false_eq_true,if_false]
   rfl
  ·rw [List.length_append,List.length_singleton] at h hb
   have e1:decide ((0:Int) < ((p ++ [c]).length:Int))=true:=by rw [List.length_append,List.length_singleton]; exact decide_eq_true (by omega)
   have e2:Go.IntKind.i64.wrap (((p ++ [c]).length:Int) - 1)=(p.length:Int):=by rw [List.length_append,List.length_singleton,wrap_in (n := ((p.length + 1:Nat):Int) - 1) (by omega) (by omega)]; omega
   have e3:idxVal (.str (p ++ [c])) (.int .i64 (p.length:Int))=some (.int .u8 c.toNat):=by simp [idxVal]
   have e4:sliceVal .str (.str (p ++ [c])) none (some (.int .i64 (p.length:Int)))=some (.str p):=by
    have hlt:(p.length:Int)≤((p ++ [c]).length:Nat):=by rw [List.length_append]; omega
    simp only [sliceVal,bound]
    rw [if_pos ⟨Int.natCast_nonneg _,hlt⟩,Int.toNat_natCast]
    simp
   have e5:decide ((c.toNat:Int)=32)=decide (c=32):=JK c 32 (by omega)
   have ih:=UR G K L hp0 m p (by omega) (by omega)
   rw [Y1]
   by_cases hc:c=32
   ·simp only [EV,BL,e1,e2,e3,e4,e5,decide_eq_true hc,if_true,ih,if_pos hc]
   ·simp only [EV,BL,e1,e2,e3,e4,e5,decide_eq_false hc,Bool.false_eq_true,if_false,Zk,if_neg hc]
theorem D5 {C:Cfg}{L:Nat}(h:St C L)(n:Nat)(s:List UInt8)(hp:HP)(hs:s.length≤9000):evalCall C (n + 2) ZI [.str s,.str [32]] hp=some (.str (ZX s),hp,none):=by
 have hb:=h.big
 have e0:evalCall C (n + 1) Zu [.str s,.int .u8 32] hp=some (.str (ZX s),hp,none):=by
  refine Wj (by rw [← YL]; exact h.T _ _ (by kernel_rfl)) ?_
  exact UR C.G (evalCall C n) C.L hp C.L s (by omega) (by omega)
 refine Qe (by rw [← WE]; exact h.T _ _ (by kernel_rfl)) ?_
 have e1:decide (([32]:List UInt8)=[])=false:=rfl
 have e2:decide ((([32]:List UInt8).length:Int)=1)=true:=rfl
 have e3:idxVal (.str [32]) (.int .i64 0)=some (.int .u8 32):=rfl
 have e4:decide ((32:Int) < 128)=true:=rfl
 by_cases hn:s=[]
 ·subst hn
  have e5:decide (([]:List UInt8)=[])=true:=rfl
  simp only [ZK,EV,BL,e1,e2,e3,e4,e5,if_true]
  rfl
 ·simp only [ZK,EV,BL,e1,e2,e3,e4,decide_eq_false hn,if_true,Bool.false_eq_true,if_false,e0]
def N7 (a:Int)(n:Nat):Int:=if (n:Int) > a then (n:Int) else a
def widen:List Int→List (List UInt8)→Nat→List Int
 | u,[],_=>u
 | u,s :: r,i=>widen (u.set i (N7 (u.getD i 0) s.length)) r (i + 1)
def widens:List Int→List (List (List UInt8))→List Int
 | u,[]=>u
 | u,r :: l=>widens (widen u r 0) l
theorem UV:∀ (r:List (List UInt8)) (u:List Int) (i:Nat),(widen u r i).length=u.length
 | [],u,i=>rfl
 | s :: r,u,i=>by rw [widen,UV r,List.length_set]
abbrev WO (u:List Int):AObj:=.cells (u.map (.int .i64)) XP
abbrev MB (r:List (List UInt8)):AV:=.lst 1 (r.map fun s=>[AV.str s])
abbrev lv (l:List (List (List UInt8))):AV:=.lst 1 (l.map fun r=>[MB r])
theorem Lh {r:List (List UInt8)}{i:Nat}{s:List UInt8}(h:r[i]? = some s):iaVal (.slice 1) (MB r) (.int .i64 (i:Int))=some (.ref [.str s]):=by
 simp [iaVal,h]
theorem Lm {l:List (List (List UInt8))}{i:Nat}{r:List (List UInt8)}(h:l[i]? = some r):iaVal (.slice 1) (lv l) (.int .i64 (i:Int))=some (.ref [MB r]):=by
 simp [iaVal,h]
theorem MN (g i:Nat)(h:i < 20):iaVal (.arr 20 1) (.ptr g 0) (.int .i64 (i:Int))=some (.ptr g i):=by
 have h1:(i:Int) < 20:=by omega
 simp [iaVal,h1]
theorem PH (hq:HP)(u:List Int)(i:Nat)(hi:i < u.length)(v:Int)(bs:Nat)(hb:bs≤hq.length):stV bs 1 (.ptr hq.length i) (.int .i64 v) (hq ++ [WO u]) none=some (hq ++ [WO (u.set i v)],none):=by
 rw [stV_last bs 1 hq _ _ i (.int .i64 v) none rfl (by rw [List.length_map]; omega) rfl hb]
 congr 4
 show AObj.cells _ _=AObj.cells ((u.set i v).map (.int .i64)) XP
 rw [List.map_set]
 simp only [splice,AV.cells,List.length_singleton]
 rw [List.set_eq_take_append_cons_drop,if_pos (by simpa using hi),List.append_assoc]; rfl
theorem PX (hq:HP)(u:List Int){i:Nat}{w:Int}(h:u[i]? = some w)(J:HP):ldcVal (hq ++ [WO u] ++ J) (.ptr hq.length i)=some (.int .i64 w):=by
 have hg:(hq ++ [WO u] ++ J)[hq.length]? = some (WO u):=by rw [List.append_assoc,List.getElem?_append_right (Nat.le_refl _),Nat.sub_self]; rfl
 rw [ldc_get hg,List.getElem?_map,h]; rfl
theorem IU {α:Type}{l:List α}{i:Nat}(h:i < l.length):∃ x,l[i]? = some x∧l.drop i=x :: l.drop (i + 1):=⟨l[i],List.getElem?_eq_getElem h,List.drop_eq_getElem_cons h⟩
theorem Xb {u:List Int}{i:Nat}{w:Int}(h:u[i]? = some w):u.getD i 0=w:=by rw [List.getD_eq_getElem?_getD,h]; rfl
theorem BP (G:GT)(K:KT)(L:Nat)(hp0 hq:HP)(hh:hp0.length≤hq.length)(k2:AV→AV→AV→AV→AV→HP→Eff→KR)(x0 x21 x22 x23:AV){r:List (List UInt8)}(hr:r.length≤20):∀ (m i:Nat) (u:List Int),u.length=20→i≤r.length→r.length - i < m →
  Zw G K L hp0 k2 m x0 (.ptr hq.length 0) x21 x22 x23 (MB r) (.int .i64 r.length) (.int .i64 i) (hq ++ [WO u]) none=k2 x0 (.ptr hq.length 0) x21 x22 x23 (hq ++ [WO (widen u (r.drop i) i)]) none
 | 0,i,u,_,_,h=>absurd h (Nat.not_lt_zero _)
 | m + 1,i,u,hu,hi,hm=>by
  rw [Zw]
  rcases Nat.lt_or_ge i r.length with hlt | hge
  ·obtain ⟨s,hs,hd⟩:=IU hlt
   obtain ⟨w,hw⟩:∃ w,u[i]? = some w:=⟨_,List.getElem?_eq_getElem (by omega)⟩
   have e1:decide ((i:Int) < (r.length:Int))=true:=decide_eq_true (by omega)
   have e2:=PX hq u hw []
   rw [List.append_nil] at e2
   have e3:maxV [.int .i64 w,.int .i64 (s.length:Int)]=some (.int .i64 (N7 w s.length)):=by simp [maxV,maxL,N7]
   have e4:=PH hq u i (by omega) (N7 w s.length) hp0.length hh
   have e5:Go.IntKind.i64.wrap ((i:Int) + 1)=((i + 1:Nat):Int):=wrap_nat i (by omega)
   have ih:=BP G K L hp0 hq hh k2 x0 x21 x22 x23 hr m (i + 1) (u.set i (N7 w s.length)) (by rw [List.length_set]; exact hu) (by omega) (by omega)
   rw [hd,widen,Xb hw]
   simp only [EV,e1,Lh hs,MN _ i (show i < 20 by omega),e2,e3,e4,e5,if_true,ih]
  ·obtain rfl:i=r.length:=by omega
   rw [List.drop_eq_nil_of_le (Nat.le_refl _)]
   have e1:decide ((r.length:Int) < (r.length:Int))=false:=decide_eq_false (by omega)
   simp only [EV,e1,Bool.false_eq_true,if_false,widen]
theorem BO (G:GT)(K:KT)(L:Nat)(hL:1000≤L)(hp0 hq:HP)(hh:hp0.length≤hq.length)(k0:AV→AV→HP→Eff→KR){l:List (List (List UInt8))}(hl:l.length≤500)(hr:∀ r ∈ l,r.length≤20):∀ (m i:Nat) (u:List Int),u.length=20→i≤l.length→l.length - i < m →
  Zn G K L hp0 k0 m (lv l) (.ptr hq.length 0) (lv l) (.int .i64 l.length) (.int .i64 i) (hq ++ [WO u]) none=k0 (lv l) (.ptr hq.length 0) (hq ++ [WO (widens u (l.drop i))]) none
 | 0,i,u,_,_,h=>absurd h (Nat.not_lt_zero _)
 | m + 1,i,u,hu,hi,hm=>by
  rw [Zn]
  rcases Nat.lt_or_ge i l.length with hlt | hge
  ·obtain ⟨r,hs,hd⟩:=IU hlt
   have hr20:=hr r (List.mem_of_getElem? hs)
   have e1:decide ((i:Int) < (l.length:Int))=true:=decide_eq_true (by omega)
   have e5:Go.IntKind.i64.wrap ((i:Int) + 1)=((i + 1:Nat):Int):=wrap_nat i (by omega)
   have e6:((r.map fun s=>[AV.str s]).length:Int)=(r.length:Int):=by rw [List.length_map]
   have e7:=BP G K L hp0 hq hh (ZC G K L hp0 (Zn G K L hp0 k0 m)) (lv l) (lv l) (.int .i64 l.length) (.int .i64 i) hr20 L 0 u hu (by omega) (by omega)
   have ih:=BO G K L hL hp0 hq hh k0 hl hr m (i + 1) (widen u r 0) (by rw [UV]; exact hu) (by omega) (by omega)
   rw [List.drop_zero] at e7
   rw [hd,widens,← ih]
   have e8:ldcVal (hq ++ [WO u]) (.ref [MB r])=some (MB r):=rfl
   simp only [EV,e1,Lm hs,e6,if_true]
   refine e7.trans ?_
   simp only [ZC,EV,e5]
  ·obtain rfl:i=l.length:=by omega
   rw [List.drop_eq_nil_of_le (Nat.le_refl _)]
   have e1:decide ((l.length:Int) < (l.length:Int))=false:=decide_eq_false (by omega)
   simp only [EV,e1,Bool.false_eq_true,if_false,widens]
def ZM (u:List Int):List (List UInt8)→Nat→List UInt8
 | [],_=>[]
 | s :: r,k=>s ++ List.replicate (u.getD k 0 - (s.length:Int) + 1).toNat 32 ++ ZM u r (k + 1)
def Y9 (u:List Int):List (List (List UInt8))→List UInt8
 | []=>[]
 | r :: l=>ZX (ZM u r 0) ++ [10] ++ Y9 u l
def Fits (u:List Int)(r:List (List UInt8)):Prop:=∀ (j:Nat) (s:List UInt8),r[j]? = some s→∃ w,u[j]? = some w∧(s.length:Int)≤w∧w≤40
theorem J3 (c:UInt8):∀ n,Lib.repeatL [c] n=List.replicate n c
 | 0=>rfl
 | n + 1=>by
  have:=J3 c n
  simp only [Lib.repeatL] at this ⊢
  simp [List.replicate_succ,this]
theorem X7 {u:List Int}:∀ (r:List (List UInt8)) (k:Nat),(∀ j s,r[j]? = some s→∃ w,u[k + j]? = some w∧(s.length:Int)≤w∧w≤40)→(ZM u r k).length≤41 * r.length
 | [],k,_=>Nat.zero_le _
 | s :: r,k,h=>by
  obtain ⟨w,hw0,h1,h2⟩:=h 0 s rfl
  have hw:u[k]? = some w:=hw0
  have ih:=X7 (u := u) r (k + 1) fun j t ht=>by
   obtain ⟨w,h⟩:=h (j + 1) t (by simpa using ht)
   exact ⟨w,by rw [show k + 1 + j=k + (j + 1) by omega]; exact h.1,h.2⟩
  rw [ZM,List.length_append,List.length_append,List.length_replicate,Xb hw,List.length_cons]
  omega
theorem BR {C:Cfg}{L:Nat}(h:St C L)(n:Nat)(L':Nat)(hp0 hp:HP)(g:Nat){u:List Int}(hg:hp[g]? = some (WO u))(k6:AV→AV→AV→AV→AV→AV→HP→Eff→KR)(x10 x44 x45 x46:AV){r:List (List UInt8)}(hr:r.length≤20)(hf:Fits u r):∀ (m k:Nat) (line:List UInt8),k≤r.length→r.length - k < m→line.length≤41 * k →
  Zx C.G (evalCall C (n + 1)) L' hp0 k6 m (.ptr g 0) x10 (.str line) x44 x45 x46 (MB r) (.int .i64 r.length) (.int .i64 k) hp none=k6 (.ptr g 0) x10 (.str (line ++ ZM u (r.drop k) k)) x44 x45 x46 hp none
 | 0,k,_,_,h,_=>absurd h (Nat.not_lt_zero _)
 | m + 1,k,line,hk,hm,hlen=>by
  rw [Zx]
  rcases Nat.lt_or_ge k r.length with hlt | hge
  ·obtain ⟨s,hs,hd⟩:=IU hlt
   obtain ⟨w,hw,h1,h2⟩:=hf k s hs
   have e1:decide ((k:Int) < (r.length:Int))=true:=decide_eq_true (by omega)
   have e2:ldcVal hp (.ptr g k)=some (.int .i64 w):=by rw [ldc_get hg,List.getElem?_map,hw]; rfl
   have e3:Go.IntKind.i64.wrap (w - (s.length:Int))=w - (s.length:Int):=wrap_in (by omega) (by omega)
   have e4:Go.IntKind.i64.wrap (w - (s.length:Int) + 1)=w - (s.length:Int) + 1:=wrap_in (by omega) (by omega)
   have e5:Go.IntKind.i64.wrap ((k:Int) + 1)=((k + 1:Nat):Int):=wrap_nat k (by omega)
   have e6:evalCall C (n + 1) WL [.str [32],.int .i64 (w - (s.length:Int) + 1)] hp=some (.str (List.replicate (w - (s.length:Int) + 1).toNat 32),hp,none):=by
    rw [← J3]
    exact h.rep n [32] (w - (s.length:Int) + 1) hp (by omega) (by omega) (by rw [List.length_singleton]; omega)
   have hrl:(List.replicate (w - (s.length:Int) + 1).toNat (32:UInt8)).length≤41:=by rw [List.length_replicate]; omega
   have hsl:s.length + (List.replicate (w - (s.length:Int) + 1).toNat (32:UInt8)).length≤41:=by rw [List.length_replicate]; omega
   have ih:=BR h n L' hp0 hp g hg k6 x10 x44 x45 x46 hr hf m (k + 1) (line ++ (s ++ List.replicate (w - (s.length:Int) + 1).toNat 32)) (by omega) (by omega) (by rw [List.length_append,List.length_append]; omega)
   rw [hd,ZM,Xb hw]
   simp only [EV,e1,Lh hs,MN _ k (show k < 20 by omega),e2,e3,e4,if_true,e6]
   rw [s_add _ _ (show s.length + (List.replicate (w - (s.length:Int) + 1).toNat (32:UInt8)).length≤4611686018427387904 by omega),optK_s,s_add _ _ (by rw [List.length_append]; omega),optK_s]
   simp only [EV,e5]
   rw [ih]
   simp only [List.append_assoc]
  ·obtain rfl:k=r.length:=by omega
   rw [List.drop_eq_nil_of_le (Nat.le_refl _)]
   have e1:decide ((r.length:Int) < (r.length:Int))=false:=decide_eq_false (by omega)
   simp only [EV,e1,Bool.false_eq_true,if_false,ZM,List.append_nil]
def bO (t:List UInt8):AObj:=if t=[] then .cells [.nilp,.nils 1] 85 else .buf t 85 5 []
theorem PO {C:Cfg}{L:Nat}(h:St C L)(n p:Nat)(t s:List UInt8)(hp:HP)(hg:hp[p]? = some (bO t))(hs:s≠[])(hl:t.length + s.length≤140737488355328):evalCall C (n + 1) Z7 [.ptr p 0,.str s] hp=some (.tup [.int .i64 s.length,.nili],hp.set p (bO (t ++ s)),some (p,0)):=by
 have e:bO (t ++ s)=.buf (t ++ s) 85 5 []:=by unfold bO; rw [if_neg (by simp [hs])]
 rw [e]
 unfold bO at hg
 split at hg
 ·rename_i h0
  subst h0
  exact h.ws0 n p s hp hg (by omega)
 ·exact h.ws1 n p t s hp hg hl
theorem PG {C:Cfg}{L:Nat}(h:St C L)(n p:Nat)(t:List UInt8)(hp:HP)(hg:hp[p]? = some (bO t)):∃ hp' e,evalCall C (n + 1) ZR [.ptr p 0] hp=some (.str t,hp',e)∧(e=none∨e=some (p,0)):=by
 unfold bO at hg
 split at hg
 ·rename_i h0
  subst h0
  exact ⟨_,_,h.sb0 n p hp hg,.inl rfl⟩
 ·rename_i h0
  exact ⟨_,_,h.sb1 n p t hp hg h0,.inr rfl⟩
theorem Uy {bs b:Nat}(h:bs≤b):afterK bs none (some (b,0))=none:=by
 show (if b < bs then _ else none)=none
 rw [if_neg (by omega)]
theorem BQ {C:Cfg}{L:Nat}(h:St C L)(n:Nat)(L':Nat)(hL:1000≤L')(hp0 hq:HP)(hh:hp0.length≤hq.length)(k4:AV→HP→Eff→KR){u:List Int}{l:List (List (List UInt8))}(hl:l.length≤500)(hr:∀ r ∈ l,r.length≤20∧Fits u r):∀ (m i:Nat) (t:List UInt8),i≤l.length→l.length - i < m→t.length≤1000 * i →
  Zm C.G (evalCall C (n + 2)) L' hp0 k4 m (.ptr hq.length 0) (.ptr (hq ++ [WO u]).length 0) (lv l) (.int .i64 l.length) (.int .i64 i) (hq ++ [WO u] ++ [bO t]) none=k4 (.ptr (hq ++ [WO u]).length 0) (hq ++ [WO u] ++ [bO (t ++ Y9 u (l.drop i))]) none
 | 0,i,_,_,h,_=>absurd h (Nat.not_lt_zero _)
 | m + 1,i,t,hi,hm,ht=>by
  rw [Zm]
  rcases Nat.lt_or_ge i l.length with hlt | hge
  ·obtain ⟨r,hs,hd⟩:=IU hlt
   obtain ⟨hr20,hf⟩:=hr r (List.mem_of_getElem? hs)
   have e1:decide ((i:Int) < (l.length:Int))=true:=decide_eq_true (by omega)
   have e5:Go.IntKind.i64.wrap ((i:Int) + 1)=((i + 1:Nat):Int):=wrap_nat i (by omega)
   have e6:((r.map fun s=>[AV.str s]).length:Int)=(r.length:Int):=by rw [List.length_map]
   have hg:(hq ++ [WO u] ++ [bO t])[hq.length]? = some (WO u):=by rw [List.append_assoc,List.getElem?_append_right (Nat.le_refl _),Nat.sub_self]; rfl
   have hll:(ZM u r 0).length≤820:=Nat.le_trans (X7 r 0 fun j s hj=>by rw [Nat.zero_add]; exact hf j s hj) (by omega)
   have htl:=Vo (ZM u r 0)
   have e7:=BR h (n + 1) L' hp0 _ hq.length hg (ZF C.G (evalCall C (n + 2)) L' hp0 (Zv C.G (evalCall C (n + 2)) L' hp0 (Zm C.G (evalCall C (n + 2)) L' hp0 k4 m))) (.ptr (hq ++ [WO u]).length 0) (lv l) (.int .i64 l.length) (.int .i64 i) hr20 hf L' 0 [] (by omega) (by omega) (by simp)
   rw [List.drop_zero,List.nil_append] at e7
   have e8:(hq ++ [WO u] ++ [bO t]).set (hq ++ [WO u]).length (bO (t ++ (ZX (ZM u r 0) ++ [10])))=hq ++ [WO u] ++ [bO (t ++ (ZX (ZM u r 0) ++ [10]))]:=last_set _ _ _
   have e9:=PO h (n + 1) (hq ++ [WO u]).length t (ZX (ZM u r 0) ++ [10]) (hq ++ [WO u] ++ [bO t]) (last_get _ _) (by simp) (by rw [List.length_append,List.length_singleton]; omega)
   rw [e8] at e9
   have ih:=BQ h n L' hL hp0 hq hh k4 hl hr m (i + 1) (t ++ (ZX (ZM u r 0) ++ [10])) (by omega) (by omega) (by rw [List.length_append,List.length_append,List.length_singleton]; omega)
   have ea:afterK hp0.length none (some ((hq ++ [WO u]).length,0))=none:=Uy (by rw [List.length_append]; omega)
   rw [hd,Y9]
   simp only [EV,e1,Lm hs,e6,if_true]
   refine e7.trans ?_
   simp only [ZF,EV,D5 h n (ZM u r 0) (hq ++ [WO u] ++ [bO t]) (by omega)]
   rw [s_add _ _ (by rw [List.length_singleton]; omega),optK_s]
   simp only [EV,e9,ea,Zv,e5]
   rw [ih]
   simp only [List.append_assoc]
  ·obtain rfl:i=l.length:=by omega
   rw [List.drop_eq_nil_of_le (Nat.le_refl _)]
   have e1:decide ((l.length:Int) < (l.length:Int))=false:=decide_eq_false (by omega)
   simp only [EV,e1,Bool.false_eq_true,if_false,Y9,List.append_nil]
end Go.Proofs.YtcfjcimhjmpkiaaGreatDoor
end
section
namespace Go.Proofs.YtcfjcimhjmpkiaaGreatDoor
open Go Go.Proofs.YtcfjcimhjmpkiaaGreatDoor.Abs Go.Proofs.YtcfjcimhjmpkiaaGreatDoor.Tl
set_option maxRecDepth 100000
theorem QZ {α:Type}{f:α→Int}:∀ {l:List α},Yh f l=0→∀ x ∈ l,f x=0
 | [],_,x,hx=>by cases hx
 | y :: l,h,x,hx=>by
  rw [Yh] at h
  by_cases h0:f y=0
  ·rw [if_neg (by simp [h0])] at h
   rcases List.mem_cons.1 hx with rfl | hx
   ·exact h0
   ·exact QZ h x hx
  ·rw [if_pos h0] at h; exact absurd h h0
theorem LP {s:List UInt8}(h:Qm s=0):s.length≤40∧s.all okB=true:=by
 unfold Qm at h
 split at h
 ·cases h
 ·split at h
  ·rename_i h1 h2; exact ⟨by omega,h2⟩
  ·cases h
theorem Dq {n:Nat}{r:List (List UInt8)}(h:Uk n r=0):1≤r.length∧r.length≤20∧r.length=n∧∀ s ∈ r,s.length≤40∧s.all okB=true:=by
 unfold Uk at h
 split at h
 ·cases h
 ·rename_i h1
  exact ⟨by omega,by omega,by omega,fun s hs=>LP (QZ h s hs)⟩
theorem Qg {l:List (List (List UInt8))}(h:Um l=0):l.length≤500∧∀ r ∈ l,1≤r.length∧r.length≤20∧r.length=(l.headD []).length∧∀ s ∈ r,s.length≤40∧s.all okB=true:=by
 unfold Um at h
 split at h
 ·cases h
 ·exact ⟨by omega,fun r hr=>Dq (QZ h r hr)⟩
theorem UU:∀ (r:List (List UInt8)) (u:List Int) (i j:Nat),(widen u r i)[j]? = if i≤j∧j < i + r.length then (u[j]?).map (fun a=>N7 a (r.getD (j - i) []).length) else u[j]?
 | [],u,i,j=>by rw [widen,if_neg (by simp only [List.length_nil]; omega)]
 | s :: r,u,i,j=>by
  rw [widen,UU r,List.length_cons]
  by_cases hij:i=j
  ·subst hij
   rw [if_neg (by omega),if_pos (by omega),Nat.sub_self,List.getElem?_set]
   rw [if_pos rfl]
   by_cases hl:i < u.length
   ·rw [if_pos hl,List.getElem?_eq_getElem hl,Option.map_some,List.getD_eq_getElem?_getD,List.getElem?_eq_getElem hl]; rfl
   ·rw [if_neg hl,List.getElem?_eq_none (by omega)]; rfl
  ·rw [List.getElem?_set_ne hij]
   by_cases h:i + 1≤j∧j < i + 1 + r.length
   ·rw [if_pos h,if_pos (by omega),show j - i=(j - (i + 1)) + 1 by omega,List.getD_cons_succ]
   ·rw [if_neg h,if_neg (by omega)]
def JL (j:Nat):Int→List (List (List UInt8))→Int
 | a,[]=>a
 | a,r :: l=>JL j (N7 a (r.getD j []).length) l
theorem PZ (a:Int)(n:Nat):a≤N7 a n:=by unfold N7; split <;> omega
theorem Na (a:Int)(n:Nat):(n:Int)≤N7 a n:=by unfold N7; split <;> omega
theorem P5 {a:Int}{n:Nat}(h1:a≤40)(h2:n≤40):N7 a n≤40:=by unfold N7; split <;> omega
theorem IE (j:Nat):∀ (l:List (List (List UInt8))) (a:Int),a≤JL j a l
 | [],a=>Int.le_refl a
 | r :: l,a=>Int.le_trans (PZ a _) (IE j l _)
theorem IG (j:Nat):∀ (l:List (List (List UInt8))) (a:Int) (r:List (List UInt8)),r ∈ l→((r.getD j []).length:Int)≤JL j a l
 | [],a,r,h=>by cases h
 | x :: l,a,r,h=>by
  rcases List.mem_cons.1 h with rfl | h
  ·exact Int.le_trans (Na a _) (IE j l _)
  ·exact IG j l _ r h
theorem IC (j:Nat):∀ (l:List (List (List UInt8))) (a:Int),a≤40→(∀ r ∈ l,(r.getD j []).length≤40)→JL j a l≤40
 | [],a,h,_=>h
 | r :: l,a,h,hr=>IC j l _ (P5 h (hr r (List.mem_cons_self ..))) fun x hx=>hr x (List.mem_cons_of_mem _ hx)
theorem JB {n j:Nat}(hj:j < n):∀ (l:List (List (List UInt8))) (u:List Int) (a:Int),(∀ r ∈ l,r.length=n)→u[j]? = some a→(widens u l)[j]? = some (JL j a l)
 | [],u,a,_,h=>h
 | r :: l,u,a,hr,h=>by
  have h1:=hr r (List.mem_cons_self ..)
  rw [widens,JL]
  refine JB hj l _ _ (fun x hx=>hr x (List.mem_cons_of_mem _ hx)) ?_
  rw [UU,if_pos (by omega),h,Nat.sub_zero]; rfl
def YD (l:List (List (List UInt8))):List Int:=widens (List.replicate 20 0) l
theorem VM {l:List (List (List UInt8))}(h:Um l=0){j:Nat}(hj:j < (l.headD []).length)(h20:(l.headD []).length≤20):(YD l)[j]? = some (JL j 0 l):=by
 have ht:=Qg h
 exact JB hj l _ 0 (fun r hr=>(ht.2 r hr).2.2.1) (by rw [List.getElem?_replicate,if_pos (by omega)])
theorem getD_mem {α:Type}{l:List α}{d:α}{j:Nat}(h:j < l.length):l.getD j d ∈ l:=by
 rw [List.getD_eq_getElem?_getD,List.getElem?_eq_getElem h]
 exact List.getElem_mem h
theorem fits_all {l:List (List (List UInt8))}(h:Um l=0):∀ r ∈ l,Fits (YD l) r:=by
 intro r hr j s hs
 have ht:=Qg h
 have hrr:=ht.2 r hr
 have hj:j < r.length:=(List.getElem?_eq_some_iff.1 hs).1
 refine ⟨_,VM h (j := j) (by omega) (by omega),?_,IC j l 0 (by omega) fun x hx=>?_⟩
 ·have:=IG j l 0 r hr
  rw [List.getD_eq_getElem?_getD,hs] at this
  exact this
 ·have hx2:=ht.2 x hx
  exact (hx2.2.2.2 _ (getD_mem (by omega))).1
def MH (l:List (List (List UInt8))):List UInt8×Int×PUnit:=if Um l=0 then (Y9 (YD l) l,0,()) else ([],Um l,())
def J8 (l:List (List (List UInt8))):Option (List UInt8×Int×PUnit):=some (MH l)
theorem MV (hp0:HP)(t:List UInt8)(e:Int)(hp:HP):finK false hp0 (.tup [.str t,.int .i64 e]) hp none=(.tup [.str t,.int .i64 e],hp0,none):=rfl
theorem Ba {C:Cfg}{L:Nat}(h:St C L)(l:List (List (List UInt8)))(x0:AV)(hx:x0.ro=lv l)(hp:HP):Ev fun n=>evalCall C n YY [x0] hp=some (.tup [.str (MH l).1,.int .i64 (MH l).2.1],hp,none):=by
 have hL:=h.L
 have hb:=h.big
 obtain ⟨a,ha,n0,hn⟩:=Jl h (l,()) hp [lv l] (.cons _ _ (VR.lst (T := tT) 1 (.lst 1 .str) l _ rfl) _ _ .nil) (Um l) (Tt (by omega) l)
 have:=VR.int (ha [])
 subst this
 refine ⟨n0 + 3,fun n hnn=>?_⟩
 obtain ⟨k,rfl⟩:∃ k,n=k + 3:=⟨n - 3,by omega⟩
 have e1:evalCall C (k + 2) Q9 [lv l] hp=some (.int .i64 (Um l),hp,none):=hn (k + 2) (by omega)
 refine Vf (by rw [← X4]; exact h.T _ _ (by kernel_rfl)) ?_
 unfold MH
 by_cases h0:Um l=0
 ·rw [h0] at e1
  have ht:=Qg h0
  have e2:decide ((0:Int)≠0)=false:=rfl
  have e3:((l.map fun r=>[MB r]).length:Int)=(l.length:Int):=by rw [List.length_map]
  have e4:=BO C.G (evalCall C (k + 2)) C.L (by omega) hp hp (Nat.le_refl _) (ZE C.G (evalCall C (k + 2)) C.L hp) ht.1 (fun r hr=>(ht.2 r hr).2.1) C.L 0 (List.replicate 20 0) (by simp) (by omega) (by omega)
  have e5:=BQ h k C.L (by omega) hp hp (Nat.le_refl _) (ZG C.G (evalCall C (k + 2)) C.L hp) (u := YD l) ht.1 (fun r hr=>⟨(ht.2 r hr).2.1,fits_all h0 r hr⟩) C.L 0 [] (by omega) (by omega) (by simp)
  obtain ⟨hp',ef,e6,e7⟩:=PG h (k + 1) (hp ++ [WO (YD l)]).length (Y9 (YD l) l) (hp ++ [WO (YD l)] ++ [bO (Y9 (YD l) l)]) (last_get _ _)
  rw [List.drop_zero] at e4 e5
  rw [List.nil_append] at e5
  have e8:afterK hp.length none ef=none:=by
   rcases e7 with rfl | rfl
   ·rfl
   ·exact Uy (by rw [List.length_append]; omega)
  rw [if_pos h0]
  simp only [Y3,hx,e1,EV,e2,Bool.false_eq_true,if_false,e3]
  refine e4.trans ?_
  simp only [ZE,EV,e3]
  refine e5.trans ?_
  simp only [ZG,EV,e6,e8,MV]
 ·have e2:decide (Um l≠0)=true:=decide_eq_true h0
  rw [if_neg h0]
  simp only [Y3,hx,e1,EV,e2,if_true,MV]
def Gn:Sum tT:=⟨17,[.lst 1 (.lst 1 .str)],fun x=>.par _ (J8 x.1) (RD.tv tT (.tup [.str,.int .i64]))⟩
theorem OG {C:Cfg}{L:Nat}(h:St C L):Ur C Gn:=fun x hp avs hv y hy=>by
 obtain ⟨(l:List (List (List UInt8))),u⟩:=x
 change J8 l=some y at hy
 obtain rfl:=Option.some.inj hy
 cases hv with
 | cons _ v h1 _ _ h2=>cases h2 with
  | nil =>
   have hx:v.ro=lv l:=by cases h1 with | lst _ _ _ _ h=>exact h
   refine ⟨_,fun ad=>?_,Ba h l v hx hp⟩
   exact .tup _ _ (.cons _ _ (.av _ _ (.inl rfl)) _ _ (.cons _ _ (.av _ _ (.inl rfl)) _ _ .nil))
end Go.Proofs.YtcfjcimhjmpkiaaGreatDoor
end
section
namespace Go.Proofs.YtcfjcimhjmpkiaaGreatDoor
open Go Go.Proofs.YtcfjcimhjmpkiaaGreatDoor.Abs Go.Proofs.YtcfjcimhjmpkiaaGreatDoor.Tl
set_option maxRecDepth 100000
set_option maxHeartbeats 0
noncomputable def WI (L:Nat)(x:(List (List (List UInt8)))×PUnit):Option ((List UInt8)×Int×PUnit):=fT [Xj L,VL L] L Vr [.rnd [.slot 5 (.own 1 (.int .i64)),.slot 6 (.int .i64)],.rnd [.slot 7 .str,.slot 8 (.int .i64)],.rnd [.slot 9 .str,.slot 10 (.int .i64)],.rnd [.slot 11 .str],.rnd [.slot 12 (.int .i64)]] (.tup [.str,.int .i64]) [.lst 1 (.lst 1 .str)] x
noncomputable def VK (L:Nat):Sum tT:=mU 18 [.lst 1 (.lst 1 .str)] (.tup [.str,.int .i64]) (WI L)
theorem Gh:SX VK:=fun h=>sT h (WM (VF h) (WM (Gi h) Ue)) rfl (by kernel_rfl) fun _=>rfl
noncomputable def YT:List Int×Int×PUnit→(List UInt8×Int×PUnit→Option (List UInt8×Int×PUnit))→List UInt8×Int×PUnit→(List UInt8×PUnit→Option (List UInt8×Int×PUnit))→List UInt8×PUnit→Option (List UInt8×Int×PUnit):=fun acc self acc_1 self_1 acc_2=>bT (Z9 acc.1 acc_1.2.1) fun y=>bif decide ((↑acc_2.1.length:Int) < y) then bT (UX acc_2.1 [32]) fun y=>self_1 (y,()) else bT (UX acc_1.1 acc_2.1) fun y=>bT (UX y [32]) fun y=>self (y,Go.IntKind.i64.wrap (acc_1.2.1 + 1),())
noncomputable def YU:(List UInt8×Int×PUnit→Option (List UInt8×Int×PUnit))→List UInt8×Int×PUnit→List UInt8×Int×PUnit→(Int×PUnit→Option (List UInt8×Int×PUnit))→Int×PUnit→Option (List UInt8×Int×PUnit):=fun self acc acc_1 self_1 acc_2=>bT (bif decide (acc_2.1 > 0) == true then bT (Z9 acc_1.1 (Go.IntKind.i64.wrap (acc_2.1 - 1))) fun y=>some ((↑y.toNat:Int) == 32) else some false) fun y=>bif y then self_1 (Go.IntKind.i64.wrap (acc_2.1 - 1),()) else bT (XY acc_1.1 0 acc_2.1) fun y=>bT (UX acc.1 y) fun y=>bT (UX y [10]) fun y=>self (y,Go.IntKind.i64.wrap (acc.2.1 + 1),())
noncomputable def Y8:List (List (List UInt8))→Nat→List Int×Int×PUnit→(List UInt8×Int×PUnit→Option (List UInt8×Int×PUnit))→List UInt8×Int×PUnit→(List UInt8×Int×PUnit→Option (List UInt8×Int×PUnit))→List UInt8×Int×PUnit→Option (List UInt8×Int×PUnit):=fun x0 L acc self acc_1 self_1 acc_2=>bT (Z9 x0 acc_1.2.1) fun y=>bif decide (acc_2.2.1 < (↑y.length:Int)) then bT (Z9 x0 acc_1.2.1) fun y=>bT (Z9 y acc_2.2.1) fun y=>Zj (YT acc self_1 acc_2) L (y,()) else Zj (YU self acc_1 acc_2) L ((↑acc_2.1.length:Int),())
noncomputable def Yl:List (List (List UInt8))→Nat→List Int×Int×PUnit→(List UInt8×Int×PUnit→Option (List UInt8×Int×PUnit))→List UInt8×Int×PUnit→Option (List UInt8×Int×PUnit):=fun x0 L acc self acc_1=>bif decide (acc_1.2.1 < (↑x0.length:Int)) then Zj (Y8 x0 L acc self acc_1) L ([],0,()) else some (acc_1.1,0,())
noncomputable def YV:List (List (List UInt8))→Nat→(List Int×Int×PUnit→Option (List UInt8×Int×PUnit))→List Int×Int×PUnit→Option (List UInt8×Int×PUnit):=fun x0 L self acc=>bT (bif decide ((↑x0.length:Int) > 0) == true then bT (Z9 x0 0) fun y=>some (decide (acc.2.1 < (↑y.length:Int))) else some false) fun y=>bif y then bT (Z5 L (x0,acc.2.1,())) fun y=>bT (Nj 8 acc.1 [y]) fun y=>self (y,Go.IntKind.i64.wrap (acc.2.1 + 1),()) else Zj (Yl x0 L acc) L ([],0,())
theorem KW (L:Nat)(x0:(List (List (List UInt8)))):WI L (x0,())=bT (WJ L (x0,())) fun y=>bif y != 0 then some ([],y,()) else Zj (YV x0 L) L ([],0,()):=by kernel_rfl
noncomputable def Yf (L:Nat)(x:(List (List (List UInt8)))×PUnit):Option Bool:=fT [Gn,Gm,VK L,WH L] L YE [] (.one .bool) [.lst 1 (.lst 1 .str)] x
noncomputable def Q8 (L:Nat):Sum tT:=mU 5 [.lst 1 (.lst 1 .str)] (.one .bool) (Yf L)
theorem Q7:SX Q8:=fun h=>sT h (WM (OG h) (WM (OE h) (WM (Gh h) (WM (XB h) Ue)))) rfl (by kernel_rfl) fun _=>rfl
theorem Q5 (L:Nat)(x0:(List (List (List UInt8)))):Yf L (x0,())=bT (Yv L (x0,())) fun y=>bif !y then some true else bT (J8 x0) fun y=>bT (WI L (x0,())) fun y_1=>some (y.1 == y_1.1 && y.2.1 == y_1.2.1 && true):=by kernel_rfl
noncomputable def Yk (L:Nat)(x:(List (List (List UInt8)))×PUnit):Option Bool:=fT [Gn,Gm,Xj L,WH L] L YI [.rnd [.slot 2 .bool,.slot 5 (.int .i64)],.rnd [.slot 2 .bool,.slot 3 .str,.slot 6 (.int .i64)],.rnd [.slot 7 (.int .i64)],.rnd [.slot 2 .bool,.slot 9 (.int .i64),.slot 10 (.int .i64)],.rnd [.slot 11 .str]] (.one .bool) [.lst 1 (.lst 1 .str)] x
noncomputable def Xi (L:Nat):Sum tT:=mU 6 [.lst 1 (.lst 1 .str)] (.one .bool) (Yk L)
theorem Xg:SX Xi:=fun h=>sT h (WM (OG h) (WM (OE h) (WM (VF h) (WM (XB h) Ue)))) rfl (by kernel_rfl) fun _=>rfl
noncomputable def ZA:List (List (List UInt8))→Nat→List UInt8→(Bool×Int×Int×PUnit→Option Bool)→Bool×Int×Int×PUnit→(List UInt8×PUnit→Option Bool)→List UInt8×PUnit→Option Bool:=fun x0 L y self acc self_1 acc_1=>bT (bif decide ((↑acc_1.1.length:Int) > 0) == true then bT (Z9 acc_1.1 (Go.IntKind.i64.wrap ((↑acc_1.1.length:Int) - 1))) fun y=>some ((↑y.toNat:Int) == 32) else some false) fun y_1=>bif y_1 then bT (XY acc_1.1 0 (Go.IntKind.i64.wrap ((↑acc_1.1.length:Int) - 1))) fun y=>self_1 (y,()) else bT (bif decide ((↑acc_1.1.length:Int) > 0) == true then bif decide (Go.IntKind.i64.wrap (acc.2.1 + (↑acc_1.1.length:Int)) > (↑y.length:Int)) == false then bT (XY y acc.2.1 (Go.IntKind.i64.wrap (acc.2.1 + (↑acc_1.1.length:Int)))) fun y=>some !y == acc_1.1 else some true else some false) fun y=>bif y then some false else bT (Z5 L (x0,acc.2.2.1,())) fun y=>self (acc.1,Go.IntKind.i64.wrap (acc.2.1 + Go.IntKind.i64.wrap (y + 1)),Go.IntKind.i64.wrap (acc.2.2.1 + 1),())
noncomputable def Zp:List (List (List UInt8))→Nat→(Bool×List UInt8×Int×PUnit→Option Bool)→Bool×List UInt8×Int×PUnit→List UInt8→List UInt8→(Bool×Int×Int×PUnit→Option Bool)→Bool×Int×Int×PUnit→Option Bool:=fun x0 L self acc y y_1 self_1 acc_1=>bT (Z9 x0 acc.2.2.1) fun y_2=>bif decide (acc_1.2.2.1 < (↑y_2.length:Int)) then bT (Z9 x0 acc.2.2.1) fun y_3=>bT (Z9 y_3 acc_1.2.2.1) fun y_4=>Zj (ZA x0 L y self_1 acc_1) L (y_4,()) else self (acc_1.1,y_1,Go.IntKind.i64.wrap (acc.2.2.1 + 1),())
noncomputable def ZB:List (List (List UInt8))→Nat→(Bool×List UInt8×Int×PUnit→Option Bool)→Bool×List UInt8×Int×PUnit→(Int×PUnit→Option Bool)→Int×PUnit→Option Bool:=fun x0 L self acc self_1 acc_1=>bT (bif decide (acc_1.1 < (↑acc.2.1.length:Int)) == true then bT (Z9 acc.2.1 acc_1.1) fun y=>some ((↑y.toNat:Int) != 10) else some false) fun y=>bif y then self_1 (Go.IntKind.i64.wrap (acc_1.1 + 1),()) else bT (bif (acc_1.1 == (↑acc.2.1.length:Int)) == false then bif decide (acc_1.1 > 0) == true then bT (Z9 acc.2.1 (Go.IntKind.i64.wrap (acc_1.1 - 1))) fun y=>some ((↑y.toNat:Int) == 32) else some false else some true) fun y=>bif y then some false else bT (XY acc.2.1 0 acc_1.1) fun y=>bT (XY acc.2.1 (Go.IntKind.i64.wrap (acc_1.1 + 1)) (↑acc.2.1.length:Int)) fun y_1=>Zj (Zp x0 L self acc y y_1) L (acc.1,0,0,())
noncomputable def Zq:List (List (List UInt8))→Nat→(Bool×List UInt8×Int×PUnit→Option Bool)→Bool×List UInt8×Int×PUnit→Option Bool:=fun x0 L self acc=>bif decide (acc.2.2.1 < (↑x0.length:Int)) then Zj (ZB x0 L self acc) L (0,()) else some (acc.2.1 == [] && true)
noncomputable def Yd:List (List (List UInt8))→Nat→List UInt8×Int×PUnit→(Bool×Int×PUnit→Option Bool)→Bool×Int×PUnit→Option Bool:=fun x0 L y self acc=>bif decide (acc.2.1 < (↑x0.length:Int)) then bT (Z9 x0 acc.2.1) fun y=>bT (Z9 x0 0) fun y_1=>bif (↑y.length:Int) != (↑y_1.length:Int) then some false else self (acc.1,Go.IntKind.i64.wrap (acc.2.1 + 1),()) else Zj (Zq x0 L) L (acc.1,y.1,0,())
theorem Xf (L:Nat)(x0:(List (List (List UInt8)))):Yk L (x0,())=bT (Yv L (x0,())) fun y=>bif !y then some true else bT (J8 x0) fun y=>bif y.2.1 != 0 then some (y.1 == [] && true) else Zj (Yd x0 L y) L (false,0,()):=by kernel_rfl
end Go.Proofs.YtcfjcimhjmpkiaaGreatDoor
end
section
namespace Go.Proofs.YtcfjcimhjmpkiaaGreatDoor
open Go Go.Proofs.YtcfjcimhjmpkiaaGreatDoor.Abs Go.Proofs.YtcfjcimhjmpkiaaGreatDoor.Tl
set_option maxRecDepth 100000
theorem U5 {a b:List UInt8}(h:a.length + b.length≤4611686018427387904):UX a b=some (a ++ b):=by unfold UX; rw [if_pos h]
theorem get_at {α:Type}{l:List α}{i:Nat}{x:α}(h:l[i]? = some x):Z9 l (i:Int)=some x:=by rw [Vz]; exact h
theorem JC {x:List (List (List UInt8))}(hx:x.length≤1000){k:Nat}(hk:∀ r ∈ x,k < r.length):∀ (m i:Nat) (n:Int),i≤x.length→x.length - i < m→Zj (Qb x (k:Int)) m (n,(i:Int),())=some (JL k n (x.drop i))
 | 0,i,n,h,hm=>absurd hm (by omega)
 | m + 1,i,n,h,hm=>by
  rw [Zj]
  have hr:∀ self,Qb x (k:Int) self (n,(i:Int),())=bif decide ((i:Int) < (x.length:Int)) then bT (Z9 x (i:Int)) fun y=>bT (Z9 y (k:Int)) fun y=>self (if (y.length:Int) > n then (y.length:Int) else n,Go.IntKind.i64.wrap ((i:Int) + 1),()) else some n:=fun self=>rfl
  rw [hr]
  rcases YR x h with ⟨rfl,hd⟩ | ⟨r,g,hd,hl⟩
  ·rw [MZ,cond_false,hd]; rfl
  ·have hm':r ∈ x:=by rw [Vz] at g; exact List.mem_of_getElem? g
   have hkr:=hk r hm'
   have e:r[k]? = some (r.getD k []):=by rw [List.getD_eq_getElem?_getD,List.getElem?_eq_getElem hkr]; rfl
   rw [La hl,cond_true,g,ZP,get_at e,ZP,YG (by omega),hd,JL,JC hx hk m (i + 1) _ hl (by omega)]
   rfl
theorem H6 {L:Nat}(hL:1001≤L){x:List (List (List UInt8))}(hx:x.length≤1000){k:Nat}(hk:∀ r ∈ x,k < r.length):Z5 L (x,(k:Int),())=some (JL k 0 x):=by
 rw [KX]
 have:=JC hx hk L 0 0 (by omega) (by omega)
 rw [List.drop_zero] at this
 exact this
section
variable {x:List (List (List UInt8))}{L:Nat}
theorem Ha {wd:List Int}{n:Int}{line:List UInt8}{k:Nat}{w:Int}(hw:wd[k]? = some w)(hk:k≤1000)(hl:line.length≤1000000)(h40:w≤40)(self:List UInt8×Int×PUnit→Option (List UInt8×Int×PUnit)):∀ (d m:Nat) (c:List UInt8),(c.length:Int) + d=w →
  Zj (YT (wd,n,()) self (line,(k:Int),())) (m + d + 1) (c,())=self (line ++ (c ++ List.replicate (d + 1) 32),((k + 1:Nat):Int),())
 | d,m,c,hd=>by
  rw [Zj]
  have hr:∀ s1,YT (wd,n,()) self (line,(k:Int),()) s1 (c,())=bT (Z9 wd (k:Int)) fun y=>bif decide ((c.length:Int) < y) then bT (UX c [32]) fun y=>s1 (y,()) else bT (UX line c) fun y=>bT (UX y [32]) fun y=>self (y,Go.IntKind.i64.wrap ((k:Int) + 1),()):=fun s1=>rfl
  rw [hr,get_at hw,ZP]
  cases d with
  | zero =>
   rw [decide_eq_false (by omega),cond_false,U5 (by omega),ZP,U5 (by rw [List.length_append,List.length_singleton]; omega),ZP,YG (by omega),List.append_assoc]
   rfl
  | succ d =>
   have ih:=Ha (n := n) hw hk hl h40 self d m (c ++ [32]) (by rw [List.length_append,List.length_singleton]; omega)
   rw [decide_eq_true (by omega),cond_true,U5 (by rw [List.length_singleton]; omega),ZP,show m + (d + 1)=m + d + 1 by omega,ih]
   congr 2
   rw [List.append_assoc,List.singleton_append,List.replicate_succ (n := d + 1)]
theorem Dw {line t:List UInt8}{k i:Nat}(hi:i≤1000)(ht:t.length + line.length≤1000000)(self:List UInt8×Int×PUnit→Option (List UInt8×Int×PUnit)):∀ (m n:Nat),n < m→n≤line.length →
  Zj (YU self (t,(i:Int),()) (line,(k:Int),())) m ((n:Int),())=self (t ++ ZX (line.take n) ++ [10],((i + 1:Nat):Int),())
 | 0,n,h,_=>absurd h (Nat.not_lt_zero _)
 | m + 1,n,h,hn=>by
  rw [Zj]
  have hr:∀ s1,YU self (t,(i:Int),()) (line,(k:Int),()) s1 ((n:Int),())=bT (bif decide ((n:Int) > 0) == true then bT (Z9 line (Go.IntKind.i64.wrap ((n:Int) - 1))) fun y=>some ((y.toNat:Int) == 32) else some false) fun y=>bif y then s1 (Go.IntKind.i64.wrap ((n:Int) - 1),()) else bT (XY line 0 (n:Int)) fun y=>bT (UX t y) fun y=>bT (UX y [10]) fun y=>self (y,Go.IntKind.i64.wrap ((i:Int) + 1),()):=fun s1=>rfl
  have hsub:XY line 0 (n:Int)=some (line.take n):=by
   unfold XY
   rw [if_pos ⟨Int.le_refl _,by omega,by omega⟩,Int.toNat_natCast]; rfl
  have htk:(line.take n).length≤line.length:=by rw [List.length_take]; omega
  have hend:(bT (XY line 0 (n:Int)) fun y=>bT (UX t y) fun y=>bT (UX y [10]) fun y=>self (y,Go.IntKind.i64.wrap ((i:Int) + 1),()))=self (t ++ line.take n ++ [10],((i + 1:Nat):Int),()):=by
   rw [hsub,ZP,U5 (by omega),ZP,U5 (by rw [List.length_append,List.length_singleton]; omega),ZP,YG (by omega)]
  rw [hr]
  cases n with
  | zero =>
   rw [decide_eq_false (by omega),show (false == true)=false from rfl,cond_false,ZP,cond_false,hend]; rfl
  | succ n =>
   have hw:Go.IntKind.i64.wrap (((n + 1:Nat):Int) - 1)=(n:Int):=by rw [wrap_in (by omega) (by omega)]; omega
   have hg:line[n]? = some line[n]:=List.getElem?_eq_getElem (by omega)
   have hs:line.take (n + 1)=line.take n ++ [line[n]]:=by rw [List.take_add_one,hg]; rfl
   generalize line[n]=c at hg hs
   rw [decide_eq_true (by omega),show (true == true)=true from rfl,cond_true,hw,get_at hg,ZP,ZP,hs,Y1]
   by_cases hc:c=32
   ·subst hc
    rw [show (((32:UInt8).toNat:Int) == 32)=true from rfl,cond_true,if_pos rfl]
    exact Dw hi ht self m n (by omega) (by omega)
   ·have hne:((c.toNat:Int) == 32)=false:=by
     rw [beq_eq_false_iff_ne]
     intro h32
     have h1:=JK c 32 (by omega)
     rw [decide_eq_true (show (c.toNat:Int)=((32:Nat):Int) from h32)] at h1
     exact hc (of_decide_eq_true h1.symm)
    rw [hne,cond_false,if_neg hc,hend,hs]
theorem Jq {wd:List Int}{n0:Int}{t:List UInt8}{i:Nat}(hL:1000≤L)(hi:i≤1000)(ht:t.length≤500000){r:List (List UInt8)}(hx:x[i]? = some r)(hr20:r.length≤20)(hf:Fits wd r)(self:List UInt8×Int×PUnit→Option (List UInt8×Int×PUnit)):∀ (m k:Nat) (line:List UInt8),k≤r.length→r.length - k < m→line.length≤41 * k →
  Zj (Y8 x L (wd,n0,()) self (t,(i:Int),())) m (line,(k:Int),())=self (t ++ ZX (line ++ ZM wd (r.drop k) k) ++ [10],((i + 1:Nat):Int),())
 | 0,k,line,h,hm,_=>absurd hm (by omega)
 | m + 1,k,line,h,hm,hlen=>by
  rw [Zj]
  have hr:∀ s1,Y8 x L (wd,n0,()) self (t,(i:Int),()) s1 (line,(k:Int),())=bT (Z9 x (i:Int)) fun y=>bif decide ((k:Int) < (y.length:Int)) then bT (Z9 x (i:Int)) fun y=>bT (Z9 y (k:Int)) fun y=>Zj (YT (wd,n0,()) s1 (line,(k:Int),())) L (y,()) else Zj (YU self (t,(i:Int),()) (line,(k:Int),())) L ((line.length:Int),()):=fun s1=>rfl
  rw [hr,get_at hx,ZP]
  rcases Nat.lt_or_ge k r.length with hlt | hge
  ·obtain ⟨s,hs,hd⟩:=IU hlt
   obtain ⟨w,hw,h1,h2⟩:=hf k s hs
   have e1:=Ha hw (by omega) (line := line) (n := n0) (by omega) h2 (Zj (Y8 x L (wd,n0,()) self (t,(i:Int),())) m) (w - (s.length:Int)).toNat (L - (w - (s.length:Int)).toNat - 1) s (by omega)
   rw [show L - (w - (s.length:Int)).toNat - 1 + (w - (s.length:Int)).toNat + 1=L by omega] at e1
   have hrl:(List.replicate ((w - (s.length:Int)).toNat + 1) (32:UInt8)).length=(w - (s.length:Int)).toNat + 1:=List.length_replicate
   have ih:=Jq (n0 := n0) hL hi ht hx hr20 hf self m (k + 1) (line ++ (s ++ List.replicate ((w - (s.length:Int)).toNat + 1) 32)) (by omega) (by omega) (by rw [List.length_append,List.length_append,hrl]; omega)
   rw [decide_eq_true (by omega),cond_true,ZP,get_at hs,ZP,e1,ih,hd,ZM,Xb hw,show (w - (s.length:Int) + 1).toNat=(w - (s.length:Int)).toNat + 1 by omega]
   simp only [List.append_assoc]
  ·obtain rfl:k=r.length:=by omega
   rw [decide_eq_false (by omega),cond_false,List.drop_eq_nil_of_le (Nat.le_refl _),ZM,List.append_nil]
   have:=Dw (k := r.length) hi (t := t) (line := line) (by omega) self L line.length (by omega) (by omega)
   rw [List.take_length] at this
   exact this
theorem UM {wd:List Int}{n0:Int}(hL:1000≤L)(hl:x.length≤500)(hr:∀ r ∈ x,r.length≤20∧Fits wd r):∀ (m i:Nat) (t:List UInt8),i≤x.length→x.length - i < m→t.length≤1000 * i →
  Zj (Yl x L (wd,n0,())) m (t,(i:Int),())=some (t ++ Y9 wd (x.drop i),0,())
 | 0,i,t,h,hm,_=>absurd hm (by omega)
 | m + 1,i,t,h,hm,ht=>by
  rw [Zj]
  have hr':∀ self,Yl x L (wd,n0,()) self (t,(i:Int),())=bif decide ((i:Int) < (x.length:Int)) then Zj (Y8 x L (wd,n0,()) self (t,(i:Int),())) L ([],0,()) else some (t,0,()):=fun self=>rfl
  rw [hr']
  rcases Nat.lt_or_ge i x.length with hlt | hge
  ·obtain ⟨r,hs,hd⟩:=IU hlt
   obtain ⟨hr20,hf⟩:=hr r (List.mem_of_getElem? hs)
   have e1:=Jq (n0 := n0) hL (show i≤1000 by omega) (t := t) (by omega) hs hr20 hf (Zj (Yl x L (wd,n0,())) m) L 0 [] (by omega) (by omega) (by simp)
   rw [List.drop_zero,List.nil_append] at e1
   have hll:(ZM wd r 0).length≤820:=Nat.le_trans (X7 r 0 fun j s hj=>by rw [Nat.zero_add]; exact hf j s hj) (by omega)
   have htl:=Vo (ZM wd r 0)
   have ih:=UM (n0 := n0) hL hl hr m (i + 1) (t ++ ZX (ZM wd r 0) ++ [10]) (by omega) (by omega) (by rw [List.length_append,List.length_append,List.length_singleton]; omega)
   rw [decide_eq_true (by omega),cond_true]
   refine e1.trans ?_
   rw [ih,hd,Y9]
   simp only [List.append_assoc]
  ·obtain rfl:i=x.length:=by omega
   rw [decide_eq_false (by omega),cond_false,List.drop_eq_nil_of_le (Nat.le_refl _),Y9,List.append_nil]
end
theorem Jv {u v:List Int}:∀ (r:List (List UInt8)) (k:Nat),(∀ j,j < r.length→u.getD (k + j) 0=v.getD (k + j) 0)→ZM u r k=ZM v r k
 | [],k,_=>rfl
 | s :: r,k,h=>by
  have ih:=Jv (u := u) (v := v) r (k + 1) fun j hj=>by
   have:=h (j + 1) (by rw [List.length_cons]; omega)
   rw [show k + 1 + j=k + (j + 1) by omega]; exact this
  have h0:=h 0 (by rw [List.length_cons]; omega)
  rw [Nat.add_zero] at h0
  rw [ZM,ZM,ih,h0]
theorem J9 {u v:List Int}:∀ (l:List (List (List UInt8))),(∀ r ∈ l,∀ j,j < r.length→u.getD j 0=v.getD j 0)→Y9 u l=Y9 v l
 | [],_=>rfl
 | r :: l,h=>by
  have ih:=J9 (u := u) (v := v) l fun x hx=>h x (List.mem_cons_of_mem _ hx)
  have h0:=Jv (u := u) (v := v) r 0 fun j hj=>by rw [Nat.zero_add]; exact h r (List.mem_cons_self ..) j hj
  rw [Y9,Y9,ih,h0]
def Ye (l:List (List (List UInt8)))(k:Nat):List Int:=(List.range k).map fun j=>JL j 0 l
theorem Gs {l:List (List (List UInt8))}{k j:Nat}(h:j < k):(Ye l k)[j]? = some (JL j 0 l):=by
 unfold Ye
 rw [List.getElem?_map,List.getElem?_range h]; rfl
theorem UW (l:List (List (List UInt8)))(k:Nat):Ye l (k + 1)=Ye l k ++ [JL k 0 l]:=by
 unfold Ye
 rw [List.range_succ,List.map_append]; rfl
theorem Gt (l:List (List (List UInt8)))(k:Nat):(Ye l k).length=k:=by unfold Ye; simp
theorem UT {L:Nat}(hL:1001≤L){x:List (List (List UInt8))}(h0:Um x=0)(hne:x≠[]):∀ (m k:Nat),k≤(x.headD []).length→(x.headD []).length - k < m→Zj (YV x L) m (Ye x k,(k:Int),())=some (Y9 (YD x) x,0,())
 | 0,k,h,hm=>absurd hm (by omega)
 | m + 1,k,h,hm=>by
  have ht:=Qg h0
  obtain ⟨a,l,rfl⟩:∃ a l,x=a :: l:=by
   cases x with
   | nil=>exact absurd rfl hne
   | cons a l=>exact ⟨a,l,rfl⟩
  have ha:=ht.2 a (List.mem_cons_self ..)
  have hhd:(a :: l).headD []=a:=rfl
  rw [hhd] at h hm
  rw [Zj]
  have hr:∀ self,YV (a :: l) L self (Ye (a :: l) k,(k:Int),())=bT (bif decide (((a :: l).length:Int) > 0) == true then bT (Z9 (a :: l) 0) fun y=>some (decide ((k:Int) < (y.length:Int))) else some false) fun y=>bif y then bT (Z5 L ((a :: l),(k:Int),())) fun y=>bT (Nj 8 (Ye (a :: l) k) [y]) fun y=>self (y,Go.IntKind.i64.wrap ((k:Int) + 1),()) else Zj (Yl (a :: l) L (Ye (a :: l) k,(k:Int),())) L ([],0,()):=fun self=>rfl
  have hg:Z9 (a :: l) 0=some a:=rfl
  rw [hr,decide_eq_true (show ((a :: l).length:Int) > 0 by rw [List.length_cons]; omega),show (true == true)=true from rfl,cond_true,hg,ZP,ZP]
  rcases Nat.lt_or_ge k a.length with hlt | hge
  ·rw [decide_eq_true (by omega),cond_true,H6 hL (by omega) (fun r hr=>by have:=(ht.2 r hr).2.2.1; rw [hhd] at this; omega),ZP]
   have hap:Nj 8 (Ye (a :: l) k) [JL k 0 (a :: l)]=some (Ye (a :: l) (k + 1)):=by
    unfold Nj
    rw [Gt,List.length_singleton,if_pos (by omega),UW]
   rw [hap,ZP,YG (by omega)]
   exact UT hL h0 hne m (k + 1) (by rw [hhd]; omega) (by rw [hhd]; omega)
  ·obtain rfl:k=a.length:=by omega
   rw [decide_eq_false (by omega),cond_false]
   have hget:∀ r ∈ a :: l,∀ j,j < r.length→(Ye (a :: l) a.length)[j]? = (YD (a :: l))[j]?:=fun r hr j hj=>by
    have:=(ht.2 r hr).2.2.1
    rw [hhd] at this
    rw [Gs (by omega),VM h0 (by rw [hhd]; omega) (by rw [hhd]; omega)]
   have hfit:∀ r ∈ a :: l,r.length≤20∧Fits (Ye (a :: l) a.length) r:=fun r hr=>by
    refine ⟨(ht.2 r hr).2.1,fun j s hs=>?_⟩
    rw [hget r hr j (List.getElem?_eq_some_iff.1 hs).1]
    exact fits_all h0 r hr j s hs
   have e1:=UM (n0 := (a.length:Int)) (show 1000≤L by omega) ht.1 hfit L 0 [] (by omega) (by omega) (by simp)
   rw [List.drop_zero,List.nil_append] at e1
   refine e1.trans ?_
   have ec:=J9 (u := Ye (a :: l) a.length) (v := YD (a :: l)) (a :: l) fun r hr j hj=>by rw [List.getD_eq_getElem?_getD,List.getD_eq_getElem?_getD,hget r hr j hj]
   rw [ec]
theorem OC {L:Nat}(hL:1001≤L)(x:List (List (List UInt8))):WI L (x,())=some (MH x):=by
 rw [KW,O7 (by omega),ZP]
 unfold MH
 by_cases h0:Um x=0
 ·rw [h0,Rx,cond_false,if_pos rfl]
  by_cases hne:x=[]
  ·subst hne
   obtain ⟨m,rfl⟩:∃ m,L=m + 1:=⟨L - 1,by omega⟩
   rw [Zj]
   have hr:∀ self,YV [] (m + 1) self (([]:List Int),(0:Int),())=Zj (Yl [] (m + 1) ([],0,())) (m + 1) ([],0,()):=fun self=>rfl
   rw [hr,Zj]; rfl
  ·exact UT hL h0 hne L 0 (by omega) (by have:=(Qg h0).2; cases x with | nil=>exact absurd rfl hne | cons a l=>have:=(this a (List.mem_cons_self ..)).2.1; show a.length - 0 < L; omega)
 ·rw [TU h0,cond_true,if_neg h0]
theorem UO {x:List (List (List UInt8))}{a:Bool}{n:Int}{i:Nat}{y y0:List (List UInt8)}(hx:Z9 x (i:Int)=some y)(hi:i≤1000)(hy:y.length≤100)(self:Bool×Int×Int×PUnit→Option Bool)(hs:∀ a n,∃ b,self (a,n,((i + 1:Nat):Int),())=some b):∀ (m k:Nat) (a':Bool),k≤y.length→y.length - k < m→∃ b,Zj (Y4 x self (a,n,(i:Int),()) y0) m (a',(k:Int),())=some b
 | 0,k,a',h,hm=>absurd hm (by omega)
 | m + 1,k,a',h,hm=>by
  rw [Zj]
  have hr:∀ s1,Y4 x self (a,n,(i:Int),()) y0 s1 (a',(k:Int),())=bT (Z9 x (i:Int)) fun y_1=>bif decide ((k:Int) < (y_1.length:Int)) then bT (Z9 x (i:Int)) fun y=>bT (Z9 y (k:Int)) fun y=>bif decide ((y.length:Int) > 100) then some false else s1 (a',Go.IntKind.i64.wrap ((k:Int) + 1),()) else self (a',Go.IntKind.i64.wrap (n + (y0.length:Int)),Go.IntKind.i64.wrap ((i:Int) + 1),()):=fun s1=>rfl
  rw [hr,hx,ZP]
  rcases YR y h with ⟨rfl,hd⟩ | ⟨c,g,hd,hl⟩
  ·rw [MZ,cond_false,YG (by omega)]
   exact hs _ _
  ·rw [La hl,cond_true,ZP,g,ZP,YG (by omega)]
   by_cases hc:(c.length:Int) > 100
   ·rw [decide_eq_true hc,cond_true]; exact ⟨_,rfl⟩
   ·rw [decide_eq_false hc,cond_false]
    exact UO hx hi hy self hs m (k + 1) a' hl (by omega)
theorem J4 {L:Nat}(hL:1000≤L){x:List (List (List UInt8))}(hx:x.length≤600):∀ (m i:Nat) (a:Bool) (n:Int),i≤x.length→x.length - i < m→∃ b,Zj (Wh x L) m (a,n,(i:Int),())=some b
 | 0,i,a,n,h,hm=>absurd hm (by omega)
 | m + 1,i,a,n,h,hm=>by
  rw [Zj]
  have hr:∀ self,Wh x L self (a,n,(i:Int),())=bif decide ((i:Int) < (x.length:Int)) then bT (Z9 x (i:Int)) fun y=>bif decide ((y.length:Int) > 100) then some false else bT (Z9 x (i:Int)) fun y=>Zj (Y4 x self (a,n,(i:Int),()) y) L (a,0,()) else some (decide (n≤5000)):=fun self=>rfl
  rw [hr]
  rcases YR x h with ⟨rfl,hd⟩ | ⟨c,g,hd,hl⟩
  ·rw [MZ,cond_false]; exact ⟨_,rfl⟩
  ·rw [La hl,cond_true,g,ZP]
   by_cases hc:(c.length:Int) > 100
   ·rw [decide_eq_true hc,cond_true]; exact ⟨_,rfl⟩
   ·rw [decide_eq_false hc,cond_false,ZP]
    exact UO (y := c) g (by omega) (by omega) _ (fun a n=>J4 hL hx m (i + 1) a n hl (by omega)) L 0 a (by omega) (by omega)
theorem J5 {L:Nat}(hL:1000≤L)(x:List (List (List UInt8))):∃ b,Yv L (x,())=some b:=by
 rw [Ui]
 by_cases h:(x.length:Int) > 600
 ·rw [decide_eq_true h,cond_true]; exact ⟨_,rfl⟩
 ·rw [decide_eq_false h,cond_false]
  exact J4 hL (by omega) L 0 false 0 (by omega) (by omega)
theorem Gl {L:Nat}(hL:1001≤L)(x:List (List (List UInt8))):Yf L (x,())=some true:=by
 obtain ⟨b,hb⟩:=J5 (show 1000≤L by omega) x
 rw [Q5,hb,ZP]
 cases b with
 | false=>rfl
 | true =>
  rw [Bool.not_true,cond_false,show J8 x=some (MH x) from rfl,ZP,OC hL,ZP]
  congr 1
  simp
end Go.Proofs.YtcfjcimhjmpkiaaGreatDoor
end
section
namespace Go.Proofs.YtcfjcimhjmpkiaaGreatDoor
open Go Go.Proofs.YtcfjcimhjmpkiaaGreatDoor.Abs Go.Proofs.YtcfjcimhjmpkiaaGreatDoor.Tl
set_option maxRecDepth 100000
theorem VJ (s:List UInt8):∃ z,s=ZX s ++ z:=by
 refine ⟨(s.reverse.takeWhile (· == 32)).reverse,?_⟩
 unfold ZX
 rw [← List.reverse_append,List.takeWhile_append_dropWhile,List.reverse_reverse]
theorem OQ {s:List UInt8}{c:UInt8}(h:c ∈ ZX s):c ∈ s:=by
 obtain ⟨z,hz⟩:=VJ s
 rw [hz]; exact List.mem_append_left _ h
theorem XO:∀ (n:Nat) (s:List UInt8),s.length≤n→ZX s=[]∨∃ p c,ZX s=p ++ [c]∧c≠32
 | n,s,h=>by
  rcases Qj s with rfl | ⟨p,c,rfl⟩
  ·exact .inl rfl
  ·rw [Y1]
   rw [List.length_append,List.length_singleton] at h
   by_cases hc:c=32
   ·rw [if_pos hc]
    cases n with
    | zero=>omega
    | succ n=>exact XO n p (by omega)
   ·rw [if_neg hc]; exact .inr ⟨p,c,rfl,hc⟩
theorem XZ {p:List UInt8}{c:UInt8}(hc:c≠32):∀ (n:Nat) (b:List UInt8),b.length≤n→ZX ((p ++ [c]) ++ b)=(p ++ [c]) ++ ZX b
 | n,b,h=>by
  rcases Qj b with rfl | ⟨q,d,rfl⟩
  ·rw [List.append_nil,Y1,if_neg hc,OT,List.append_nil]
  ·rw [List.length_append,List.length_singleton] at h
   rw [← List.append_assoc,Y1,Y1]
   by_cases hd:d=32
   ·rw [if_pos hd,if_pos hd]
    cases n with
    | zero=>omega
    | succ n=>exact XZ hc n q (by omega)
   ·rw [if_neg hd,if_neg hd,List.append_assoc]
def Jy (u:List Int):Nat→Nat→Nat
 | _,0=>0
 | k0,k + 1=>(u.getD k0 0).toNat + 1 + Jy u (k0 + 1) k
theorem UL (u:List Int):∀ (k k0:Nat),Jy u k0 (k + 1)=Jy u k0 k + (u.getD (k0 + k) 0).toNat + 1
 | 0,k0=>by rw [Jy,Jy,Jy]; simp
 | k + 1,k0=>by
  have ih:=UL u k (k0 + 1)
  rw [Jy,ih,Jy,show k0 + 1 + k=k0 + (k + 1) by omega]
  omega
theorem Ol {u:List Int}:∀ (r:List (List UInt8)) (k0 k:Nat) (s:List UInt8),(∀ j s,r[j]? = some s→∃ w,u[k0 + j]? = some w∧(s.length:Int)≤w∧w≤40)→r[k]? = some s→∃ pre post,ZM u r k0=pre ++ (s ++ post)∧pre.length=Jy u k0 k
 | [],k0,k,s,_,h=>by simp at h
 | s0 :: r,k0,k,s,hf,h=>by
  obtain ⟨w,hw0,h1,h2⟩:=hf 0 s0 rfl
  have hw:u[k0]? = some w:=hw0
  rw [ZM,Xb hw]
  cases k with
  | zero =>
   obtain rfl:=Option.some.inj (by simpa using h:some s0=some s)
   exact ⟨[],List.replicate (w - (s0.length:Int) + 1).toNat 32 ++ ZM u r (k0 + 1),by simp,rfl⟩
  | succ k =>
   obtain ⟨pre,post,e1,e2⟩:=Ol r (k0 + 1) k s (fun j t ht=>by
    obtain ⟨w,h⟩:=hf (j + 1) t (by simpa using ht)
    exact ⟨w,by rw [show k0 + 1 + j=k0 + (j + 1) by omega]; exact h.1,h.2⟩) (by simpa using h)
   refine ⟨s0 ++ List.replicate (w - (s0.length:Int) + 1).toNat 32 ++ pre,post,by rw [e1]; simp,?_⟩
   rw [List.length_append,List.length_append,List.length_replicate,e2,Jy,Xb hw]
   omega
theorem Om {u:List Int}:∀ (r:List (List UInt8)) (k:Nat),(∀ s ∈ r,s.all okB=true)→∀ c ∈ ZM u r k,c≠10
 | [],k,_,c,h=>by cases h
 | s :: r,k,hr,c,h=>by
  rw [ZM] at h
  rcases List.mem_append.1 h with h | h
  ·rcases List.mem_append.1 h with h | h
   ·have h1:=List.all_eq_true.1 (hr s (List.mem_cons_self ..)) c h
    intro e
    subst e
    cases h1
   ·rw [List.eq_of_mem_replicate h]; decide
  ·exact Om r (k + 1) (fun x hx=>hr x (List.mem_cons_of_mem _ hx)) c h
def Ir (line:List UInt8)(p:Nat)(c:List UInt8):Prop:=c=[]∨(p + c.length≤line.length∧(line.take (p + c.length)).drop p=c)
theorem OI {u:List Int}{r:List (List UInt8)}{k:Nat}{s:List UInt8}(hf:Fits u r)(hs:r[k]? = some s):Ir (ZX (ZM u r 0)) (Jy u 0 k) (ZX s):=by
 obtain ⟨pre,post,e1,e2⟩:=Ol (u := u) r 0 k s (fun j t ht=>by rw [Nat.zero_add]; exact hf j t ht) hs
 rcases XO s.length s (Nat.le_refl _) with h | ⟨p,c,h,hc⟩
 ·exact .inl h
 ·obtain ⟨z,hz⟩:=VJ s
  have e3:ZM u r 0=((pre ++ p) ++ [c]) ++ (z ++ post):=by
   rw [e1,hz,h]; simp
  have e4:ZX (ZM u r 0)=pre ++ (ZX s ++ ZX (z ++ post)):=by
   rw [e3,XZ hc _ _ (Nat.le_refl _),h]; simp
  refine .inr ⟨?_,?_⟩
  ·rw [e4,← e2]; simp only [List.length_append]; omega
  ·rw [e4,← e2,← List.append_assoc,← List.length_append,List.take_left',List.drop_left']
   ·rfl
   ·rfl
end Go.Proofs.YtcfjcimhjmpkiaaGreatDoor
end
section
namespace Go.Proofs.YtcfjcimhjmpkiaaGreatDoor
open Go Go.Proofs.YtcfjcimhjmpkiaaGreatDoor.Abs Go.Proofs.YtcfjcimhjmpkiaaGreatDoor.Tl
set_option maxRecDepth 100000
theorem Hw {α:Type}{l:List α}{a b:Nat}(h1:a≤b)(h2:b≤l.length):XY l (a:Int) (b:Int)=some ((l.take b).drop a):=by
 unfold XY
 rw [if_pos ⟨by omega,by omega,by omega⟩,Int.toNat_natCast,Int.toNat_natCast]
theorem MR (c:UInt8):((c.toNat:Int) == 32)=decide (c=32):=(JK c 32 (by omega):_)
theorem LH (c:UInt8):((c.toNat:Int) == 10)=decide (c=10):=(JK c 10 (by omega):_)
theorem MQ (c:UInt8):((c.toNat:Int) != 10)=decide (c≠10):=by
 show (!((c.toNat:Int) == 10))=_
 rw [LH]
 by_cases hc:c=10 <;> simp [hc]
section
variable {x:List (List (List UInt8))}{L:Nat}
theorem GL {line:List UInt8}{b:Bool}{p k w:Nat}(hk:k≤1000)(hp:p≤100000)(hw:w≤1000)(hl:line.length≤100000)(hW:Z5 L (x,(k:Int),())=some (w:Int))(self:Bool×Int×Int×PUnit→Option Bool):∀ (m:Nat) (s:List UInt8),s.length < m→s.length≤1000→Ir line p (ZX s) →
  Zj (ZA x L line self (b,(p:Int),(k:Int),())) m (s,())=self (b,((p + w + 1:Nat):Int),((k + 1:Nat):Int),())
 | 0,s,h,_,_=>absurd h (Nat.not_lt_zero _)
 | m + 1,s,h,hs,hst=>by
  rw [Zj]
  have hr:∀ s1,ZA x L line self (b,(p:Int),(k:Int),()) s1 (s,())=bT (bif decide ((s.length:Int) > 0) == true then bT (Z9 s (Go.IntKind.i64.wrap ((s.length:Int) - 1))) fun y=>some ((y.toNat:Int) == 32) else some false) fun y_1=>bif y_1 then bT (XY s 0 (Go.IntKind.i64.wrap ((s.length:Int) - 1))) fun y=>s1 (y,()) else bT (bif decide ((s.length:Int) > 0) == true then bif decide (Go.IntKind.i64.wrap ((p:Int) + (s.length:Int)) > (line.length:Int)) == false then bT (XY line (p:Int) (Go.IntKind.i64.wrap ((p:Int) + (s.length:Int)))) fun y=>some (!(y == s)) else some true else some false) fun y=>bif y then some false else bT (Z5 L (x,(k:Int),())) fun y=>self (b,Go.IntKind.i64.wrap ((p:Int) + Go.IntKind.i64.wrap (y + 1)),Go.IntKind.i64.wrap ((k:Int) + 1),()):=fun s1=>rfl
  have hend:(bT (Z5 L (x,(k:Int),())) fun y=>self (b,Go.IntKind.i64.wrap ((p:Int) + Go.IntKind.i64.wrap (y + 1)),Go.IntKind.i64.wrap ((k:Int) + 1),()))=self (b,((p + w + 1:Nat):Int),((k + 1:Nat):Int),()):=by
   rw [hW,ZP,YG (by omega),YG (by omega),wrap_in (by omega) (by omega),show (p:Int) + ((w + 1:Nat):Int)=((p + w + 1:Nat):Int) by omega]
  rw [hr]
  rcases Qj s with rfl | ⟨q,c,rfl⟩
  ·rw [show decide ((([]:List UInt8).length:Int) > 0)=false from rfl,show (false == true)=false from rfl,cond_false,ZP,cond_false,cond_false,ZP,cond_false,hend]
  ·have hlen:(q ++ [c]).length=q.length + 1:=by rw [List.length_append,List.length_singleton]
   have hg:Z9 (q ++ [c]) (q.length:Int)=some c:=by rw [Vz]; simp
   have hw1:Go.IntKind.i64.wrap (((q ++ [c]).length:Int) - 1)=(q.length:Int):=by rw [hlen,wrap_in (n := ((q.length + 1:Nat):Int) - 1) (by omega) (by omega)]; omega
   have hsub:XY (q ++ [c]) 0 (q.length:Int)=some q:=by
    have:=Hw (l := q ++ [c]) (a := 0) (b := q.length) (by omega) (by omega)
    rw [List.drop_zero,List.take_left'] at this
    ·exact this
    ·rfl
   have d1:decide (((q ++ [c]).length:Int) > 0)=true:=decide_eq_true (by omega)
   rw [d1,show (true == true)=true from rfl,cond_true,hw1,hg,ZP,ZP,MR,hsub,ZP,cond_true]
   rw [Y1] at hst
   by_cases hc:c=32
   ·rw [decide_eq_true hc,cond_true]
    rw [if_pos hc] at hst
    exact GL hk hp hw hl hW self m q (by omega) (by omega) hst
   ·rw [decide_eq_false hc,cond_false]
    rw [if_neg hc] at hst
    rcases hst with h0 | ⟨h1,h2⟩
    ·exact absurd (congrArg List.length h0) (by rw [hlen]; simp)
    ·have hw2:Go.IntKind.i64.wrap ((p:Int) + ((q ++ [c]).length:Int))=((p + (q ++ [c]).length:Nat):Int):=by rw [wrap_in (by omega) (by omega)]; omega
     have d3:decide (((p + (q ++ [c]).length:Nat):Int) > (line.length:Int))=false:=decide_eq_false (by omega)
     rw [hw2,d3,show (false == false)=true from rfl,cond_true,Hw (by omega) h1,ZP,h2,ZP,beq_self_eq_true,Bool.not_true,cond_false,hend]
theorem GM {line rest:List UInt8}{b0:Bool}{t0:List UInt8}{i:Nat}(hi:i≤1000)(hL:1001≤L)(hx1:x.length≤1000){r:List (List UInt8)}(hx:x[i]? = some r)(hr20:r.length≤20)(hc40:∀ s ∈ r,s.length≤40)(hl:line.length≤100000){u:List Int}(hu:∀ k,k < r.length→u.getD k 0=JL k 0 x∧JL k 0 x≤40∧0≤JL k 0 x)(hk:∀ y ∈ x,y.length=r.length)(hst:∀ k s,r[k]? = some s→Ir line (Jy u 0 k) (ZX s))(self:Bool×List UInt8×Int×PUnit→Option Bool):∀ (m k:Nat) (b:Bool),k≤r.length→r.length - k < m→Jy u 0 k≤41 * k →
  Zj (Zp x L self (b0,t0,(i:Int),()) line rest) m (b,(Jy u 0 k:Int),(k:Int),())=self (b,rest,((i + 1:Nat):Int),())
 | 0,k,b,h,hm,_=>absurd hm (by omega)
 | m + 1,k,b,h,hm,hpos=>by
  rw [Zj]
  have hr:∀ s1,Zp x L self (b0,t0,(i:Int),()) line rest s1 (b,(Jy u 0 k:Int),(k:Int),())=bT (Z9 x (i:Int)) fun y_2=>bif decide ((k:Int) < (y_2.length:Int)) then bT (Z9 x (i:Int)) fun y_3=>bT (Z9 y_3 (k:Int)) fun y_4=>Zj (ZA x L line s1 (b,(Jy u 0 k:Int),(k:Int),())) L (y_4,()) else self (b,rest,Go.IntKind.i64.wrap ((i:Int) + 1),()):=fun s1=>rfl
  rw [hr,get_at hx,ZP]
  rcases Nat.lt_or_ge k r.length with hlt | hge
  ·obtain ⟨s,hs,hd⟩:=IU hlt
   obtain ⟨hu1,hu2,hu3⟩:=hu k hlt
   have h40:=hc40 s (List.mem_of_getElem? hs)
   obtain ⟨w,hw⟩:∃ w:Nat,JL k 0 x=w:=⟨(JL k 0 x).toNat,by omega⟩
   have hW:Z5 L (x,(k:Int),())=some (w:Int):=by
    rw [H6 hL hx1 (fun y hy=>by have:=hk y hy; omega),hw]
   have hp2:Jy u 0 (k + 1)=Jy u 0 k + w + 1:=by
    rw [UL,Nat.zero_add,hu1,hw,Int.toNat_natCast]
   have e1:=GL (b := b) (p := Jy u 0 k) (k := k) (w := w) (by omega) (by omega) (by omega) hl hW (Zj (Zp x L self (b0,t0,(i:Int),()) line rest) m) L s (by omega) (by omega) (hst k s hs)
   rw [decide_eq_true (by omega),cond_true,ZP,get_at hs,ZP]
   refine e1.trans ?_
   rw [← hp2]
   exact GM hi hL hx1 hx hr20 hc40 hl hu hk hst self m (k + 1) b (by omega) (by omega) (by omega)
  ·rw [decide_eq_false (by omega),cond_false,YG (by omega)]
theorem GN {b:Bool}{line rest:List UInt8}{i:Nat}(hi:i≤1000)(hlen:line.length + rest.length≤10000000)(h10:∀ c ∈ line,c≠10)(h32:line=[]∨∃ p c,line=p ++ [c]∧c≠32)(self:Bool×List UInt8×Int×PUnit→Option Bool):∀ (m n:Nat),n≤line.length→line.length - n < m →
  Zj (ZB x L self (b,line ++ [10] ++ rest,(i:Int),())) m ((n:Int),())=Zj (Zp x L self (b,line ++ [10] ++ rest,(i:Int),()) line rest) L (b,0,0,())
 | 0,n,h,hm=>absurd hm (by omega)
 | m + 1,n,h,hm=>by
  rw [Zj]
  have hr:∀ (t:List UInt8) s1,ZB x L self (b,t,(i:Int),()) s1 ((n:Int),())=bT (bif decide ((n:Int) < (t.length:Int)) == true then bT (Z9 t (n:Int)) fun y=>some ((y.toNat:Int) != 10) else some false) fun y=>bif y then s1 (Go.IntKind.i64.wrap ((n:Int) + 1),()) else bT (bif ((n:Int) == (t.length:Int)) == false then bif decide ((n:Int) > 0) == true then bT (Z9 t (Go.IntKind.i64.wrap ((n:Int) - 1))) fun y=>some ((y.toNat:Int) == 32) else some false else some true) fun y=>bif y then some false else bT (XY t 0 (n:Int)) fun y=>bT (XY t (Go.IntKind.i64.wrap ((n:Int) + 1)) (t.length:Int)) fun y_1=>Zj (Zp x L self (b,t,(i:Int),()) y y_1) L (b,0,0,()):=fun t s1=>rfl
  have htl:(line ++ [10] ++ rest).length=line.length + 1 + rest.length:=by simp only [List.length_append,List.length_singleton]
  have d1:decide ((n:Int) < ((line ++ [10] ++ rest).length:Int))=true:=decide_eq_true (by omega)
  rw [hr,d1,show (true == true)=true from rfl,cond_true,YG (by omega)]
  rcases Nat.lt_or_ge n line.length with hlt | hge
  ·obtain ⟨c,hs,hd⟩:=IU hlt
   have hg:Z9 (line ++ [10] ++ rest) (n:Int)=some c:=by rw [Vz,List.append_assoc,List.getElem?_append_left hlt]; exact hs
   rw [hg,ZP,ZP,MQ,decide_eq_true (h10 c (List.mem_of_getElem? hs)),cond_true]
   exact GN hi hlen h10 h32 self m (n + 1) hlt (by omega)
  ·obtain rfl:n=line.length:=by omega
   have hg:Z9 (line ++ [10] ++ rest) (line.length:Int)=some 10:=by rw [Vz]; simp
   have hne:((line.length:Int) == ((line ++ [10] ++ rest).length:Int))=false:=by rw [beq_eq_false_iff_ne]; omega
   have hlast:(bif decide ((line.length:Int) > 0) == true then bT (Z9 (line ++ [10] ++ rest) (Go.IntKind.i64.wrap ((line.length:Int) - 1))) fun y=>some ((y.toNat:Int) == 32) else some false)=some false:=by
    rcases h32 with rfl | ⟨p,c,rfl,hc⟩
    ·rfl
    ·have hl1:(p ++ [c]).length=p.length + 1:=by rw [List.length_append,List.length_singleton]
     have hw1:Go.IntKind.i64.wrap (((p ++ [c]).length:Int) - 1)=(p.length:Int):=by rw [hl1,wrap_in (n := ((p.length + 1:Nat):Int) - 1) (by omega) (by omega)]; omega
     have hg1:Z9 (p ++ [c] ++ [10] ++ rest) (p.length:Int)=some c:=by rw [Vz]; simp
     have d2:decide (((p ++ [c]).length:Int) > 0)=true:=decide_eq_true (by omega)
     rw [d2,show (true == true)=true from rfl,cond_true,hw1,hg1,ZP,MR,decide_eq_false hc]
   have hs1:XY (line ++ [10] ++ rest) 0 (line.length:Int)=some line:=by
    have:=Hw (l := line ++ [10] ++ rest) (a := 0) (b := line.length) (by omega) (by omega)
    rw [List.drop_zero,List.append_assoc,List.take_left'] at this
    ·rw [List.append_assoc]; exact this
    ·rfl
   have hs2:XY (line ++ [10] ++ rest) ((line.length + 1:Nat):Int) ((line ++ [10] ++ rest).length:Int)=some rest:=by
    rw [Hw (by omega) (Nat.le_refl _),List.take_length,List.drop_left']
    rw [List.length_append,List.length_singleton]
   rw [hg,ZP,MQ,ZP,decide_eq_false (by simp),cond_false,hne,show (false == false)=true from rfl,cond_true,hlast,ZP,cond_false,hs1,ZP,hs2,ZP]
end
theorem Hz {u:List Int}:∀ (l:List (List (List UInt8))),(∀ r ∈ l,r.length≤20∧Fits u r)→(Y9 u l).length≤1000 * l.length
 | [],_=>Nat.zero_le _
 | r :: l,h=>by
  have ih:=Hz l fun x hx=>h x (List.mem_cons_of_mem _ hx)
  obtain ⟨h20,hf⟩:=h r (List.mem_cons_self ..)
  have h1:=X7 (u := u) r 0 fun j s hj=>by rw [Nat.zero_add]; exact hf j s hj
  have h2:=Vo (ZM u r 0)
  rw [Y9,List.length_append,List.length_append,List.length_singleton,List.length_cons]
  omega
theorem GU {x:List (List (List UInt8))}{L:Nat}(hL:100000≤L)(h0:Um x=0):∀ (m i:Nat) (b:Bool),i≤x.length→x.length - i < m→Zj (Zq x L) m (b,Y9 (YD x) (x.drop i),(i:Int),())=some true
 | 0,i,b,h,hm=>absurd hm (by omega)
 | m + 1,i,b,h,hm=>by
  have ht:=Qg h0
  rw [Zj]
  have hr:∀ (t:List UInt8) self,Zq x L self (b,t,(i:Int),())=bif decide ((i:Int) < (x.length:Int)) then Zj (ZB x L self (b,t,(i:Int),())) L (0,()) else some (t == [] && true):=fun t self=>rfl
  rw [hr]
  rcases Nat.lt_or_ge i x.length with hlt | hge
  ·obtain ⟨r,hs,hd⟩:=IU hlt
   have hrm:=List.mem_of_getElem? hs
   obtain ⟨hr1,hr2,hr3,hr4⟩:=ht.2 r hrm
   have hf:=fits_all h0 r hrm
   have h1:=X7 (u := YD x) r 0 fun j s hj=>by rw [Nat.zero_add]; exact hf j s hj
   have h2:=Vo (ZM (YD x) r 0)
   have h3:=Hz (u := YD x) (x.drop (i + 1)) fun y hy=>⟨(ht.2 y (List.mem_of_mem_drop hy)).2.1,fits_all h0 y (List.mem_of_mem_drop hy)⟩
   have h4:(x.drop (i + 1)).length≤500:=by rw [List.length_drop]; omega
   rw [decide_eq_true (by omega),cond_true,hd,Y9]
   have e1:=GN (x := x) (L := L) (b := b) (line := ZX (ZM (YD x) r 0)) (rest := Y9 (YD x) (x.drop (i + 1))) (i := i) (by omega) (by omega) (fun c hc=>Om r 0 (fun s hs=>(hr4 s hs).2) c (OQ hc)) (XO _ _ (Nat.le_refl _)) (Zj (Zq x L) m) L 0 (by omega) (by omega)
   refine e1.trans ?_
   have e2:=GM (x := x) (L := L) (line := ZX (ZM (YD x) r 0)) (rest := Y9 (YD x) (x.drop (i + 1))) (b0 := b) (t0 := ZX (ZM (YD x) r 0) ++ [10] ++ Y9 (YD x) (x.drop (i + 1))) (i := i) (by omega) (by omega) (by omega) hs hr2 (fun s hs=>(hr4 s hs).1) (by omega) (u := YD x) (fun k hk=>by
     have hg:=VM h0 (j := k) (by omega) (by omega)
     refine ⟨Xb hg,?_,IE k x 0⟩
     exact IC k x 0 (by omega) fun y hy=>by
      have hy2:=ht.2 y hy
      exact (hy2.2.2.2 _ (getD_mem (by omega))).1) (fun y hy=>by rw [(ht.2 y hy).2.2.1,hr3]) (fun k s hk=>OI hf hk) (Zj (Zq x L) m) L 0 b (by omega) (by omega) (by rw [Jy]; omega)
   refine e2.trans ?_
   exact GU hL h0 m (i + 1) b (by omega) (by omega)
  ·obtain rfl:i=x.length:=by omega
   rw [decide_eq_false (by omega),cond_false,List.drop_eq_nil_of_le (Nat.le_refl _),Y9]; rfl
theorem GV {x:List (List (List UInt8))}{L:Nat}(hL:100000≤L)(h0:Um x=0){e:Int×PUnit}:∀ (m i:Nat) (b:Bool),i≤x.length→x.length - i < m→Zj (Yd x L (Y9 (YD x) x,e)) m (b,(i:Int),())=some true
 | 0,i,b,h,hm=>absurd hm (by omega)
 | m + 1,i,b,h,hm=>by
  have ht:=Qg h0
  rw [Zj]
  have hr:∀ self,Yd x L (Y9 (YD x) x,e) self (b,(i:Int),())=bif decide ((i:Int) < (x.length:Int)) then bT (Z9 x (i:Int)) fun y=>bT (Z9 x 0) fun y_1=>bif (y.length:Int) != (y_1.length:Int) then some false else self (b,Go.IntKind.i64.wrap ((i:Int) + 1),()) else Zj (Zq x L) L (b,Y9 (YD x) x,0,()):=fun self=>rfl
  rw [hr]
  rcases Nat.lt_or_ge i x.length with hlt | hge
  ·obtain ⟨r,hs,hd⟩:=IU hlt
   have hr3:=(ht.2 r (List.mem_of_getElem? hs)).2.2.1
   have hne:((r.length:Int) != ((x.headD []).length:Int))=false:=by rw [hr3]; simp
   rw [decide_eq_true (by omega),cond_true,get_at hs,ZP,JQ x hlt,ZP,hne,cond_false,YG (by omega)]
   exact GV hL h0 m (i + 1) b (by omega) (by omega)
  ·rw [decide_eq_false (by omega),cond_false]
   have:=GU hL h0 L 0 b (by omega) (by omega)
   rw [List.drop_zero] at this
   exact this
theorem Ih {L:Nat}(hL:100000≤L)(x:List (List (List UInt8))):Yk L (x,())=some true:=by
 obtain ⟨b,hb⟩:=J5 (show 1000≤L by omega) x
 rw [Xf,hb,ZP]
 cases b with
 | false=>rfl
 | true =>
  rw [Bool.not_true,cond_false,show J8 x=some (MH x) from rfl,ZP]
  unfold MH
  by_cases h0:Um x=0
  ·rw [if_pos h0]
   have hz:((0:Int) != 0)=false:=rfl
   dsimp only
   rw [hz,cond_false]
   exact GV hL h0 L 0 false (by omega) (by have:=(Qg h0).1; omega)
  ·rw [if_neg h0]
   dsimp only
   rw [TU h0,cond_true]; rfl
end Go.Proofs.YtcfjcimhjmpkiaaGreatDoor
end
