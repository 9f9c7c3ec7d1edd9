import Derived.Test.YtgjcjbhhhlelnaaGreatDoorHWa14
set_option linter.all false
section
namespace Go.Proofs.YtgjcjbhhhlelnaaGreatDoor
open Go Go.Proofs.YtgjcjbhhhlelnaaGreatDoor.Abs Go.Proofs.YtgjcjbhhhlelnaaGreatDoor.Tl
set_option maxRecDepth 100000
theorem Zli (s:List UInt8)(l:List (List UInt8)):(l.any fun k=>decide (s=k))=l.contains s:=by
 induction l with
 | nil=>rfl
 | cons x l ih=>rw [List.any_cons,ih,List.contains_cons,ZU]
theorem ZeJ (L:Nat)(l:List (List UInt8))(s:List UInt8)(hl:Len l)(hL:l.length < L):Ya L (l,s,())=some (l.contains s):=by
 rw [Jm,U0,Zjs l (fun l i=>some (G8 (fun k=>decide (s=k)) l i)) hL (fun self i x r hx hi _ e=>by
  rw [Wl]; simp only [Zj,Zd,cond_true,cond_false,Zf,Z5,Za,Zq,condC,Zi,Zh,Zn,ZL,ZU,ZE,hi,hx,wrap_succ hi (by omega),e,G8]; simp only [Yo,Xh,if_true,if_false,Bool.false_eq_true,ne_eq,decide_not,gt_iff_lt,ge_iff_le]) (fun self=>by
  rw [Wl]; simp only [Zj,Zd,cond_true,cond_false,Zf,Z5,Za,Zq,condC,Zi,Zh,Zn,ZL,ZU,ZE,G8]),Z5,← Zli]
 exact congrArg some (Fa (fun k=>decide (s=k)) l 0 (Int.le_refl _))
theorem Zf2 (l:List (List UInt8))(s:List UInt8):hasK MK.str l s=l.contains s:=by
 induction l with
 | nil=>rfl
 | cons x l ih =>
  rw [List.contains_cons,← ih]
  rfl
theorem ZkW (l:List (List UInt8))(s:List UInt8)(h:l.contains s=false):CP MK.str l s=l ++ [s]:=by
 unfold CP; rw [Zf2,h]; rfl
theorem KA (s:List UInt8)(seen:Seen):(bif !decide (V9 s=0) then some (V9 s,seen,()) else bif hasK MK.str seen s then some (4,seen,()) else some (0,CP MK.str seen s,()))=some ((Y7 s seen).1,(Y7 s seen).2,()):=by
 rw [Zf2]
 unfold Y7
 by_cases h:V9 s=0
 ·cases c:seen.contains s
  ·rw [ZkW _ _ c]; simp [h]
  ·simp [h]
 ·simp [h]
theorem Ux (L:Nat)(a b c:Int):ZG L (a,b,c,())=some (btw a b c):=ZdM L a b c
theorem ZlJ (L:Nat)(t:Int):Vb L (t,())=some (btw t 1 3):=Zgb L t
theorem Zth (L:Nat)(t n:Int):VV L (t,n,())=some (fitsT t n):=by
 simp only [Zj,Zd,cond_true,cond_false,Zf,Z5,Za,Zq,condC,Zi,Zh,Zn,ZL,ZU,ZE,ZhT,Zz7,Ux,fitsT]; simp only [Yo,Xh,if_true,if_false,Bool.false_eq_true,ne_eq,decide_not,gt_iff_lt,ge_iff_le]
theorem ZeK (L:Nat)(d:Zc)(s:List UInt8)(hl:Len d.Routines)(hL:d.Routines.length < L):Qh L (d,s,())=some (G8 (fun r:ZT=>decide (r.Name=s)) d.Routines 0):=by
 rw [ZcB,Zjs d.Routines (fun l i=>some (G8 (fun r:ZT=>decide (r.Name=s)) l i)) hL (fun self i x r hx hi _ e=>by
  rw [UI]; simp only [Zj,Zd,cond_true,cond_false,Zf,Z5,Za,Zq,condC,Zi,Zh,Zn,ZL,ZU,ZE,hi,hx,wrap_succ hi (by omega),e,G8]; simp only [Yo,Xh,if_true,if_false,Bool.false_eq_true,ne_eq,decide_not,gt_iff_lt,ge_iff_le]) (fun self=>by
  rw [UI]; simp only [Zj,Zd,cond_true,cond_false,Zf,Z5,Za,Zq,condC,Zi,Zh,Zn,ZL,ZU,ZE,G8]),Z5]
theorem ZfE {α σ:Type}{f:(Int×σ×PUnit→Option (Int×σ×PUnit))→Int×σ×PUnit→Option (Int×σ×PUnit)}(l:List α)(step:α→σ→Int×σ){m:Nat}(hm:l.length < m)(s:σ)
  (h1:∀ self s (i:Nat) x,l[i]? = some x→i < l.length→x ∈ l→f self ((i:Int),s,())=bif !decide ((step x s).1=0) then some ((step x s).1,(step x s).2,()) else self ((i:Int) + 1,(step x s).2,()))
  (h2:∀ self s,f self ((l.length:Int),s,())=some (0,s,())):Zt f m (0,s,())=some ((YH step l s).1,(YH step l s).2,()) :=
 Zcs l (fun s i=>(i,s,())) (fun l s=>some ((YH step l s).1,(YH step l s).2,())) (fun self s i x r hx hi mem e=>by
  rw [h1 self s i x hx hi mem,e,YH]
  by_cases c:(step x s).1=0 <;> simp [c]) (fun self s=>by rw [h2]; rfl) m 0 s (Nat.zero_le _) (by omega)
theorem G6 {α σ:Type}(most:Int)(step:α→σ→Int×σ)(l:List α)(s:σ){X:Option (Int×σ×PUnit)}(h:X=some ((YH step l s).1,(YH step l s).2,())):(bif decide ((l.length:Int) > most) then some (6,s,()) else X)=some ((QY most step l s).1,(QY most step l s).2,()):=by
 subst h
 unfold QY
 by_cases c:most < (l.length:Int) <;> simp [c]
def ZfW (l:List UE):Nat→Option Int
 | 0=>none
 | i + 1=>l[i]?.map (·.At_)
theorem ZpP (l:List UE)(x:UE)(i:Nat)(hi:i < l.length)(hl:l.length≤4611686018427387):(bif decide ((i:Int) > 0) then bT (ZK l (IntKind.i64.wrap ((i:Int) - 1))) fun y:UE=>some (decide (x.At_≤y.At_)) else some false)=some ((ZfW l i).isSome && decide (x.At_≤(ZfW l i).getD 0)):=by
 cases i with
 | zero=>rfl
 | succ i =>
  rw [show (((i + 1:Nat):Int) - 1)=(i:Int) by omega,wrap_in (by omega) (by omega),Zf]
  have hx:=List.getElem?_eq_getElem (show i < l.length by omega)
  rw [hx,ZfW,hx,show decide (((i + 1:Nat):Int) > 0)=true by simp only [decide_eq_true_eq]; omega]
  rfl
theorem Znt (L:Nat)(d:Zy)(h:Wp d)(hL:d.Shift.length < L)(hc:IntKind.i64.wrap (d.Cycle - 1)=d.Cycle - 1):Zt (QL d L) L (0,())=some (Zq5 d.Cycle none d.Shift):=by
 have hl:=h.s
 refine Zcr (f := QL d L) d.Shift.length (fun i=>(i,())) (fun i=>some (Zq5 d.Cycle (ZfW d.Shift i) (d.Shift.drop i))) (fun self i hi e=>?_) (fun self=>?_) L 0 (Nat.zero_le _) (by omega)
 ·have hx:=List.getElem?_eq_getElem hi
  rw [List.drop_eq_getElem_cons hi,Zq5]
  rw [show ZfW d.Shift (i + 1)=some (d.Shift[i].At_) by rw [ZfW,hx]; rfl] at e
  rw [QL]
  simp only [Zj,Zd,cond_true,cond_false,Zf,Z5,Za,Zq,condC,Zi,Zh,Zn,ZL,ZU,ZE,hi,hx,Ux,wrap_succ hi (by omega),e,hc,ZpP _ _ _ hi hl]; simp only [Yo,Xh,if_true,if_false,Bool.false_eq_true,ne_eq,decide_not,gt_iff_lt,ge_iff_le]
  cases btw d.Shift[i].At_ 0 (d.Cycle - 1) <;> cases btw d.Shift[i].Units 0 1000 <;> simp
 ·rw [QL]; simp only [Zj,Zd,cond_true,cond_false,Zf,Z5,Za,Zq,condC,Zi,Zh,Zn,ZL,ZU,ZE,List.drop_length,Zq5]
theorem ZmS (L:Nat)(d:Zy)(h:Wp d)(hL:d.Shift.length < L):Vz L (d,())=some (Zq4 d):=by
 simp only [Zj,Zd,cond_true,cond_false,Zf,Z5,Za,Zq,condC,Zi,Zh,Zn,ZL,ZU,ZE,ZaL,Ux,Zq4]
 by_cases hc:btw d.Cycle 1 1000000000=true
 ·have:=Znt L d h hL (by simp only [btw,Bool.and_eq_true,decide_eq_true_eq] at hc; exact wrap_in (by omega) (by omega))
  rw [this]; simp only [Yo,Xh,if_true,if_false,Bool.false_eq_true,ne_eq,decide_not,gt_iff_lt,ge_iff_le]
 ·rw [Bool.not_eq_true] at hc
  simp only [Yo,Xh,if_true,if_false,Bool.false_eq_true,ne_eq,decide_not,gt_iff_lt,ge_iff_le,hc,Bool.not_false]
theorem ZmN (L:Nat)(d:Zc)(h:ZH d)(hL:SizeOf.sizeOf d≤L)(f:LC)(hf:ZiO f)(hfL:SizeOf.sizeOf f≤L)(h1:100≤L):Vy L (d,f,())=some (Zll d f):=by
 have hz:SizeOf.sizeOf f.Up < SizeOf.sizeOf f∧SizeOf.sizeOf f.Down < SizeOf.sizeOf f:=by cases f; simp; omega
 have hs:d.Streams.length < L:=by have:=ZI d.Streams; have:SizeOf.sizeOf d.Streams < SizeOf.sizeOf d:=by { cases d; simp; omega }; omega
 simp only [Zj,Zd,cond_true,cond_false,Zf,Z5,Za,Zq,condC,Zi,Zh,Zn,ZL,ZU,ZE,ZaK,ZfP L f.Up _ hf.Up (by omega),ZfP L f.Down _ hf.Down (by omega),Gm,ZeJ L d.Streams f.Stream (by have:=h.st; unfold Len; omega) hs,Ti L f.Up hf.Up (by omega) h1,Ti L f.Down hf.Down (by omega) h1,Zll]; simp only [Yo,Xh,if_true,if_false,Bool.false_eq_true,ne_eq,decide_not,gt_iff_lt,ge_iff_le]
theorem ZaY {α:Type}(p:α→Bool):∀ (l:List α) (i:Int),(l.find? p=none∧G8 p l i=-1)∨∃ (k:Nat) (r:α),l.find? p=some r∧G8 p l i=i + k∧l[k]? = some r
 | [],i=>.inl ⟨rfl,rfl⟩
 | x :: l,i=>by
  by_cases hx:p x=true
  ·exact .inr ⟨0,x,by simp [hx],by simp [G8,hx],rfl⟩
  ·rw [Bool.not_eq_true] at hx
   rcases ZaY p l (i + 1) with ⟨a,b⟩ | ⟨k,r,a,b,c⟩
   ·exact .inl ⟨by simp [hx,a],by simp [G8,hx,b]⟩
   ·exact .inr ⟨k + 1,r,by simp [hx,a],by simp only [G8,hx,Bool.false_eq_true,if_false,b]; omega,by simpa using c⟩
theorem ZnO (L:Nat)(s:Xo)(r:ZT)(hs:P9 s)(he:s.Args.length=r.Params.length)(hL:s.Args.length < L):Zt (Ub s L r) L (0,())=some (Lt (Zat s) r.Params s.Args):=by
 have ha:=hs.a
 refine ZdJ s.Args r.Params he (fun a p=>some (Lt (Zat s) p a)) hL (fun self i x y q q' hx hy hi _ e=>?_) (fun self=>?_)
 ·rw [Ub]; simp only [Zj,Zd,cond_true,cond_false,Zf,Z5,Za,Zq,condC,Zi,Zh,Zn,ZL,ZU,ZE,hi,hx,hy,Zth,wrap_succ hi (by omega),e,Lt]; simp only [Yo,Xh,if_true,if_false,Bool.false_eq_true,ne_eq,decide_not,gt_iff_lt,ge_iff_le]
 ·rw [Ub]; simp only [Zj,Zd,cond_true,cond_false,Zf,Z5,Za,Zq,condC,Zi,Zh,Zn,ZL,ZU,ZE,Ux,Lt,Zat]; simp only [Yo,Xh,if_true,if_false,Bool.false_eq_true,ne_eq,decide_not,gt_iff_lt,ge_iff_le,Bool.or_assoc]
theorem ZuY (L:Nat)(d:Zc)(h:ZH d)(hL:d.Routines.length < L)(s:Xo)(hs:P9 s)(hsL:s.Args.length < L):KY L (d,s,())=some (VQ d s):=by
 rw [Zgd,ZeK L d s.Routine (by have:=h.st; unfold Len; omega) hL,Z5,VQ]
 rcases ZaY (fun r:ZT=>decide (r.Name=s.Routine)) d.Routines 0 with ⟨a,b⟩ | ⟨k,r,a,b,c⟩
 ·rw [a,b]; rfl
 ·rw [a,b,Int.zero_add,show decide ((k:Int) < 0)=false by simp only [decide_eq_false_iff_not]; omega,cond_false,Zf,c,Z5]
  simp only
  rcases ZvF s.Args r.Params with ⟨e1,e2⟩ | ⟨e1,e2⟩
  ·rw [ZnO L s r hs e1 hsL,ZE,e2]; simp only [Yo,Xh,if_true,if_false,Bool.false_eq_true,ne_eq,decide_not,gt_iff_lt,ge_iff_le,e2,Bool.not_true,cond_false]
  ·rw [ZE,e2]; simp only [Yo,Xh,if_true,if_false,Bool.false_eq_true,ne_eq,decide_not,gt_iff_lt,ge_iff_le,e2,Bool.not_false,cond_true]
end Go.Proofs.YtgjcjbhhhlelnaaGreatDoor
end
