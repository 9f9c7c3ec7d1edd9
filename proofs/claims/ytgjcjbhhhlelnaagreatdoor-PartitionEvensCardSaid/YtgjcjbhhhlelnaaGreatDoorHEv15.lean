import Derived.Test.YtgjcjbhhhlelnaaGreatDoorHEv14
set_option linter.all false
section
namespace Go.Proofs.YtgjcjbhhhlelnaaGreatDoor
open Go Go.Proofs.YtgjcjbhhhlelnaaGreatDoor.Abs Go.Proofs.YtgjcjbhhhlelnaaGreatDoor.Tl
set_option maxRecDepth 100000
theorem ZkA (s:List UInt8)(l:List (List UInt8)):(l.any fun k=>decide (s=k))=l.contains s:=by
 induction l with
 | nil=>rfl
 | cons x l ih=>rw [List.any_cons,ih,List.contains_cons,ZT]
theorem Zez (L:Nat)(l:List (List UInt8))(s:List UInt8)(hl:Len l)(hL:l.length < L):Yb L (l,s,())=some (l.contains s):=by
 rw [VV,Uf,ZiM l (fun l i=>some (Gl (fun k=>decide (s=k)) l i)) hL (fun self i x r hx hi _ e=>by
  rw [Wi]; simp only [Zi,Zd,cond_true,cond_false,Zf,Zz,Za,Zn,condC,Zh,Zg,Zm,ZH,ZT,ZB,hi,hx,wrap_succ hi (by omega),e,Gl]; simp only [Yu,Xa,if_true,if_false,Bool.false_eq_true,ne_eq,decide_not,gt_iff_lt,ge_iff_le]) (fun self=>by
  rw [Wi]; simp only [Zi,Zd,cond_true,cond_false,Zf,Zz,Za,Zn,condC,Zh,Zg,Zm,ZH,ZT,ZB,Gl]),Zz,← ZkA]
 exact congrArg some (Ae (fun k=>decide (s=k)) l 0 (Int.le_refl _))
theorem Zfd (l:List (List UInt8))(s:List UInt8):hasK MK.str l s=l.contains s:=by
 induction l with
 | nil=>rfl
 | cons x l ih =>
  rw [List.contains_cons,← ih]
  rfl
theorem Zk0 (l:List (List UInt8))(s:List UInt8)(h:l.contains s=false):FK MK.str l s=l ++ [s]:=by
 unfold FK; rw [Zfd,h]; rfl
theorem UU (s:List UInt8)(seen:Seen):(bif !decide (Vr s=0) then some (Vr s,seen,()) else bif hasK MK.str seen s then some (4,seen,()) else some (0,FK MK.str seen s,()))=some ((Y7 s seen).1,(Y7 s seen).2,()):=by
 rw [Zfd]
 unfold Y7
 by_cases h:Vr s=0
 ·cases c:seen.contains s
  ·rw [Zk0 _ _ c]; simp [h]
  ·simp [h]
 ·simp [h]
theorem Ud (L:Nat)(a b c:Int):ZE L (a,b,c,())=some (btw a b c):=Zd3 L a b c
theorem Zlm (L:Nat)(t:Int):XI L (t,())=some (btw t 1 3):=ZfE L t
theorem Zs3 (L:Nat)(t n:Int):VF L (t,n,())=some (fitsT t n):=by
 simp only [Zi,Zd,cond_true,cond_false,Zf,Zz,Za,Zn,condC,Zh,Zg,Zm,ZH,ZT,ZB,Zh2,Zy7,Ud,fitsT]; simp only [Yu,Xa,if_true,if_false,Bool.false_eq_true,ne_eq,decide_not,gt_iff_lt,ge_iff_le]
theorem Ze0 (L:Nat)(d:Zc)(s:List UInt8)(hl:Len d.Routines)(hL:d.Routines.length < L):WZ L (d,s,())=some (Gl (fun r:ZR=>decide (r.Name=s)) d.Routines 0):=by
 rw [Zcv,ZiM d.Routines (fun l i=>some (Gl (fun r:ZR=>decide (r.Name=s)) l i)) hL (fun self i x r hx hi _ e=>by
  rw [U3]; simp only [Zi,Zd,cond_true,cond_false,Zf,Zz,Za,Zn,condC,Zh,Zg,Zm,ZH,ZT,ZB,hi,hx,wrap_succ hi (by omega),e,Gl]; simp only [Yu,Xa,if_true,if_false,Bool.false_eq_true,ne_eq,decide_not,gt_iff_lt,ge_iff_le]) (fun self=>by
  rw [U3]; simp only [Zi,Zd,cond_true,cond_false,Zf,Zz,Za,Zn,condC,Zh,Zg,Zm,ZH,ZT,ZB,Gl]),Zz]
theorem Zfm {α σ:Type}{f:(Int×σ×PUnit→Option (Int×σ×PUnit))→Int×σ×PUnit→Option (Int×σ×PUnit)}(l:List α)(step:α→σ→Int×σ){m:Nat}(hm:l.length < m)(s:σ)
  (h1:∀ self s (i:Nat) x,l[i]? = some x→i < l.length→x ∈ l→f self ((i:Int),s,())=bif !decide ((step x s).1=0) then some ((step x s).1,(step x s).2,()) else self ((i:Int) + 1,(step x s).2,()))
  (h2:∀ self s,f self ((l.length:Int),s,())=some (0,s,())):Zt f m (0,s,())=some ((YI step l s).1,(YI step l s).2,()) :=
 ZgZ l (fun s i=>(i,s,())) (fun l s=>some ((YI step l s).1,(YI step l s).2,())) (fun self s i x r hx hi mem e=>by
  rw [h1 self s i x hx hi mem,e,YI]
  by_cases c:(step x s).1=0 <;> simp [c]) (fun self s=>by rw [h2]; rfl) m 0 s (Nat.zero_le _) (by omega)
theorem Gi {α σ:Type}(most:Int)(step:α→σ→Int×σ)(l:List α)(s:σ){X:Option (Int×σ×PUnit)}(h:X=some ((YI step l s).1,(YI step l s).2,())):(bif decide ((l.length:Int) > most) then some (6,s,()) else X)=some ((QN most step l s).1,(QN most step l s).2,()):=by
 subst h
 unfold QN
 by_cases c:most < (l.length:Int) <;> simp [c]
def Zf9 (l:List Ux):Nat→Option Int
 | 0=>none
 | i + 1=>l[i]?.map (·.At_)
theorem Zpj (l:List Ux)(x:Ux)(i:Nat)(hi:i < l.length)(hl:l.length≤4611686018427387):(bif decide ((i:Int) > 0) then bT (ZM l (IntKind.i64.wrap ((i:Int) - 1))) fun y:Ux=>some (decide (x.At_≤y.At_)) else some false)=some ((Zf9 l i).isSome && decide (x.At_≤(Zf9 l i).getD 0)):=by
 cases i with
 | zero=>rfl
 | succ i =>
  rw [show (((i + 1:Nat):Int) - 1)=(i:Int) by omega,wrap_in (by omega) (by omega),Zf]
  have hx:=List.getElem?_eq_getElem (show i < l.length by omega)
  rw [hx,Zf9,hx,show decide (((i + 1:Nat):Int) > 0)=true by simp only [decide_eq_true_eq]; omega]
  rfl
theorem ZmJ (L:Nat)(d:Zu)(h:Wl d)(hL:d.Shift.length < L)(hc:IntKind.i64.wrap (d.Cycle - 1)=d.Cycle - 1):Zt (Q4 d L) L (0,())=some (ZpR d.Cycle none d.Shift):=by
 have hl:=h.s
 refine Zd0 (f := Q4 d L) d.Shift.length (fun i=>(i,())) (fun i=>some (ZpR d.Cycle (Zf9 d.Shift i) (d.Shift.drop i))) (fun self i hi e=>?_) (fun self=>?_) L 0 (Nat.zero_le _) (by omega)
 ·have hx:=List.getElem?_eq_getElem hi
  rw [List.drop_eq_getElem_cons hi,ZpR]
  rw [show Zf9 d.Shift (i + 1)=some (d.Shift[i].At_) by rw [Zf9,hx]; rfl] at e
  rw [Q4]
  simp only [Zi,Zd,cond_true,cond_false,Zf,Zz,Za,Zn,condC,Zh,Zg,Zm,ZH,ZT,ZB,hi,hx,Ud,wrap_succ hi (by omega),e,hc,Zpj _ _ _ hi hl]; simp only [Yu,Xa,if_true,if_false,Bool.false_eq_true,ne_eq,decide_not,gt_iff_lt,ge_iff_le]
  cases btw d.Shift[i].At_ 0 (d.Cycle - 1) <;> cases btw d.Shift[i].Units 0 1000 <;> simp
 ·rw [Q4]; simp only [Zi,Zd,cond_true,cond_false,Zf,Zz,Za,Zn,condC,Zh,Zg,Zm,ZH,ZT,ZB,List.drop_length,ZpR]
theorem Zmr (L:Nat)(d:Zu)(h:Wl d)(hL:d.Shift.length < L):Vl L (d,())=some (ZpQ d):=by
 simp only [Zi,Zd,cond_true,cond_false,Zf,Zz,Za,Zn,condC,Zh,Zg,Zm,ZH,ZT,ZB,Zax,Ud,ZpQ]
 by_cases hc:btw d.Cycle 1 1000000000=true
 ·have:=ZmJ L d h hL (by simp only [btw,Bool.and_eq_true,decide_eq_true_eq] at hc; exact wrap_in (by omega) (by omega))
  rw [this]; simp only [Yu,Xa,if_true,if_false,Bool.false_eq_true,ne_eq,decide_not,gt_iff_lt,ge_iff_le]
 ·rw [Bool.not_eq_true] at hc
  simp only [Yu,Xa,if_true,if_false,Bool.false_eq_true,ne_eq,decide_not,gt_iff_lt,ge_iff_le,hc,Bool.not_false]
theorem Zmn (L:Nat)(d:Zc)(h:ZF d)(hL:SizeOf.sizeOf d≤L)(f:MZ)(hf:Ziv f)(hfL:SizeOf.sizeOf f≤L)(h1:100≤L):Vk L (d,f,())=some (ZkD d f):=by
 have hz:SizeOf.sizeOf f.Up < SizeOf.sizeOf f∧SizeOf.sizeOf f.Down < SizeOf.sizeOf f:=by cases f; simp; omega
 have hs:d.Streams.length < L:=by have:=ZG d.Streams; have:SizeOf.sizeOf d.Streams < SizeOf.sizeOf d:=by { cases d; simp; omega }; omega
 simp only [Zi,Zd,cond_true,cond_false,Zf,Zz,Za,Zn,condC,Zh,Zg,Zm,ZH,ZT,ZB,Zaw,Zf2 L f.Up _ hf.Up (by omega),Zf2 L f.Down _ hf.Down (by omega),KJ,Zez L d.Streams f.Stream (by have:=h.st; unfold Len; omega) hs,O8 L f.Up hf.Up (by omega) h1,O8 L f.Down hf.Down (by omega) h1,ZkD]; simp only [Yu,Xa,if_true,if_false,Bool.false_eq_true,ne_eq,decide_not,gt_iff_lt,ge_iff_le]
theorem ZaA {α:Type}(p:α→Bool):∀ (l:List α) (i:Int),(l.find? p=none∧Gl p l i=-1)∨∃ (k:Nat) (r:α),l.find? p=some r∧Gl p l i=i + k∧l[k]? = some r
 | [],i=>.inl ⟨rfl,rfl⟩
 | x :: l,i=>by
  by_cases hx:p x=true
  ·exact .inr ⟨0,x,by simp [hx],by simp [Gl,hx],rfl⟩
  ·rw [Bool.not_eq_true] at hx
   rcases ZaA p l (i + 1) with ⟨a,b⟩ | ⟨k,r,a,b,c⟩
   ·exact .inl ⟨by simp [hx,a],by simp [Gl,hx,b]⟩
   ·exact .inr ⟨k + 1,r,by simp [hx,a],by simp only [Gl,hx,Bool.false_eq_true,if_false,b]; omega,by simpa using c⟩
theorem Zno (L:Nat)(s:Xi)(r:ZR)(hs:DT s)(he:s.Args.length=r.Params.length)(hL:s.Args.length < L):Zt (JM s L r) L (0,())=some (MM (CQ s) r.Params s.Args):=by
 have ha:=hs.a
 refine Zd1 s.Args r.Params he (fun a p=>some (MM (CQ s) p a)) hL (fun self i x y q q' hx hy hi _ e=>?_) (fun self=>?_)
 ·rw [JM]; simp only [Zi,Zd,cond_true,cond_false,Zf,Zz,Za,Zn,condC,Zh,Zg,Zm,ZH,ZT,ZB,hi,hx,hy,Zs3,wrap_succ hi (by omega),e,MM]; simp only [Yu,Xa,if_true,if_false,Bool.false_eq_true,ne_eq,decide_not,gt_iff_lt,ge_iff_le]
 ·rw [JM]; simp only [Zi,Zd,cond_true,cond_false,Zf,Zz,Za,Zn,condC,Zh,Zg,Zm,ZH,ZT,ZB,Ud,MM,CQ]; simp only [Yu,Xa,if_true,if_false,Bool.false_eq_true,ne_eq,decide_not,gt_iff_lt,ge_iff_le,Bool.or_assoc]
theorem Zuu (L:Nat)(d:Zc)(h:ZF d)(hL:d.Routines.length < L)(s:Xi)(hs:DT s)(hsL:s.Args.length < L):KC L (d,s,())=some (VC d s):=by
 rw [ZfG,Ze0 L d s.Routine (by have:=h.st; unfold Len; omega) hL,Zz,VC]
 rcases ZaA (fun r:ZR=>decide (r.Name=s.Routine)) d.Routines 0 with ⟨a,b⟩ | ⟨k,r,a,b,c⟩
 ·rw [a,b]; rfl
 ·rw [a,b,Int.zero_add,show decide ((k:Int) < 0)=false by simp only [decide_eq_false_iff_not]; omega,cond_false,Zf,c,Zz]
  simp only
  rcases ZuW s.Args r.Params with ⟨e1,e2⟩ | ⟨e1,e2⟩
  ·rw [Zno L s r hs e1 hsL,ZB,e2]; simp only [Yu,Xa,if_true,if_false,Bool.false_eq_true,ne_eq,decide_not,gt_iff_lt,ge_iff_le,e2,Bool.not_true,cond_false]
  ·rw [ZB,e2]; simp only [Yu,Xa,if_true,if_false,Bool.false_eq_true,ne_eq,decide_not,gt_iff_lt,ge_iff_le,e2,Bool.not_false,cond_true]
end Go.Proofs.YtgjcjbhhhlelnaaGreatDoor
end
