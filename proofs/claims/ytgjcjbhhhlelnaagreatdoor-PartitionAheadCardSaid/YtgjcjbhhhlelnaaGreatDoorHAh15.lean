import Derived.Test.YtgjcjbhhhlelnaaGreatDoorHAh14
set_option linter.all false
section
namespace Go.Proofs.YtgjcjbhhhlelnaaGreatDoor
open Go Go.Proofs.YtgjcjbhhhlelnaaGreatDoor.Abs Go.Proofs.YtgjcjbhhhlelnaaGreatDoor.Tl
set_option maxRecDepth 100000
theorem Znt (s:List UInt8)(l:List (List UInt8)):(l.any fun k=>decide (s=k))=l.contains s:=by
 induction l with
 | nil=>rfl
 | cons x l ih=>rw [List.any_cons,ih,List.contains_cons,ZY]
theorem Zg6 (L:Nat)(l:List (List UInt8))(s:List UInt8)(hl:Len l)(hL:l.length < L):Ye L (l,s,())=some (l.contains s):=by
 rw [J6,UO,Zlx l (fun l i=>some (H7 (fun k=>decide (s=k)) l i)) hL (fun self i x r hx hi _ e=>by
  rw [Wu]; simp only [Zk,Zc,cond_true,cond_false,Zg,ZA,Za,Zp,condC,Zj,Zi,Zm,ZO,ZY,ZH,hi,hx,wrap_succ hi (by omega),e,H7]; simp only [Yt,X4,if_true,if_false,Bool.false_eq_true,ne_eq,decide_not,gt_iff_lt,ge_iff_le]) (fun self=>by
  rw [Wu]; simp only [Zk,Zc,cond_true,cond_false,Zg,ZA,Za,Zp,condC,Zj,Zi,Zm,ZO,ZY,ZH,H7]),ZA,← Znt]
 exact congrArg some (ZaA (fun k=>decide (s=k)) l 0 (Int.le_refl _))
theorem Zh1 (l:List (List UInt8))(s:List UInt8):hasK MK.str l s=l.contains s:=by
 induction l with
 | nil=>rfl
 | cons x l ih =>
  rw [List.contains_cons,← ih]
  rfl
theorem Zng (l:List (List UInt8))(s:List UInt8)(h:l.contains s=false):Zbv MK.str l s=l ++ [s]:=by
 unfold Zbv; rw [Zh1,h]; rfl
theorem Gl (s:List UInt8)(seen:Seen):(bif !decide (VS s=0) then some (VS s,seen,()) else bif hasK MK.str seen s then some (4,seen,()) else some (0,Zbv MK.str seen s,()))=some ((YD s seen).1,(YD s seen).2,()):=by
 rw [Zh1]
 unfold YD
 by_cases h:VS s=0
 ·cases c:seen.contains s
  ·rw [Zng _ _ c]; simp [h]
  ·simp [h]
 ·simp [h]
theorem UL (L:Nat)(a b c:Int):ZK L (a,b,c,())=some (btw a b c):=Zf7 L a b c
theorem ZnU (L:Nat)(t:Int):Vt L (t,())=some (btw t 1 3):=Zib L t
theorem Zvu (L:Nat)(t n:Int):Jm L (t,n,())=some (fitsT t n):=by
 simp only [Zk,Zc,cond_true,cond_false,Zg,ZA,Za,Zp,condC,Zj,Zi,Zm,ZO,ZY,ZH,ZjU,Z1H,UL,fitsT]; simp only [Yt,X4,if_true,if_false,Bool.false_eq_true,ne_eq,decide_not,gt_iff_lt,ge_iff_le]
theorem Zg7 (L:Nat)(d:Ze)(s:List UInt8)(hl:Len d.Routines)(hL:d.Routines.length < L):Qu L (d,s,())=some (H7 (fun r:ZX=>decide (r.Name=s)) d.Routines 0):=by
 rw [Zej,Zlx d.Routines (fun l i=>some (H7 (fun r:ZX=>decide (r.Name=s)) l i)) hL (fun self i x r hx hi _ e=>by
  rw [Kz]; simp only [Zk,Zc,cond_true,cond_false,Zg,ZA,Za,Zp,condC,Zj,Zi,Zm,ZO,ZY,ZH,hi,hx,wrap_succ hi (by omega),e,H7]; simp only [Yt,X4,if_true,if_false,Bool.false_eq_true,ne_eq,decide_not,gt_iff_lt,ge_iff_le]) (fun self=>by
  rw [Kz]; simp only [Zk,Zc,cond_true,cond_false,Zg,ZA,Za,Zp,condC,Zj,Zi,Zm,ZO,ZY,ZH,H7]),ZA]
theorem ZhD {α σ:Type}{f:(Int×σ×PUnit→Option (Int×σ×PUnit))→Int×σ×PUnit→Option (Int×σ×PUnit)}(l:List α)(step:α→σ→Int×σ){m:Nat}(hm:l.length < m)(s:σ)
  (h1:∀ self s (i:Nat) x,l[i]? = some x→i < l.length→x ∈ l→f self ((i:Int),s,())=bif !decide ((step x s).1=0) then some ((step x s).1,(step x s).2,()) else self ((i:Int) + 1,(step x s).2,()))
  (h2:∀ self s,f self ((l.length:Int),s,())=some (0,s,())):Zx f m (0,s,())=some ((YQ step l s).1,(YQ step l s).2,()) :=
 Zj0 l (fun s i=>(i,s,())) (fun l s=>some ((YQ step l s).1,(YQ step l s).2,())) (fun self s i x r hx hi mem e=>by
  rw [h1 self s i x hx hi mem,e,YQ]
  by_cases c:(step x s).1=0 <;> simp [c]) (fun self s=>by rw [h2]; rfl) m 0 s (Nat.zero_le _) (by omega)
theorem H5 {α σ:Type}(most:Int)(step:α→σ→Int×σ)(l:List α)(s:σ){X:Option (Int×σ×PUnit)}(h:X=some ((YQ step l s).1,(YQ step l s).2,())):(bif decide ((l.length:Int) > most) then some (6,s,()) else X)=some ((Xr most step l s).1,(Xr most step l s).2,()):=by
 subst h
 unfold Xr
 by_cases c:most < (l.length:Int) <;> simp [c]
def ZhW (l:List Ku):Nat→Option Int
 | 0=>none
 | i + 1=>l[i]?.map (·.At_)
theorem Zsd (l:List Ku)(x:Ku)(i:Nat)(hi:i < l.length)(hl:l.length≤4611686018427387):(bif decide ((i:Int) > 0) then bT (ZT l (IntKind.i64.wrap ((i:Int) - 1))) fun y:Ku=>some (decide (x.At_≤y.At_)) else some false)=some ((ZhW l i).isSome && decide (x.At_≤(ZhW l i).getD 0)):=by
 cases i with
 | zero=>rfl
 | succ i =>
  rw [show (((i + 1:Nat):Int) - 1)=(i:Int) by omega,wrap_in (by omega) (by omega),Zg]
  have hx:=List.getElem?_eq_getElem (show i < l.length by omega)
  rw [hx,ZhW,hx,show decide (((i + 1:Nat):Int) > 0)=true by simp only [decide_eq_true_eq]; omega]
  rfl
theorem ZpH (L:Nat)(d:Z4)(h:Wy d)(hL:d.Shift.length < L)(hc:IntKind.i64.wrap (d.Cycle - 1)=d.Cycle - 1):Zx (Xg d L) L (0,())=some (ZsJ d.Cycle none d.Shift):=by
 have hl:=h.s
 refine Zf4 (f := Xg d L) d.Shift.length (fun i=>(i,())) (fun i=>some (ZsJ d.Cycle (ZhW d.Shift i) (d.Shift.drop i))) (fun self i hi e=>?_) (fun self=>?_) L 0 (Nat.zero_le _) (by omega)
 ·have hx:=List.getElem?_eq_getElem hi
  rw [List.drop_eq_getElem_cons hi,ZsJ]
  rw [show ZhW d.Shift (i + 1)=some (d.Shift[i].At_) by rw [ZhW,hx]; rfl] at e
  rw [Xg]
  simp only [Zk,Zc,cond_true,cond_false,Zg,ZA,Za,Zp,condC,Zj,Zi,Zm,ZO,ZY,ZH,hi,hx,UL,wrap_succ hi (by omega),e,hc,Zsd _ _ _ hi hl]; simp only [Yt,X4,if_true,if_false,Bool.false_eq_true,ne_eq,decide_not,gt_iff_lt,ge_iff_le]
  cases btw d.Shift[i].At_ 0 (d.Cycle - 1) <;> cases btw d.Shift[i].Units 0 1000 <;> simp
 ·rw [Xg]; simp only [Zk,Zc,cond_true,cond_false,Zg,ZA,Za,Zp,condC,Zj,Zi,Zm,ZO,ZY,ZH,List.drop_length,ZsJ]
theorem Zpf (L:Nat)(d:Z4)(h:Wy d)(hL:d.Shift.length < L):VL L (d,())=some (ZsI d):=by
 simp only [Zk,Zc,cond_true,cond_false,Zg,ZA,Za,Zp,condC,Zj,Zi,Zm,ZO,ZY,ZH,Zcr,UL,ZsI]
 by_cases hc:btw d.Cycle 1 1000000000=true
 ·have:=ZpH L d h hL (by simp only [btw,Bool.and_eq_true,decide_eq_true_eq] at hc; exact wrap_in (by omega) (by omega))
  rw [this]; simp only [Yt,X4,if_true,if_false,Bool.false_eq_true,ne_eq,decide_not,gt_iff_lt,ge_iff_le]
 ·rw [Bool.not_eq_true] at hc
  simp only [Yt,X4,if_true,if_false,Bool.false_eq_true,ne_eq,decide_not,gt_iff_lt,ge_iff_le,hc,Bool.not_false]
theorem ZoZ (L:Nat)(d:Ze)(h:ZL d)(hL:SizeOf.sizeOf d≤L)(f:RU)(hf:ZkR f)(hfL:SizeOf.sizeOf f≤L)(h1:100≤L):VK L (d,f,())=some (Znw d f):=by
 have hz:SizeOf.sizeOf f.Up < SizeOf.sizeOf f∧SizeOf.sizeOf f.Down < SizeOf.sizeOf f:=by cases f; simp; omega
 have hs:d.Streams.length < L:=by have:=ZM d.Streams; have:SizeOf.sizeOf d.Streams < SizeOf.sizeOf d:=by { cases d; simp; omega }; omega
 simp only [Zk,Zc,cond_true,cond_false,Zg,ZA,Za,Zp,condC,Zj,Zi,Zm,ZO,ZY,ZH,Zcq,ZhP L f.Up _ hf.Up (by omega),ZhP L f.Down _ hf.Down (by omega),GY,Zg6 L d.Streams f.Stream (by have:=h.st; unfold Len; omega) hs,MG L f.Up hf.Up (by omega) h1,MG L f.Down hf.Down (by omega) h1,Znw]; simp only [Yt,X4,if_true,if_false,Bool.false_eq_true,ne_eq,decide_not,gt_iff_lt,ge_iff_le]
theorem Zc4 {α:Type}(p:α→Bool):∀ (l:List α) (i:Int),(l.find? p=none∧H7 p l i=-1)∨∃ (k:Nat) (r:α),l.find? p=some r∧H7 p l i=i + k∧l[k]? = some r
 | [],i=>.inl ⟨rfl,rfl⟩
 | x :: l,i=>by
  by_cases hx:p x=true
  ·exact .inr ⟨0,x,by simp [hx],by simp [H7,hx],rfl⟩
  ·rw [Bool.not_eq_true] at hx
   rcases Zc4 p l (i + 1) with ⟨a,b⟩ | ⟨k,r,a,b,c⟩
   ·exact .inl ⟨by simp [hx,a],by simp [H7,hx,b]⟩
   ·exact .inr ⟨k + 1,r,by simp [hx,a],by simp only [H7,hx,Bool.false_eq_true,if_false,b]; omega,by simpa using c⟩
theorem Zqc (L:Nat)(s:XB)(r:ZX)(hs:Sj s)(he:s.Args.length=r.Params.length)(hL:s.Args.length < L):Zx (U1 s L r) L (0,())=some (RH (ZbL s) r.Params s.Args):=by
 have ha:=hs.a
 refine Zf5 s.Args r.Params he (fun a p=>some (RH (ZbL s) p a)) hL (fun self i x y q q' hx hy hi _ e=>?_) (fun self=>?_)
 ·rw [U1]; simp only [Zk,Zc,cond_true,cond_false,Zg,ZA,Za,Zp,condC,Zj,Zi,Zm,ZO,ZY,ZH,hi,hx,hy,Zvu,wrap_succ hi (by omega),e,RH]; simp only [Yt,X4,if_true,if_false,Bool.false_eq_true,ne_eq,decide_not,gt_iff_lt,ge_iff_le]
 ·rw [U1]; simp only [Zk,Zc,cond_true,cond_false,Zg,ZA,Za,Zp,condC,Zj,Zi,Zm,ZO,ZY,ZH,UL,RH,ZbL]; simp only [Yt,X4,if_true,if_false,Bool.false_eq_true,ne_eq,decide_not,gt_iff_lt,ge_iff_le,Bool.or_assoc]
theorem Zxk (L:Nat)(d:Ze)(h:ZL d)(hL:d.Routines.length < L)(s:XB)(hs:Sj s)(hsL:s.Args.length < L):GG L (d,s,())=some (Jj d s):=by
 rw [Zid,Zg7 L d s.Routine (by have:=h.st; unfold Len; omega) hL,ZA,Jj]
 rcases Zc4 (fun r:ZX=>decide (r.Name=s.Routine)) d.Routines 0 with ⟨a,b⟩ | ⟨k,r,a,b,c⟩
 ·rw [a,b]; rfl
 ·rw [a,b,Int.zero_add,show decide ((k:Int) < 0)=false by simp only [decide_eq_false_iff_not]; omega,cond_false,Zg,c,ZA]
  simp only
  rcases ZxO s.Args r.Params with ⟨e1,e2⟩ | ⟨e1,e2⟩
  ·rw [Zqc L s r hs e1 hsL,ZH,e2]; simp only [Yt,X4,if_true,if_false,Bool.false_eq_true,ne_eq,decide_not,gt_iff_lt,ge_iff_le,e2,Bool.not_true,cond_false]
  ·rw [ZH,e2]; simp only [Yt,X4,if_true,if_false,Bool.false_eq_true,ne_eq,decide_not,gt_iff_lt,ge_iff_le,e2,Bool.not_false,cond_true]
end Go.Proofs.YtgjcjbhhhlelnaaGreatDoor
end
