import Derived.Test.YtgjcjbhhhlelnaaGreatDoorHCu14
set_option linter.all false
section
namespace Go.Proofs.YtgjcjbhhhlelnaaGreatDoor
open Go Go.Proofs.YtgjcjbhhhlelnaaGreatDoor.Abs Go.Proofs.YtgjcjbhhhlelnaaGreatDoor.Tl
set_option maxRecDepth 100000
theorem Zm9 (s:List UInt8)(l:List (List UInt8)):(l.any fun k=>decide (s=k))=l.contains s:=by
 induction l with
 | nil=>rfl
 | cons x l ih=>rw [List.any_cons,ih,List.contains_cons,ZP]
theorem ZfW (L:Nat)(l:List (List UInt8))(s:List UInt8)(hl:Len l)(hL:l.length < L):Yc L (l,s,())=some (l.contains s):=by
 rw [Jr,U9,ZkI l (fun l i=>some (GU (fun k=>decide (s=k)) l i)) hL (fun self i x r hx hi _ e=>by
  rw [Wy]; simp only [Zj,Zc,cond_true,cond_false,Zg,Zx,Za,Zm,condC,Zi,Zh,Zl,ZH,ZP,Z5,hi,hx,wrap_succ hi (by omega),e,GU]; simp only [Yu,Xu,if_true,if_false,Bool.false_eq_true,ne_eq,decide_not,gt_iff_lt,ge_iff_le]) (fun self=>by
  rw [Wy]; simp only [Zj,Zc,cond_true,cond_false,Zg,Zx,Za,Zm,condC,Zi,Zh,Zl,ZH,ZP,Z5,GU]),Zx,← Zm9]
 exact congrArg some (CJ (fun k=>decide (s=k)) l 0 (Int.le_refl _))
theorem ZgO (l:List (List UInt8))(s:List UInt8):hasK MK.str l s=l.contains s:=by
 induction l with
 | nil=>rfl
 | cons x l ih =>
  rw [List.contains_cons,← ih]
  rfl
theorem Zmx (l:List (List UInt8))(s:List UInt8)(h:l.contains s=false):ZaI MK.str l s=l ++ [s]:=by
 unfold ZaI; rw [ZgO,h]; rfl
theorem KN (s:List UInt8)(seen:Seen):(bif !decide (VE s=0) then some (VE s,seen,()) else bif hasK MK.str seen s then some (4,seen,()) else some (0,ZaI MK.str seen s,()))=some ((YC s seen).1,(YC s seen).2,()):=by
 rw [ZgO]
 unfold YC
 by_cases h:VE s=0
 ·cases c:seen.contains s
  ·rw [Zmx _ _ c]; simp [h]
  ·simp [h]
 ·simp [h]
theorem U6 (L:Nat)(a b c:Int):ZF L (a,b,c,())=some (btw a b c):=ZeX L a b c
theorem Znp (L:Nat)(t:Int):Va L (t,())=some (btw t 1 3):=Zhy L t
theorem ZuE (L:Nat)(t n:Int):Jc L (t,n,())=some (fitsT t n):=by
 simp only [Zj,Zc,cond_true,cond_false,Zg,Zx,Za,Zm,condC,Zi,Zh,Zl,ZH,ZP,Z5,Zju,Z0H,U6,fitsT]; simp only [Yu,Xu,if_true,if_false,Bool.false_eq_true,ne_eq,decide_not,gt_iff_lt,ge_iff_le]
theorem ZfX (L:Nat)(d:Ze)(s:List UInt8)(hl:Len d.Routines)(hL:d.Routines.length < L):Ql L (d,s,())=some (GU (fun r:ZU=>decide (r.Name=s)) d.Routines 0):=by
 rw [ZdB,ZkI d.Routines (fun l i=>some (GU (fun r:ZU=>decide (r.Name=s)) l i)) hL (fun self i x r hx hi _ e=>by
  rw [UV]; simp only [Zj,Zc,cond_true,cond_false,Zg,Zx,Za,Zm,condC,Zi,Zh,Zl,ZH,ZP,Z5,hi,hx,wrap_succ hi (by omega),e,GU]; simp only [Yu,Xu,if_true,if_false,Bool.false_eq_true,ne_eq,decide_not,gt_iff_lt,ge_iff_le]) (fun self=>by
  rw [UV]; simp only [Zj,Zc,cond_true,cond_false,Zg,Zx,Za,Zm,condC,Zi,Zh,Zl,ZH,ZP,Z5,GU]),Zx]
theorem ZgX {α σ:Type}{f:(Int×σ×PUnit→Option (Int×σ×PUnit))→Int×σ×PUnit→Option (Int×σ×PUnit)}(l:List α)(step:α→σ→Int×σ){m:Nat}(hm:l.length < m)(s:σ)
  (h1:∀ self s (i:Nat) x,l[i]? = some x→i < l.length→x ∈ l→f self ((i:Int),s,())=bif !decide ((step x s).1=0) then some ((step x s).1,(step x s).2,()) else self ((i:Int) + 1,(step x s).2,()))
  (h2:∀ self s,f self ((l.length:Int),s,())=some (0,s,())):Zp f m (0,s,())=some ((YO step l s).1,(YO step l s).2,()) :=
 ZiR l (fun s i=>(i,s,())) (fun l s=>some ((YO step l s).1,(YO step l s).2,())) (fun self s i x r hx hi mem e=>by
  rw [h1 self s i x hx hi mem,e,YO]
  by_cases c:(step x s).1=0 <;> simp [c]) (fun self s=>by rw [h2]; rfl) m 0 s (Nat.zero_le _) (by omega)
theorem GM {α σ:Type}(most:Int)(step:α→σ→Int×σ)(l:List α)(s:σ){X:Option (Int×σ×PUnit)}(h:X=some ((YO step l s).1,(YO step l s).2,())):(bif decide ((l.length:Int) > most) then some (6,s,()) else X)=some ((Xf most step l s).1,(Xf most step l s).2,()):=by
 subst h
 unfold Xf
 by_cases c:most < (l.length:Int) <;> simp [c]
def Zht (l:List UO):Nat→Option Int
 | 0=>none
 | i + 1=>l[i]?.map (·.At_)
theorem Zrt (l:List UO)(x:UO)(i:Nat)(hi:i < l.length)(hl:l.length≤4611686018427387):(bif decide ((i:Int) > 0) then bT (ZJ l (IntKind.i64.wrap ((i:Int) - 1))) fun y:UO=>some (decide (x.At_≤y.At_)) else some false)=some ((Zht l i).isSome && decide (x.At_≤(Zht l i).getD 0)):=by
 cases i with
 | zero=>rfl
 | succ i =>
  rw [show (((i + 1:Nat):Int) - 1)=(i:Int) by omega,wrap_in (by omega) (by omega),Zg]
  have hx:=List.getElem?_eq_getElem (show i < l.length by omega)
  rw [hx,Zht,hx,show decide (((i + 1:Nat):Int) > 0)=true by simp only [decide_eq_true_eq]; omega]
  rfl
theorem Zpc (L:Nat)(d:Zv)(h:WB d)(hL:d.Shift.length < L)(hc:IntKind.i64.wrap (d.Cycle - 1)=d.Cycle - 1):Zp (QO d L) L (0,())=some (Zsd d.Cycle none d.Shift):=by
 have hl:=h.s
 refine CV (f := QO d L) d.Shift.length (fun i=>(i,())) (fun i=>some (Zsd d.Cycle (Zht d.Shift i) (d.Shift.drop i))) (fun self i hi e=>?_) (fun self=>?_) L 0 (Nat.zero_le _) (by omega)
 ·have hx:=List.getElem?_eq_getElem hi
  rw [List.drop_eq_getElem_cons hi,Zsd]
  rw [show Zht d.Shift (i + 1)=some (d.Shift[i].At_) by rw [Zht,hx]; rfl] at e
  rw [QO]
  simp only [Zj,Zc,cond_true,cond_false,Zg,Zx,Za,Zm,condC,Zi,Zh,Zl,ZH,ZP,Z5,hi,hx,U6,wrap_succ hi (by omega),e,hc,Zrt _ _ _ hi hl]; simp only [Yu,Xu,if_true,if_false,Bool.false_eq_true,ne_eq,decide_not,gt_iff_lt,ge_iff_le]
  cases btw d.Shift[i].At_ 0 (d.Cycle - 1) <;> cases btw d.Shift[i].Units 0 1000 <;> simp
 ·rw [QO]; simp only [Zj,Zc,cond_true,cond_false,Zg,Zx,Za,Zm,condC,Zi,Zh,Zl,ZH,ZP,Z5,List.drop_length,Zsd]
theorem Zoy (L:Nat)(d:Zv)(h:WB d)(hL:d.Shift.length < L):V9 L (d,())=some (Zsc d):=by
 simp only [Zj,Zc,cond_true,cond_false,Zg,Zx,Za,Zm,condC,Zi,Zh,Zl,ZH,ZP,Z5,ZbB,U6,Zsc]
 by_cases hc:btw d.Cycle 1 1000000000=true
 ·have:=Zpc L d h hL (by simp only [btw,Bool.and_eq_true,decide_eq_true_eq] at hc; exact wrap_in (by omega) (by omega))
  rw [this]; simp only [Yu,Xu,if_true,if_false,Bool.false_eq_true,ne_eq,decide_not,gt_iff_lt,ge_iff_le]
 ·rw [Bool.not_eq_true] at hc
  simp only [Yu,Xu,if_true,if_false,Bool.false_eq_true,ne_eq,decide_not,gt_iff_lt,ge_iff_le,hc,Bool.not_false]
theorem Zou (L:Nat)(d:Ze)(h:ZG d)(hL:SizeOf.sizeOf d≤L)(f:LX)(hf:Zkq f)(hfL:SizeOf.sizeOf f≤L)(h1:100≤L):V8 L (d,f,())=some (ZmE d f):=by
 have hz:SizeOf.sizeOf f.Up < SizeOf.sizeOf f∧SizeOf.sizeOf f.Down < SizeOf.sizeOf f:=by cases f; simp; omega
 have hs:d.Streams.length < L:=by have:=ZI d.Streams; have:SizeOf.sizeOf d.Streams < SizeOf.sizeOf d:=by { cases d; simp; omega }; omega
 simp only [Zj,Zc,cond_true,cond_false,Zg,Zx,Za,Zm,condC,Zi,Zh,Zl,ZH,ZP,Z5,ZbA,Zhm L f.Up _ hf.Up (by omega),Zhm L f.Down _ hf.Down (by omega),Gw,ZfW L d.Streams f.Stream (by have:=h.st; unfold Len; omega) hs,Tv L f.Up hf.Up (by omega) h1,Tv L f.Down hf.Down (by omega) h1,ZmE]; simp only [Yu,Xu,if_true,if_false,Bool.false_eq_true,ne_eq,decide_not,gt_iff_lt,ge_iff_le]
theorem ZbN {α:Type}(p:α→Bool):∀ (l:List α) (i:Int),(l.find? p=none∧GU p l i=-1)∨∃ (k:Nat) (r:α),l.find? p=some r∧GU p l i=i + k∧l[k]? = some r
 | [],i=>.inl ⟨rfl,rfl⟩
 | x :: l,i=>by
  by_cases hx:p x=true
  ·exact .inr ⟨0,x,by simp [hx],by simp [GU,hx],rfl⟩
  ·rw [Bool.not_eq_true] at hx
   rcases ZbN p l (i + 1) with ⟨a,b⟩ | ⟨k,r,a,b,c⟩
   ·exact .inl ⟨by simp [hx,a],by simp [GU,hx,b]⟩
   ·exact .inr ⟨k + 1,r,by simp [hx,a],by simp only [GU,hx,Bool.false_eq_true,if_false,b]; omega,by simpa using c⟩
theorem Zpw (L:Nat)(s:X0)(r:ZU)(hs:Ns s)(he:s.Args.length=r.Params.length)(hL:s.Args.length < L):Zp (Ul s L r) L (0,())=some (LP (Zbf s) r.Params s.Args):=by
 have ha:=hs.a
 refine ZeV s.Args r.Params he (fun a p=>some (LP (Zbf s) p a)) hL (fun self i x y q q' hx hy hi _ e=>?_) (fun self=>?_)
 ·rw [Ul]; simp only [Zj,Zc,cond_true,cond_false,Zg,Zx,Za,Zm,condC,Zi,Zh,Zl,ZH,ZP,Z5,hi,hx,hy,ZuE,wrap_succ hi (by omega),e,LP]; simp only [Yu,Xu,if_true,if_false,Bool.false_eq_true,ne_eq,decide_not,gt_iff_lt,ge_iff_le]
 ·rw [Ul]; simp only [Zj,Zc,cond_true,cond_false,Zg,Zx,Za,Zm,condC,Zi,Zh,Zl,ZH,ZP,Z5,U6,LP,Zbf]; simp only [Yu,Xu,if_true,if_false,Bool.false_eq_true,ne_eq,decide_not,gt_iff_lt,ge_iff_le,Bool.or_assoc]
theorem Zw5 (L:Nat)(d:Ze)(h:ZG d)(hL:d.Routines.length < L)(s:X0)(hs:Ns s)(hsL:s.Args.length < L):Gn L (d,s,())=some (VZ d s):=by
 rw [Zh0,ZfX L d s.Routine (by have:=h.st; unfold Len; omega) hL,Zx,VZ]
 rcases ZbN (fun r:ZU=>decide (r.Name=s.Routine)) d.Routines 0 with ⟨a,b⟩ | ⟨k,r,a,b,c⟩
 ·rw [a,b]; rfl
 ·rw [a,b,Int.zero_add,show decide ((k:Int) < 0)=false by simp only [decide_eq_false_iff_not]; omega,cond_false,Zg,c,Zx]
  simp only
  rcases Zxh s.Args r.Params with ⟨e1,e2⟩ | ⟨e1,e2⟩
  ·rw [Zpw L s r hs e1 hsL,Z5,e2]; simp only [Yu,Xu,if_true,if_false,Bool.false_eq_true,ne_eq,decide_not,gt_iff_lt,ge_iff_le,e2,Bool.not_true,cond_false]
  ·rw [Z5,e2]; simp only [Yu,Xu,if_true,if_false,Bool.false_eq_true,ne_eq,decide_not,gt_iff_lt,ge_iff_le,e2,Bool.not_false,cond_true]
end Go.Proofs.YtgjcjbhhhlelnaaGreatDoor
end
