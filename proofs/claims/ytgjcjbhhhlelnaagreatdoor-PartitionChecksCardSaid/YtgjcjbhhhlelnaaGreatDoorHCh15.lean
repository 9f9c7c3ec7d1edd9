import Derived.Test.YtgjcjbhhhlelnaaGreatDoorHCh14
set_option linter.all false
section
namespace Go.Proofs.YtgjcjbhhhlelnaaGreatDoor
open Go Go.Proofs.YtgjcjbhhhlelnaaGreatDoor.Abs Go.Proofs.YtgjcjbhhhlelnaaGreatDoor.Tl
set_option maxRecDepth 100000
theorem Zm2 (s:List UInt8)(l:List (List UInt8)):(l.any fun k=>decide (s=k))=l.contains s:=by
 induction l with
 | nil=>rfl
 | cons x l ih=>rw [List.any_cons,ih,List.contains_cons,ZR]
theorem ZfP (L:Nat)(l:List (List UInt8))(s:List UInt8)(hl:Len l)(hL:l.length < L):Yc L (l,s,())=some (l.contains s):=by
 rw [Jl,U0,ZkA l (fun l i=>some (GG (fun k=>decide (s=k)) l i)) hL (fun self i x r hx hi _ e=>by
  rw [Wp]; simp only [Zj,Zd,cond_true,cond_false,Zg,Zz,Za,Zm,condC,Zi,Zh,Zl,ZI,ZR,ZA,hi,hx,wrap_succ hi (by omega),e,GG]; simp only [Yu,Xp,if_true,if_false,Bool.false_eq_true,ne_eq,decide_not,gt_iff_lt,ge_iff_le]) (fun self=>by
  rw [Wp]; simp only [Zj,Zd,cond_true,cond_false,Zg,Zz,Za,Zm,condC,Zi,Zh,Zl,ZI,ZR,ZA,GG]),Zz,← Zm2]
 exact congrArg some (Ci (fun k=>decide (s=k)) l 0 (Int.le_refl _))
theorem ZgF (l:List (List UInt8))(s:List UInt8):hasK MK.str l s=l.contains s:=by
 induction l with
 | nil=>rfl
 | cons x l ih =>
  rw [List.contains_cons,← ih]
  rfl
theorem Zmq (l:List (List UInt8))(s:List UInt8)(h:l.contains s=false):ZaB MK.str l s=l ++ [s]:=by
 unfold ZaB; rw [ZgF,h]; rfl
theorem KD (s:List UInt8)(seen:Seen):(bif !decide (V9 s=0) then some (V9 s,seen,()) else bif hasK MK.str seen s then some (4,seen,()) else some (0,ZaB MK.str seen s,()))=some ((YA s seen).1,(YA s seen).2,()):=by
 rw [ZgF]
 unfold YA
 by_cases h:V9 s=0
 ·cases c:seen.contains s
  ·rw [Zmq _ _ c]; simp [h]
  ·simp [h]
 ·simp [h]
theorem Uy (L:Nat)(a b c:Int):ZF L (a,b,c,())=some (btw a b c):=ZeQ L a b c
theorem Zng (L:Nat)(t:Int):XV L (t,())=some (btw t 1 3):=Zhp L t
theorem Zu5 (L:Nat)(t n:Int):VV L (t,n,())=some (fitsT t n):=by
 simp only [Zj,Zd,cond_true,cond_false,Zg,Zz,Za,Zm,condC,Zi,Zh,Zl,ZI,ZR,ZA,Zjk,Z04,Uy,fitsT]; simp only [Yu,Xp,if_true,if_false,Bool.false_eq_true,ne_eq,decide_not,gt_iff_lt,ge_iff_le]
theorem ZfQ (L:Nat)(d:Ze)(s:List UInt8)(hl:Len d.Routines)(hL:d.Routines.length < L):Qe L (d,s,())=some (GG (fun r:ZU=>decide (r.Name=s)) d.Routines 0):=by
 rw [Zd2,ZkA d.Routines (fun l i=>some (GG (fun r:ZU=>decide (r.Name=s)) l i)) hL (fun self i x r hx hi _ e=>by
  rw [UL]; simp only [Zj,Zd,cond_true,cond_false,Zg,Zz,Za,Zm,condC,Zi,Zh,Zl,ZI,ZR,ZA,hi,hx,wrap_succ hi (by omega),e,GG]; simp only [Yu,Xp,if_true,if_false,Bool.false_eq_true,ne_eq,decide_not,gt_iff_lt,ge_iff_le]) (fun self=>by
  rw [UL]; simp only [Zj,Zd,cond_true,cond_false,Zg,Zz,Za,Zm,condC,Zi,Zh,Zl,ZI,ZR,ZA,GG]),Zz]
theorem ZgO {α σ:Type}{f:(Int×σ×PUnit→Option (Int×σ×PUnit))→Int×σ×PUnit→Option (Int×σ×PUnit)}(l:List α)(step:α→σ→Int×σ){m:Nat}(hm:l.length < m)(s:σ)
  (h1:∀ self s (i:Nat) x,l[i]? = some x→i < l.length→x ∈ l→f self ((i:Int),s,())=bif !decide ((step x s).1=0) then some ((step x s).1,(step x s).2,()) else self ((i:Int) + 1,(step x s).2,()))
  (h2:∀ self s,f self ((l.length:Int),s,())=some (0,s,())):Zt f m (0,s,())=some ((YL step l s).1,(YL step l s).2,()) :=
 ZiH l (fun s i=>(i,s,())) (fun l s=>some ((YL step l s).1,(YL step l s).2,())) (fun self s i x r hx hi mem e=>by
  rw [h1 self s i x hx hi mem,e,YL]
  by_cases c:(step x s).1=0 <;> simp [c]) (fun self s=>by rw [h2]; rfl) m 0 s (Nat.zero_le _) (by omega)
theorem G8 {α σ:Type}(most:Int)(step:α→σ→Int×σ)(l:List α)(s:σ){X:Option (Int×σ×PUnit)}(h:X=some ((YL step l s).1,(YL step l s).2,())):(bif decide ((l.length:Int) > most) then some (6,s,()) else X)=some ((Xa most step l s).1,(Xa most step l s).2,()):=by
 subst h
 unfold Xa
 by_cases c:most < (l.length:Int) <;> simp [c]
def Zhk (l:List UG):Nat→Option Int
 | 0=>none
 | i + 1=>l[i]?.map (·.At_)
theorem Zrj (l:List UG)(x:UG)(i:Nat)(hi:i < l.length)(hl:l.length≤4611686018427387):(bif decide ((i:Int) > 0) then bT (ZL l (IntKind.i64.wrap ((i:Int) - 1))) fun y:UG=>some (decide (x.At_≤y.At_)) else some false)=some ((Zhk l i).isSome && decide (x.At_≤(Zhk l i).getD 0)):=by
 cases i with
 | zero=>rfl
 | succ i =>
  rw [show (((i + 1:Nat):Int) - 1)=(i:Int) by omega,wrap_in (by omega) (by omega),Zg]
  have hx:=List.getElem?_eq_getElem (show i < l.length by omega)
  rw [hx,Zhk,hx,show decide (((i + 1:Nat):Int) > 0)=true by simp only [decide_eq_true_eq]; omega]
  rfl
theorem ZoR (L:Nat)(d:Zv)(h:Wu d)(hL:d.Shift.length < L)(hc:IntKind.i64.wrap (d.Cycle - 1)=d.Cycle - 1):Zt (QH d L) L (0,())=some (ZrS d.Cycle none d.Shift):=by
 have hl:=h.s
 refine Zdg (f := QH d L) d.Shift.length (fun i=>(i,())) (fun i=>some (ZrS d.Cycle (Zhk d.Shift i) (d.Shift.drop i))) (fun self i hi e=>?_) (fun self=>?_) L 0 (Nat.zero_le _) (by omega)
 ·have hx:=List.getElem?_eq_getElem hi
  rw [List.drop_eq_getElem_cons hi,ZrS]
  rw [show Zhk d.Shift (i + 1)=some (d.Shift[i].At_) by rw [Zhk,hx]; rfl] at e
  rw [QH]
  simp only [Zj,Zd,cond_true,cond_false,Zg,Zz,Za,Zm,condC,Zi,Zh,Zl,ZI,ZR,ZA,hi,hx,Uy,wrap_succ hi (by omega),e,hc,Zrj _ _ _ hi hl]; simp only [Yu,Xp,if_true,if_false,Bool.false_eq_true,ne_eq,decide_not,gt_iff_lt,ge_iff_le]
  cases btw d.Shift[i].At_ 0 (d.Cycle - 1) <;> cases btw d.Shift[i].Units 0 1000 <;> simp
 ·rw [QH]; simp only [Zj,Zd,cond_true,cond_false,Zg,Zz,Za,Zm,condC,Zi,Zh,Zl,ZI,ZR,ZA,List.drop_length,ZrS]
theorem Zon (L:Nat)(d:Zv)(h:Wu d)(hL:d.Shift.length < L):V4 L (d,())=some (ZrR d):=by
 simp only [Zj,Zd,cond_true,cond_false,Zg,Zz,Za,Zm,condC,Zi,Zh,Zl,ZI,ZR,ZA,Zb4,Uy,ZrR]
 by_cases hc:btw d.Cycle 1 1000000000=true
 ·have:=ZoR L d h hL (by simp only [btw,Bool.and_eq_true,decide_eq_true_eq] at hc; exact wrap_in (by omega) (by omega))
  rw [this]; simp only [Yu,Xp,if_true,if_false,Bool.false_eq_true,ne_eq,decide_not,gt_iff_lt,ge_iff_le]
 ·rw [Bool.not_eq_true] at hc
  simp only [Yu,Xp,if_true,if_false,Bool.false_eq_true,ne_eq,decide_not,gt_iff_lt,ge_iff_le,hc,Bool.not_false]
theorem Zoj (L:Nat)(d:Ze)(h:ZG d)(hL:SizeOf.sizeOf d≤L)(f:LU)(hf:Zkh f)(hfL:SizeOf.sizeOf f≤L)(h1:100≤L):V3 L (d,f,())=some (Zm6 d f):=by
 have hz:SizeOf.sizeOf f.Up < SizeOf.sizeOf f∧SizeOf.sizeOf f.Down < SizeOf.sizeOf f:=by cases f; simp; omega
 have hs:d.Streams.length < L:=by have:=ZH d.Streams; have:SizeOf.sizeOf d.Streams < SizeOf.sizeOf d:=by { cases d; simp; omega }; omega
 simp only [Zj,Zd,cond_true,cond_false,Zg,Zz,Za,Zm,condC,Zi,Zh,Zl,ZI,ZR,ZA,Zb3,Zhd L f.Up _ hf.Up (by omega),Zhd L f.Down _ hf.Down (by omega),Gm,ZfP L d.Streams f.Stream (by have:=h.st; unfold Len; omega) hs,Tj L f.Up hf.Up (by omega) h1,Tj L f.Down hf.Down (by omega) h1,Zm6]; simp only [Yu,Xp,if_true,if_false,Bool.false_eq_true,ne_eq,decide_not,gt_iff_lt,ge_iff_le]
theorem ZbG {α:Type}(p:α→Bool):∀ (l:List α) (i:Int),(l.find? p=none∧GG p l i=-1)∨∃ (k:Nat) (r:α),l.find? p=some r∧GG p l i=i + k∧l[k]? = some r
 | [],i=>.inl ⟨rfl,rfl⟩
 | x :: l,i=>by
  by_cases hx:p x=true
  ·exact .inr ⟨0,x,by simp [hx],by simp [GG,hx],rfl⟩
  ·rw [Bool.not_eq_true] at hx
   rcases ZbG p l (i + 1) with ⟨a,b⟩ | ⟨k,r,a,b,c⟩
   ·exact .inl ⟨by simp [hx,a],by simp [GG,hx,b]⟩
   ·exact .inr ⟨k + 1,r,by simp [hx,a],by simp only [GG,hx,Bool.false_eq_true,if_false,b]; omega,by simpa using c⟩
theorem Zpl (L:Nat)(s:Xw)(r:ZU)(hs:Nl s)(he:s.Args.length=r.Params.length)(hL:s.Args.length < L):Zt (Uf s L r) L (0,())=some (LJ (ZaY s) r.Params s.Args):=by
 have ha:=hs.a
 refine ZeO s.Args r.Params he (fun a p=>some (LJ (ZaY s) p a)) hL (fun self i x y q q' hx hy hi _ e=>?_) (fun self=>?_)
 ·rw [Uf]; simp only [Zj,Zd,cond_true,cond_false,Zg,Zz,Za,Zm,condC,Zi,Zh,Zl,ZI,ZR,ZA,hi,hx,hy,Zu5,wrap_succ hi (by omega),e,LJ]; simp only [Yu,Xp,if_true,if_false,Bool.false_eq_true,ne_eq,decide_not,gt_iff_lt,ge_iff_le]
 ·rw [Uf]; simp only [Zj,Zd,cond_true,cond_false,Zg,Zz,Za,Zm,condC,Zi,Zh,Zl,ZI,ZR,ZA,Uy,LJ,ZaY]; simp only [Yu,Xp,if_true,if_false,Bool.false_eq_true,ne_eq,decide_not,gt_iff_lt,ge_iff_le,Bool.or_assoc]
theorem Zwt (L:Nat)(d:Ze)(h:ZG d)(hL:d.Routines.length < L)(s:Xw)(hs:Nl s)(hsL:s.Args.length < L):KZ L (d,s,())=some (VS d s):=by
 rw [Zhr,ZfQ L d s.Routine (by have:=h.st; unfold Len; omega) hL,Zz,VS]
 rcases ZbG (fun r:ZU=>decide (r.Name=s.Routine)) d.Routines 0 with ⟨a,b⟩ | ⟨k,r,a,b,c⟩
 ·rw [a,b]; rfl
 ·rw [a,b,Int.zero_add,show decide ((k:Int) < 0)=false by simp only [decide_eq_false_iff_not]; omega,cond_false,Zg,c,Zz]
  simp only
  rcases ZwV s.Args r.Params with ⟨e1,e2⟩ | ⟨e1,e2⟩
  ·rw [Zpl L s r hs e1 hsL,ZA,e2]; simp only [Yu,Xp,if_true,if_false,Bool.false_eq_true,ne_eq,decide_not,gt_iff_lt,ge_iff_le,e2,Bool.not_true,cond_false]
  ·rw [ZA,e2]; simp only [Yu,Xp,if_true,if_false,Bool.false_eq_true,ne_eq,decide_not,gt_iff_lt,ge_iff_le,e2,Bool.not_false,cond_true]
end Go.Proofs.YtgjcjbhhhlelnaaGreatDoor
end
