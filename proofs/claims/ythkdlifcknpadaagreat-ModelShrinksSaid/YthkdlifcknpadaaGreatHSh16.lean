import Derived.Test.YthkdlifcknpadaaGreatHSh15
set_option linter.all false
section
namespace Go.Proofs.YthkdlifcknpadaaGreat
open Go Go.Proofs.YthkdlifcknpadaaGreat.Abs Go.Proofs.YthkdlifcknpadaaGreat.Tl
set_option maxRecDepth 100000
theorem ZgJ (s:List UInt8)(l:List (List UInt8)):(l.any fun k=>decide (s=k))=l.contains s:=by
 induction l with
 | nil=>rfl
 | cons x l ih=>rw [List.any_cons,ih,List.contains_cons,Yt]
theorem Zbc (L:Nat)(l:List (List UInt8))(s:List UInt8)(hl:Len l)(hL:l.length < L):ZW L (l,s,())=some (l.contains s):=by
 rw [VC,JB,Zif l (fun l i=>some (GV (fun k=>decide (s=k)) l i)) hL (fun self i x r hx hi _ e=>by
  rw [YY]; simp only [Zi,Ze,cond_true,cond_false,Zg,ZR,Zd,Zw,condC,Zj,Zk,Zx,Yr,Yt,ZZ,hi,hx,wrap_succ hi (by omega),e,GV]; simp only [Wj,Ja,if_true,if_false,Bool.false_eq_true,ne_eq,decide_not,gt_iff_lt,ge_iff_le]) (fun self=>by
  rw [YY]; simp only [Zi,Ze,cond_true,cond_false,Zg,ZR,Zd,Zw,condC,Zj,Zk,Zx,Yr,Yt,ZZ,GV]),ZR,← ZgJ]
 exact congrArg some (A8 (fun k=>decide (s=k)) l 0 (Int.le_refl _))
theorem ZgV (l:List (List UInt8))(s:List UInt8):hasK MK.str l s=l.contains s:=by
 induction l with
 | nil=>rfl
 | cons x l ih =>
  rw [List.contains_cons,← ih]
  rfl
theorem ZlF (l:List (List UInt8))(s:List UInt8)(h:l.contains s=false):Nl MK.str l s=l ++ [s]:=by
 unfold Nl; rw [ZgV,h]; rfl
theorem Jo (s:List UInt8)(seen:Seen):(bif !decide (Vj s=0) then some (Vj s,seen,()) else bif hasK MK.str seen s then some (4,seen,()) else some (0,Nl MK.str seen s,()))=some ((Yo s seen).1,(Yo s seen).2,()):=by
 rw [ZgV]
 unfold Yo
 by_cases h:Vj s=0
 ·cases c:seen.contains s
  ·rw [ZlF _ _ c]; simp [h]
  ·simp [h]
 ·simp [h]
theorem VA (L:Nat)(a b c:Int):ZA L (a,b,c,())=some (btw a b c):=Zas L a b c
theorem Zcn (L:Nat)(t:Int):XE L (t,())=some (btw t 1 3):=Zc0 L t
theorem ZkF (L:Nat)(t n:Int):Vx L (t,n,())=some (fitsT t n):=by
 simp only [Zi,Ze,cond_true,cond_false,Zg,ZR,Zd,Zw,condC,Zj,Zk,Zx,Yr,Yt,ZZ,Zeh,Zuf,VA,fitsT]; simp only [Wj,Ja,if_true,if_false,Bool.false_eq_true,ne_eq,decide_not,gt_iff_lt,ge_iff_le]
theorem Zbd (L:Nat)(d:Zb)(s:List UInt8)(hl:Len d.Routines)(hL:d.Routines.length < L):Qb L (d,s,())=some (GV (fun r:Yc=>decide (r.Name=s)) d.Routines 0):=by
 rw [FI,Zif d.Routines (fun l i=>some (GV (fun r:Yc=>decide (r.Name=s)) l i)) hL (fun self i x r hx hi _ e=>by
  rw [JQ]; simp only [Zi,Ze,cond_true,cond_false,Zg,ZR,Zd,Zw,condC,Zj,Zk,Zx,Yr,Yt,ZZ,hi,hx,wrap_succ hi (by omega),e,GV]; simp only [Wj,Ja,if_true,if_false,Bool.false_eq_true,ne_eq,decide_not,gt_iff_lt,ge_iff_le]) (fun self=>by
  rw [JQ]; simp only [Zi,Ze,cond_true,cond_false,Zg,ZR,Zd,Zw,condC,Zj,Zk,Zx,Yr,Yt,ZZ,GV]),ZR]
theorem Fa {α σ:Type}{f:(Int×σ×PUnit→Option (Int×σ×PUnit))→Int×σ×PUnit→Option (Int×σ×PUnit)}(l:List α)(step:α→σ→Int×σ){m:Nat}(hm:l.length < m)(s:σ)
  (h1:∀ self s (i:Nat) x,l[i]? = some x→i < l.length→x ∈ l→f self ((i:Int),s,())=bif !decide ((step x s).1=0) then some ((step x s).1,(step x s).2,()) else self ((i:Int) + 1,(step x s).2,()))
  (h2:∀ self s,f self ((l.length:Int),s,())=some (0,s,())):Z9 f m (0,s,())=some ((Yy step l s).1,(Yy step l s).2,()) :=
 Zig l (fun s i=>(i,s,())) (fun l s=>some ((Yy step l s).1,(Yy step l s).2,())) (fun self s i x r hx hi mem e=>by
  rw [h1 self s i x hx hi mem,e,Yy]
  by_cases c:(step x s).1=0 <;> simp [c]) (fun self s=>by rw [h2]; rfl) m 0 s (Nat.zero_le _) (by omega)
theorem VW {α σ:Type}(most:Int)(step:α→σ→Int×σ)(l:List α)(s:σ){X:Option (Int×σ×PUnit)}(h:X=some ((Yy step l s).1,(Yy step l s).2,())):(bif decide ((l.length:Int) > most) then some (6,s,()) else X)=some ((WC most step l s).1,(WC most step l s).2,()):=by
 subst h
 unfold WC
 by_cases c:most < (l.length:Int) <;> simp [c]
def Zcu (l:List JM):Nat→Option Int
 | 0=>none
 | i + 1=>l[i]?.map (·.At_)
theorem ZkP (l:List JM)(x:JM)(i:Nat)(hi:i < l.length)(hl:l.length≤4611686018427387):(bif decide ((i:Int) > 0) then bT (YH l (IntKind.i64.wrap ((i:Int) - 1))) fun y:JM=>some (decide (x.At_≤y.At_)) else some false)=some ((Zcu l i).isSome && decide (x.At_≤(Zcu l i).getD 0)):=by
 cases i with
 | zero=>rfl
 | succ i =>
  rw [show (((i + 1:Nat):Int) - 1)=(i:Int) by omega,wrap_in (by omega) (by omega),Zg]
  have hx:=List.getElem?_eq_getElem (show i < l.length by omega)
  rw [hx,Zcu,hx,show decide (((i + 1:Nat):Int) > 0)=true by simp only [decide_eq_true_eq]; omega]
  rfl
theorem Zi8 (L:Nat)(d:Zp)(h:Wi d)(hL:d.Shift.length < L)(hc:IntKind.i64.wrap (d.Cycle - 1)=d.Cycle - 1):Z9 (Q3 d L) L (0,())=some (ZlA d.Cycle none d.Shift):=by
 have hl:=h.s
 refine Zkk (f := Q3 d L) d.Shift.length (fun i=>(i,())) (fun i=>some (ZlA d.Cycle (Zcu d.Shift i) (d.Shift.drop i))) (fun self i hi e=>?_) (fun self=>?_) L 0 (Nat.zero_le _) (by omega)
 ·have hx:=List.getElem?_eq_getElem hi
  rw [List.drop_eq_getElem_cons hi,ZlA]
  rw [show Zcu d.Shift (i + 1)=some (d.Shift[i].At_) by rw [Zcu,hx]; rfl] at e
  rw [Q3]
  simp only [Zi,Ze,cond_true,cond_false,Zg,ZR,Zd,Zw,condC,Zj,Zk,Zx,Yr,Yt,ZZ,hi,hx,VA,wrap_succ hi (by omega),e,hc,ZkP _ _ _ hi hl]; simp only [Wj,Ja,if_true,if_false,Bool.false_eq_true,ne_eq,decide_not,gt_iff_lt,ge_iff_le]
  cases btw d.Shift[i].At_ 0 (d.Cycle - 1) <;> cases btw d.Shift[i].Units 0 1000 <;> simp
 ·rw [Q3]; simp only [Zi,Ze,cond_true,cond_false,Zg,ZR,Zd,Zw,condC,Zj,Zk,Zx,Yr,Yt,ZZ,List.drop_length,ZlA]
theorem Ziq (L:Nat)(d:Zp)(h:Wi d)(hL:d.Shift.length < L):Vd L (d,())=some (Zl9 d):=by
 simp only [Zi,Ze,cond_true,cond_false,Zg,ZR,Zd,Zw,condC,Zj,Zk,Zx,Yr,Yt,ZZ,SI,VA,Zl9]
 by_cases hc:btw d.Cycle 1 1000000000=true
 ·have:=Zi8 L d h hL (by simp only [btw,Bool.and_eq_true,decide_eq_true_eq] at hc; exact wrap_in (by omega) (by omega))
  rw [this]; simp only [Wj,Ja,if_true,if_false,Bool.false_eq_true,ne_eq,decide_not,gt_iff_lt,ge_iff_le]
 ·rw [Bool.not_eq_true] at hc
  simp only [Wj,Ja,if_true,if_false,Bool.false_eq_true,ne_eq,decide_not,gt_iff_lt,ge_iff_le,hc,Bool.not_false]
theorem Zin (L:Nat)(d:Zb)(h:ZQ d)(hL:SizeOf.sizeOf d≤L)(f:IJ)(hf:ZeV f)(hfL:SizeOf.sizeOf f≤L)(h1:100≤L):Vb L (d,f,())=some (ZgM d f):=by
 have hz:SizeOf.sizeOf f.Up < SizeOf.sizeOf f∧SizeOf.sizeOf f.Down < SizeOf.sizeOf f:=by cases f; simp; omega
 have hs:d.Streams.length < L:=by have:=ZO d.Streams; have:SizeOf.sizeOf d.Streams < SizeOf.sizeOf d:=by { cases d; simp; omega }; omega
 simp only [Zi,Ze,cond_true,cond_false,Zg,ZR,Zd,Zw,condC,Zj,Zk,Zx,Yr,Yt,ZZ,SH,Zf9 L f.Up _ hf.Up (by omega),Zf9 L f.Down _ hf.Down (by omega),Tj,Zbc L d.Streams f.Stream (by have:=h.st; unfold Len; omega) hs,LW L f.Up hf.Up (by omega) h1,LW L f.Down hf.Down (by omega) h1,ZgM]; simp only [Wj,Ja,if_true,if_false,Bool.false_eq_true,ne_eq,decide_not,gt_iff_lt,ge_iff_le]
theorem ZgX {α:Type}(p:α→Bool):∀ (l:List α) (i:Int),(l.find? p=none∧GV p l i=-1)∨∃ (k:Nat) (r:α),l.find? p=some r∧GV p l i=i + k∧l[k]? = some r
 | [],i=>.inl ⟨rfl,rfl⟩
 | x :: l,i=>by
  by_cases hx:p x=true
  ·exact .inr ⟨0,x,by simp [hx],by simp [GV,hx],rfl⟩
  ·rw [Bool.not_eq_true] at hx
   rcases ZgX p l (i + 1) with ⟨a,b⟩ | ⟨k,r,a,b,c⟩
   ·exact .inl ⟨by simp [hx,a],by simp [GV,hx,b]⟩
   ·exact .inr ⟨k + 1,r,by simp [hx,a],by simp only [GV,hx,Bool.false_eq_true,if_false,b]; omega,by simpa using c⟩
theorem ZiV (L:Nat)(s:J3)(r:Yc)(hs:DW s)(he:s.Args.length=r.Params.length)(hL:s.Args.length < L):Z9 (Js s L r) L (0,())=some (BB (ZhA s) r.Params s.Args):=by
 have ha:=hs.a
 refine Zkl s.Args r.Params he (fun a p=>some (BB (ZhA s) p a)) hL (fun self i x y q q' hx hy hi _ e=>?_) (fun self=>?_)
 ·rw [Js]; simp only [Zi,Ze,cond_true,cond_false,Zg,ZR,Zd,Zw,condC,Zj,Zk,Zx,Yr,Yt,ZZ,hi,hx,hy,ZkF,wrap_succ hi (by omega),e,BB]; simp only [Wj,Ja,if_true,if_false,Bool.false_eq_true,ne_eq,decide_not,gt_iff_lt,ge_iff_le]
 ·rw [Js]; simp only [Zi,Ze,cond_true,cond_false,Zg,ZR,Zd,Zw,condC,Zj,Zk,Zx,Yr,Yt,ZZ,VA,BB,ZhA]; simp only [Wj,Ja,if_true,if_false,Bool.false_eq_true,ne_eq,decide_not,gt_iff_lt,ge_iff_le,Bool.or_assoc]
theorem ZpT (L:Nat)(d:Zb)(h:ZQ d)(hL:d.Routines.length < L)(s:J3)(hs:DW s)(hsL:s.Args.length < L):Us L (d,s,())=some (Dw d s):=by
 rw [Zc2,Zbd L d s.Routine (by have:=h.st; unfold Len; omega) hL,ZR,Dw]
 rcases ZgX (fun r:Yc=>decide (r.Name=s.Routine)) d.Routines 0 with ⟨a,b⟩ | ⟨k,r,a,b,c⟩
 ·rw [a,b]; rfl
 ·rw [a,b,Int.zero_add,show decide ((k:Int) < 0)=false by simp only [decide_eq_false_iff_not]; omega,cond_false,Zg,c,ZR]
  simp only
  rcases Zu6 s.Args r.Params with ⟨e1,e2⟩ | ⟨e1,e2⟩
  ·rw [ZiV L s r hs e1 hsL,ZZ,e2]; simp only [Wj,Ja,if_true,if_false,Bool.false_eq_true,ne_eq,decide_not,gt_iff_lt,ge_iff_le,e2,Bool.not_true,cond_false]
  ·rw [ZZ,e2]; simp only [Wj,Ja,if_true,if_false,Bool.false_eq_true,ne_eq,decide_not,gt_iff_lt,ge_iff_le,e2,Bool.not_false,cond_true]
end Go.Proofs.YthkdlifcknpadaaGreat
end
