import Derived.Test.YtleomfgijkapfaaGreatDoorS15
set_option linter.all false
section
namespace Go.Proofs.YtleomfgijkapfaaGreatDoor
open Go Go.Proofs.YtleomfgijkapfaaGreatDoor.Abs Go.Proofs.YtleomfgijkapfaaGreatDoor.Tl
set_option maxRecDepth 100000
theorem Zmq (s:List UInt8)(l:List (List UInt8)):(l.any fun k=>decide (s=k))=l.contains s:=by
 induction l with
 | nil=>rfl
 | cons x l ih=>rw [List.any_cons,ih,List.contains_cons,Z5]
theorem ZfV (L:Nat)(l:List (List UInt8))(s:List UInt8)(hl:Len l)(hL:l.length < L):Yf L (l,s,())=some (l.contains s):=by
 rw [JO,KD,Zk1 l (fun l i=>some (Iw (fun k=>decide (s=k)) l i)) hL (fun self i x r hx hi _ e=>by
  rw [WM]; simp only [Ze,Zb,cond_true,cond_false,Zd,Zq,Za,Zi,condC,Zk,Zj,Zh,Zx,Z5,Zw,hi,hx,wrap_succ hi (by omega),e,Iw]; simp only [Y3,XE,if_true,if_false,Bool.false_eq_true,ne_eq,decide_not,gt_iff_lt,ge_iff_le]) (fun self=>by
  rw [WM]; simp only [Ze,Zb,cond_true,cond_false,Zd,Zq,Za,Zi,condC,Zk,Zj,Zh,Zx,Z5,Zw,Iw]),Zq,← Zmq]
 exact congrArg some (CG (fun k=>decide (s=k)) l 0 (Int.le_refl _))
theorem ZgA (l:List (List UInt8))(s:List UInt8):hasK MK.str l s=l.contains s:=by
 induction l with
 | nil=>rfl
 | cons x l ih =>
  rw [List.contains_cons,← ih]
  rfl
theorem Zmg (l:List (List UInt8))(s:List UInt8)(h:l.contains s=false):ZaD MK.str l s=l ++ [s]:=by
 unfold ZaD; rw [ZgA,h]; rfl
theorem GG (s:List UInt8)(seen:Seen):(bif !decide (J5 s=0) then some (J5 s,seen,()) else bif hasK MK.str seen s then some (4,seen,()) else some (0,ZaD MK.str seen s,()))=some ((YM s seen).1,(YM s seen).2,()):=by
 rw [ZgA]
 unfold YM
 by_cases h:J5 s=0
 ·cases c:seen.contains s
  ·rw [Zmg _ _ c]; simp [h]
  ·simp [h]
 ·simp [h]
theorem Kz (L:Nat)(a b c:Int):ZH L (a,b,c,())=some (btw a b c):=ZeV L a b c
theorem ZmS (L:Nat)(t:Int):V7 L (t,())=some (btw t 1 3):=Zhj L t
theorem ZtL (L:Nat)(t n:Int):J3 L (t,n,())=some (fitsT t n):=by
 simp only [Ze,Zb,cond_true,cond_false,Zd,Zq,Za,Zi,condC,Zk,Zj,Zh,Zx,Z5,Zw,Zji,Zzk,Kz,fitsT]; simp only [Y3,XE,if_true,if_false,Bool.false_eq_true,ne_eq,decide_not,gt_iff_lt,ge_iff_le]
theorem ZfW (L:Nat)(d:Zc)(s:List UInt8)(hl:Len d.Routines)(hL:d.Routines.length < L):Q5 L (d,s,())=some (Iw (fun r:ZJ=>decide (r.Name=s)) d.Routines 0):=by
 rw [ZdH,Zk1 d.Routines (fun l i=>some (Iw (fun r:ZJ=>decide (r.Name=s)) l i)) hL (fun self i x r hx hi _ e=>by
  rw [Gj]; simp only [Ze,Zb,cond_true,cond_false,Zd,Zq,Za,Zi,condC,Zk,Zj,Zh,Zx,Z5,Zw,hi,hx,wrap_succ hi (by omega),e,Iw]; simp only [Y3,XE,if_true,if_false,Bool.false_eq_true,ne_eq,decide_not,gt_iff_lt,ge_iff_le]) (fun self=>by
  rw [Gj]; simp only [Ze,Zb,cond_true,cond_false,Zd,Zq,Za,Zi,condC,Zk,Zj,Zh,Zx,Z5,Zw,Iw]),Zq]
theorem ZgL {α σ:Type}{f:(Int×σ×PUnit→Option (Int×σ×PUnit))→Int×σ×PUnit→Option (Int×σ×PUnit)}(l:List α)(step:α→σ→Int×σ){m:Nat}(hm:l.length < m)(s:σ)
  (h1:∀ self s (i:Nat) x,l[i]? = some x→i < l.length→x ∈ l→f self ((i:Int),s,())=bif !decide ((step x s).1=0) then some ((step x s).1,(step x s).2,()) else self ((i:Int) + 1,(step x s).2,()))
  (h2:∀ self s,f self ((l.length:Int),s,())=some (0,s,())):Zo f m (0,s,())=some ((We step l s).1,(We step l s).2,()) :=
 ZiF l (fun s i=>(i,s,())) (fun l s=>some ((We step l s).1,(We step l s).2,())) (fun self s i x r hx hi mem e=>by
  rw [h1 self s i x hx hi mem,e,We]
  by_cases c:(step x s).1=0 <;> simp [c]) (fun self s=>by rw [h2]; rfl) m 0 s (Nat.zero_le _) (by omega)
theorem Iq {α σ:Type}(most:Int)(step:α→σ→Int×σ)(l:List α)(s:σ){X:Option (Int×σ×PUnit)}(h:X=some ((We step l s).1,(We step l s).2,())):(bif decide ((l.length:Int) > most) then some (6,s,()) else X)=some ((Xz most step l s).1,(Xz most step l s).2,()):=by
 subst h
 unfold Xz
 by_cases c:most < (l.length:Int) <;> simp [c]
def Zhd (l:List QR):Nat→Option Int
 | 0=>none
 | i + 1=>l[i]?.map (·.At_)
theorem ZqG (l:List QR)(x:QR)(i:Nat)(hi:i < l.length)(hl:l.length≤4611686018427387):(bif decide ((i:Int) > 0) then bT (Z8 l (IntKind.i64.wrap ((i:Int) - 1))) fun y:QR=>some (decide (x.At_≤y.At_)) else some false)=some ((Zhd l i).isSome && decide (x.At_≤(Zhd l i).getD 0)):=by
 cases i with
 | zero=>rfl
 | succ i =>
  rw [show (((i + 1:Nat):Int) - 1)=(i:Int) by omega,wrap_in (by omega) (by omega),Zd]
  have hx:=List.getElem?_eq_getElem (show i < l.length by omega)
  rw [hx,Zhd,hx,show decide (((i + 1:Nat):Int) > 0)=true by simp only [decide_eq_true_eq]; omega]
  rfl
theorem Zo2 (L:Nat)(d:Zn)(h:YL d)(hL:d.Shift.length < L)(hc:IntKind.i64.wrap (d.Cycle - 1)=d.Cycle - 1):Zo (Xh d L) L (0,())=some (Zry d.Cycle none d.Shift):=by
 have hl:=h.s
 refine Zdu (f := Xh d L) d.Shift.length (fun i=>(i,())) (fun i=>some (Zry d.Cycle (Zhd d.Shift i) (d.Shift.drop i))) (fun self i hi e=>?_) (fun self=>?_) L 0 (Nat.zero_le _) (by omega)
 ·have hx:=List.getElem?_eq_getElem hi
  rw [List.drop_eq_getElem_cons hi,Zry]
  rw [show Zhd d.Shift (i + 1)=some (d.Shift[i].At_) by rw [Zhd,hx]; rfl] at e
  rw [Xh]
  simp only [Ze,Zb,cond_true,cond_false,Zd,Zq,Za,Zi,condC,Zk,Zj,Zh,Zx,Z5,Zw,hi,hx,Kz,wrap_succ hi (by omega),e,hc,ZqG _ _ _ hi hl]; simp only [Y3,XE,if_true,if_false,Bool.false_eq_true,ne_eq,decide_not,gt_iff_lt,ge_iff_le]
  cases btw d.Shift[i].At_ 0 (d.Cycle - 1) <;> cases btw d.Shift[i].Units 0 1000 <;> simp
 ·rw [Xh]; simp only [Ze,Zb,cond_true,cond_false,Zd,Zq,Za,Zi,condC,Zk,Zj,Zh,Zx,Z5,Zw,List.drop_length,Zry]
theorem Zoc (L:Nat)(d:Zn)(h:YL d)(hL:d.Shift.length < L):Jb L (d,())=some (Zrx d):=by
 simp only [Ze,Zb,cond_true,cond_false,Zd,Zq,Za,Zi,condC,Zk,Zj,Zh,Zx,Z5,Zw,ZbF,Kz,Zrx]
 by_cases hc:btw d.Cycle 1 1000000000=true
 ·have:=Zo2 L d h hL (by simp only [btw,Bool.and_eq_true,decide_eq_true_eq] at hc; exact wrap_in (by omega) (by omega))
  rw [this]; simp only [Y3,XE,if_true,if_false,Bool.false_eq_true,ne_eq,decide_not,gt_iff_lt,ge_iff_le]
 ·rw [Bool.not_eq_true] at hc
  simp only [Y3,XE,if_true,if_false,Bool.false_eq_true,ne_eq,decide_not,gt_iff_lt,ge_iff_le,hc,Bool.not_false]
theorem ZnY (L:Nat)(d:Zc)(h:ZA d)(hL:SizeOf.sizeOf d≤L)(f:Tf)(hf:ZjZ f)(hfL:SizeOf.sizeOf f≤L)(h1:100≤L):VZ L (d,f,())=some (Zmu d f):=by
 have hz:SizeOf.sizeOf f.Up < SizeOf.sizeOf f∧SizeOf.sizeOf f.Down < SizeOf.sizeOf f:=by cases f; simp; omega
 have hs:d.Streams.length < L:=by have:=Zu d.Streams; have:SizeOf.sizeOf d.Streams < SizeOf.sizeOf d:=by { cases d; simp; omega }; omega
 simp only [Ze,Zb,cond_true,cond_false,Zd,Zq,Za,Zi,condC,Zk,Zj,Zh,Zx,Z5,Zw,ZbD,Zd8 L f.Up _ hf.Up (by omega),Zd8 L f.Down _ hf.Down (by omega),H7,ZfV L d.Streams f.Stream (by have:=h.st; unfold Len; omega) hs,ML L f.Up hf.Up (by omega) h1,ML L f.Down hf.Down (by omega) h1,Zmu]; simp only [Y3,XE,if_true,if_false,Bool.false_eq_true,ne_eq,decide_not,gt_iff_lt,ge_iff_le]
theorem ZbY {α:Type}(p:α→Bool):∀ (l:List α) (i:Int),(l.find? p=none∧Iw p l i=-1)∨∃ (k:Nat) (r:α),l.find? p=some r∧Iw p l i=i + k∧l[k]? = some r
 | [],i=>.inl ⟨rfl,rfl⟩
 | x :: l,i=>by
  by_cases hx:p x=true
  ·exact .inr ⟨0,x,by simp [hx],by simp [Iw,hx],rfl⟩
  ·rw [Bool.not_eq_true] at hx
   rcases ZbY p l (i + 1) with ⟨a,b⟩ | ⟨k,r,a,b,c⟩
   ·exact .inl ⟨by simp [hx,a],by simp [Iw,hx,b]⟩
   ·exact .inr ⟨k + 1,r,by simp [hx,a],by simp only [Iw,hx,Bool.false_eq_true,if_false,b]; omega,by simpa using c⟩
theorem ZoV (L:Nat)(s:Qm)(r:ZJ)(hs:Be s)(he:s.Args.length=r.Params.length)(hL:s.Args.length < L):Zo (UK s L r) L (0,())=some (RY (Zbe s) r.Params s.Args):=by
 have ha:=hs.a
 refine ZeR s.Args r.Params he (fun a p=>some (RY (Zbe s) p a)) hL (fun self i x y q q' hx hy hi _ e=>?_) (fun self=>?_)
 ·rw [UK]; simp only [Ze,Zb,cond_true,cond_false,Zd,Zq,Za,Zi,condC,Zk,Zj,Zh,Zx,Z5,Zw,hi,hx,hy,ZtL,wrap_succ hi (by omega),e,RY]; simp only [Y3,XE,if_true,if_false,Bool.false_eq_true,ne_eq,decide_not,gt_iff_lt,ge_iff_le]
 ·rw [UK]; simp only [Ze,Zb,cond_true,cond_false,Zd,Zq,Za,Zi,condC,Zk,Zj,Zh,Zx,Z5,Zw,Kz,RY,Zbe]; simp only [Y3,XE,if_true,if_false,Bool.false_eq_true,ne_eq,decide_not,gt_iff_lt,ge_iff_le,Bool.or_assoc]
theorem ZvB (L:Nat)(d:Zc)(h:ZA d)(hL:d.Routines.length < L)(s:Qm)(hs:Be s)(hsL:s.Args.length < L):Hq L (d,s,())=some (Jw d s):=by
 rw [Zhl,ZfW L d s.Routine (by have:=h.st; unfold Len; omega) hL,Zq,Jw]
 rcases ZbY (fun r:ZJ=>decide (r.Name=s.Routine)) d.Routines 0 with ⟨a,b⟩ | ⟨k,r,a,b,c⟩
 ·rw [a,b]; rfl
 ·rw [a,b,Int.zero_add,show decide ((k:Int) < 0)=false by simp only [decide_eq_false_iff_not]; omega,cond_false,Zd,c,Zq]
  simp only
  rcases Zwn s.Args r.Params with ⟨e1,e2⟩ | ⟨e1,e2⟩
  ·rw [ZoV L s r hs e1 hsL,Zw,e2]; simp only [Y3,XE,if_true,if_false,Bool.false_eq_true,ne_eq,decide_not,gt_iff_lt,ge_iff_le,e2,Bool.not_true,cond_false]
  ·rw [Zw,e2]; simp only [Y3,XE,if_true,if_false,Bool.false_eq_true,ne_eq,decide_not,gt_iff_lt,ge_iff_le,e2,Bool.not_false,cond_true]
end Go.Proofs.YtleomfgijkapfaaGreatDoor
end
