import Derived.Test.YtleomfgijkapfaaGreatDoorJ18
set_option linter.all false
section
namespace Go.Proofs.YtleomfgijkapfaaGreatDoor
open Go Go.Proofs.YtleomfgijkapfaaGreatDoor.Abs Go.Proofs.YtleomfgijkapfaaGreatDoor.Tl
set_option maxRecDepth 100000
theorem Zj7 (s:List UInt8)(l:List (List UInt8)):(l.any fun k=>decide (s=k))=l.contains s:=by
 induction l with
 | nil=>rfl
 | cons x l ih=>rw [List.any_cons,ih,List.contains_cons,ZK]
theorem Zdu (L:Nat)(l:List (List UInt8))(s:List UInt8)(hl:Len l)(hL:l.length < L):ZR L (l,s,())=some (l.contains s):=by
 rw [Vl,Jt,ZhO l (fun l i=>some (UF (fun k=>decide (s=k)) l i)) hL (fun self i x r hx hi _ e=>by
  rw [YO]; simp only [Zg,Zc,cond_true,cond_false,Zf,Zv,Za,Zn,condC,Zi,Zh,Zl,ZE,ZK,Z7,hi,hx,wrap_succ hi (by omega),e,UF]; simp only [Ye,Q4,if_true,if_false,Bool.false_eq_true,ne_eq,decide_not,gt_iff_lt,ge_iff_le]) (fun self=>by
  rw [YO]; simp only [Zg,Zc,cond_true,cond_false,Zf,Zv,Za,Zn,condC,Zi,Zh,Zl,ZE,ZK,Z7,UF]),Zv,← Zj7]
 exact congrArg some (Sv (fun k=>decide (s=k)) l 0 (Int.le_refl _))
theorem Zeg (l:List (List UInt8))(s:List UInt8):hasK MK.str l s=l.contains s:=by
 induction l with
 | nil=>rfl
 | cons x l ih =>
  rw [List.contains_cons,← ih]
  rfl
theorem Zjx (l:List (List UInt8))(s:List UInt8)(h:l.contains s=false):EL MK.str l s=l ++ [s]:=by
 unfold EL; rw [Zeg,h]; rfl
theorem JV (s:List UInt8)(seen:Seen):(bif !decide (XB s=0) then some (XB s,seen,()) else bif hasK MK.str seen s then some (4,seen,()) else some (0,EL MK.str seen s,()))=some ((Yu s seen).1,(Yu s seen).2,()):=by
 rw [Zeg]
 unfold Yu
 by_cases h:XB s=0
 ·cases c:seen.contains s
  ·rw [Zjx _ _ c]; simp [h]
  ·simp [h]
 ·simp [h]
theorem Jr (L:Nat)(a b c:Int):ZA L (a,b,c,())=some (btw a b c):=Zc1 L a b c
theorem Zkg (L:Nat)(t:Int):Xh L (t,())=some (btw t 1 3):=ZeC L t
theorem ZqS (L:Nat)(t n:Int):XW L (t,n,())=some (fitsT t n):=by
 simp only [Zg,Zc,cond_true,cond_false,Zf,Zv,Za,Zn,condC,Zi,Zh,Zl,ZE,ZK,Z7,Zg4,ZvJ,Jr,fitsT]; simp only [Ye,Q4,if_true,if_false,Bool.false_eq_true,ne_eq,decide_not,gt_iff_lt,ge_iff_le]
theorem Zdv (L:Nat)(d:Zd)(s:List UInt8)(hl:Len d.Routines)(hL:d.Routines.length < L):WB L (d,s,())=some (UF (fun r:ZJ=>decide (r.Name=s)) d.Routines 0):=by
 rw [Zbh,ZhO d.Routines (fun l i=>some (UF (fun r:ZJ=>decide (r.Name=s)) l i)) hL (fun self i x r hx hi _ e=>by
  rw [JF]; simp only [Zg,Zc,cond_true,cond_false,Zf,Zv,Za,Zn,condC,Zi,Zh,Zl,ZE,ZK,Z7,hi,hx,wrap_succ hi (by omega),e,UF]; simp only [Ye,Q4,if_true,if_false,Bool.false_eq_true,ne_eq,decide_not,gt_iff_lt,ge_iff_le]) (fun self=>by
  rw [JF]; simp only [Zg,Zc,cond_true,cond_false,Zf,Zv,Za,Zn,condC,Zi,Zh,Zl,ZE,ZK,Z7,UF]),Zv]
theorem Zeq {α σ:Type}{f:(Int×σ×PUnit→Option (Int×σ×PUnit))→Int×σ×PUnit→Option (Int×σ×PUnit)}(l:List α)(step:α→σ→Int×σ){m:Nat}(hm:l.length < m)(s:σ)
  (h1:∀ self s (i:Nat) x,l[i]? = some x→i < l.length→x ∈ l→f self ((i:Int),s,())=bif !decide ((step x s).1=0) then some ((step x s).1,(step x s).2,()) else self ((i:Int) + 1,(step x s).2,()))
  (h2:∀ self s,f self ((l.length:Int),s,())=some (0,s,())):Zq f m (0,s,())=some ((Y6 step l s).1,(Y6 step l s).2,()) :=
 Zge l (fun s i=>(i,s,())) (fun l s=>some ((Y6 step l s).1,(Y6 step l s).2,())) (fun self s i x r hx hi mem e=>by
  rw [h1 self s i x hx hi mem,e,Y6]
  by_cases c:(step x s).1=0 <;> simp [c]) (fun self s=>by rw [h2]; rfl) m 0 s (Nat.zero_le _) (by omega)
theorem UC {α σ:Type}(most:Int)(step:α→σ→Int×σ)(l:List α)(s:σ){X:Option (Int×σ×PUnit)}(h:X=some ((Y6 step l s).1,(Y6 step l s).2,())):(bif decide ((l.length:Int) > most) then some (6,s,()) else X)=some ((Qu most step l s).1,(Qu most step l s).2,()):=by
 subst h
 unfold Qu
 by_cases c:most < (l.length:Int) <;> simp [c]
def Ze6 (l:List JD):Nat→Option Int
 | 0=>none
 | i + 1=>l[i]?.map (·.At_)
theorem ZnR (l:List JD)(x:JD)(i:Nat)(hi:i < l.length)(hl:l.length≤4611686018427387):(bif decide ((i:Int) > 0) then bT (ZG l (IntKind.i64.wrap ((i:Int) - 1))) fun y:JD=>some (decide (x.At_≤y.At_)) else some false)=some ((Ze6 l i).isSome && decide (x.At_≤(Ze6 l i).getD 0)):=by
 cases i with
 | zero=>rfl
 | succ i =>
  rw [show (((i + 1:Nat):Int) - 1)=(i:Int) by omega,wrap_in (by omega) (by omega),Zf]
  have hx:=List.getElem?_eq_getElem (show i < l.length by omega)
  rw [hx,Ze6,hx,show decide (((i + 1:Nat):Int) > 0)=true by simp only [decide_eq_true_eq]; omega]
  rfl
theorem ZlJ (L:Nat)(d:Zu)(h:YQ d)(hL:d.Shift.length < L)(hc:IntKind.i64.wrap (d.Cycle - 1)=d.Cycle - 1):Zq (Qg d L) L (0,())=some (Zo7 d.Cycle none d.Shift):=by
 have hl:=h.s
 refine Fp (f := Qg d L) d.Shift.length (fun i=>(i,())) (fun i=>some (Zo7 d.Cycle (Ze6 d.Shift i) (d.Shift.drop i))) (fun self i hi e=>?_) (fun self=>?_) L 0 (Nat.zero_le _) (by omega)
 ·have hx:=List.getElem?_eq_getElem hi
  rw [List.drop_eq_getElem_cons hi,Zo7]
  rw [show Ze6 d.Shift (i + 1)=some (d.Shift[i].At_) by rw [Ze6,hx]; rfl] at e
  rw [Qg]
  simp only [Zg,Zc,cond_true,cond_false,Zf,Zv,Za,Zn,condC,Zi,Zh,Zl,ZE,ZK,Z7,hi,hx,Jr,wrap_succ hi (by omega),e,hc,ZnR _ _ _ hi hl]; simp only [Ye,Q4,if_true,if_false,Bool.false_eq_true,ne_eq,decide_not,gt_iff_lt,ge_iff_le]
  cases btw d.Shift[i].At_ 0 (d.Cycle - 1) <;> cases btw d.Shift[i].Units 0 1000 <;> simp
 ·rw [Qg]; simp only [Zg,Zc,cond_true,cond_false,Zf,Zv,Za,Zn,condC,Zi,Zh,Zl,ZE,ZK,Z7,List.drop_length,Zo7]
theorem Zlm (L:Nat)(d:Zu)(h:YQ d)(hL:d.Shift.length < L):X6 L (d,())=some (Zo6 d):=by
 simp only [Zg,Zc,cond_true,cond_false,Zf,Zv,Za,Zn,condC,Zi,Zh,Zl,ZE,ZK,Z7,F8,Jr,Zo6]
 by_cases hc:btw d.Cycle 1 1000000000=true
 ·have:=ZlJ L d h hL (by simp only [btw,Bool.and_eq_true,decide_eq_true_eq] at hc; exact wrap_in (by omega) (by omega))
  rw [this]; simp only [Ye,Q4,if_true,if_false,Bool.false_eq_true,ne_eq,decide_not,gt_iff_lt,ge_iff_le]
 ·rw [Bool.not_eq_true] at hc
  simp only [Ye,Q4,if_true,if_false,Bool.false_eq_true,ne_eq,decide_not,gt_iff_lt,ge_iff_le,hc,Bool.not_false]
theorem Zli (L:Nat)(d:Zd)(h:ZB d)(hL:SizeOf.sizeOf d≤L)(f:O6)(hf:Zhu f)(hfL:SizeOf.sizeOf f≤L)(h1:100≤L):X5 L (d,f,())=some (ZjA d f):=by
 have hz:SizeOf.sizeOf f.Up < SizeOf.sizeOf f∧SizeOf.sizeOf f.Down < SizeOf.sizeOf f:=by cases f; simp; omega
 have hs:d.Streams.length < L:=by have:=Z4 d.Streams; have:SizeOf.sizeOf d.Streams < SizeOf.sizeOf d:=by { cases d; simp; omega }; omega
 simp only [Zg,Zc,cond_true,cond_false,Zf,Zv,Za,Zn,condC,Zi,Zh,Zl,ZE,ZK,Z7,F7,Zez L f.Up _ hf.Up (by omega),Zez L f.Down _ hf.Down (by omega),Ux,Zdu L d.Streams f.Stream (by have:=h.st; unfold Len; omega) hs,H8 L f.Up hf.Up (by omega) h1,H8 L f.Down hf.Down (by omega) h1,ZjA]; simp only [Ye,Q4,if_true,if_false,Bool.false_eq_true,ne_eq,decide_not,gt_iff_lt,ge_iff_le]
theorem FN {α:Type}(p:α→Bool):∀ (l:List α) (i:Int),(l.find? p=none∧UF p l i=-1)∨∃ (k:Nat) (r:α),l.find? p=some r∧UF p l i=i + k∧l[k]? = some r
 | [],i=>.inl ⟨rfl,rfl⟩
 | x :: l,i=>by
  by_cases hx:p x=true
  ·exact .inr ⟨0,x,by simp [hx],by simp [UF,hx],rfl⟩
  ·rw [Bool.not_eq_true] at hx
   rcases FN p l (i + 1) with ⟨a,b⟩ | ⟨k,r,a,b,c⟩
   ·exact .inl ⟨by simp [hx,a],by simp [UF,hx,b]⟩
   ·exact .inr ⟨k + 1,r,by simp [hx,a],by simp only [UF,hx,Bool.false_eq_true,if_false,b]; omega,by simpa using c⟩
theorem Zmf (L:Nat)(s:QC)(r:ZJ)(hs:RV s)(he:s.Args.length=r.Params.length)(hL:s.Args.length < L):Zq (Ja s L r) L (0,())=some (O3 (Aq s) r.Params s.Args):=by
 have ha:=hs.a
 refine Zcy s.Args r.Params he (fun a p=>some (O3 (Aq s) p a)) hL (fun self i x y q q' hx hy hi _ e=>?_) (fun self=>?_)
 ·rw [Ja]; simp only [Zg,Zc,cond_true,cond_false,Zf,Zv,Za,Zn,condC,Zi,Zh,Zl,ZE,ZK,Z7,hi,hx,hy,ZqS,wrap_succ hi (by omega),e,O3]; simp only [Ye,Q4,if_true,if_false,Bool.false_eq_true,ne_eq,decide_not,gt_iff_lt,ge_iff_le]
 ·rw [Ja]; simp only [Zg,Zc,cond_true,cond_false,Zf,Zv,Za,Zn,condC,Zi,Zh,Zl,ZE,ZK,Z7,Jr,O3,Aq]; simp only [Ye,Q4,if_true,if_false,Bool.false_eq_true,ne_eq,decide_not,gt_iff_lt,ge_iff_le,Bool.or_assoc]
theorem Zs4 (L:Nat)(d:Zd)(h:ZB d)(hL:d.Routines.length < L)(s:QC)(hs:RV s)(hsL:s.Args.length < L):Um L (d,s,())=some (XR d s):=by
 rw [ZeE,Zdv L d s.Routine (by have:=h.st; unfold Len; omega) hL,Zv,XR]
 rcases FN (fun r:ZJ=>decide (r.Name=s.Routine)) d.Routines 0 with ⟨a,b⟩ | ⟨k,r,a,b,c⟩
 ·rw [a,b]; rfl
 ·rw [a,b,Int.zero_add,show decide ((k:Int) < 0)=false by simp only [decide_eq_false_iff_not]; omega,cond_false,Zf,c,Zv]
  simp only
  rcases ZsZ s.Args r.Params with ⟨e1,e2⟩ | ⟨e1,e2⟩
  ·rw [Zmf L s r hs e1 hsL,Z7,e2]; simp only [Ye,Q4,if_true,if_false,Bool.false_eq_true,ne_eq,decide_not,gt_iff_lt,ge_iff_le,e2,Bool.not_true,cond_false]
  ·rw [Z7,e2]; simp only [Ye,Q4,if_true,if_false,Bool.false_eq_true,ne_eq,decide_not,gt_iff_lt,ge_iff_le,e2,Bool.not_false,cond_true]
end Go.Proofs.YtleomfgijkapfaaGreatDoor
end
