import Derived.Test.YtbcfddaocfpckaaGreatDoorHMo14
set_option linter.all false
open Bool renaming false_eq_true→aK,not_eq_true→je
section
namespace Go.Proofs.YtbcfddaocfpckaaGreatDoor
open Go Abs Tl
set_option maxRecDepth 100000
theorem Zgm (s:List UInt8)(l:List (List UInt8)):(l.any fun k=>decide (s=k))=l.contains s:=by
 induction l with
 |nil=>rfl
 |cons x l ih=>rw [List.any_cons,ih,List.contains_cons,ZV]
theorem Zbd (L:Nat)(l:List (List UInt8))(s:List UInt8)(hl:Len l)(hL:l.length<L):ZT L (l,s,())=some (l.contains s):=by
 rw [Vx,Jt,ZeI l (fun l i=>some (JE (fun k=>decide (s=k)) l i)) hL (fun self i x r hx hi _ e=>by
  rw [YS];simp only [Zg,Zd,cond_true,cond_false,Zf,Zn,Ze,Zv,condC,Zj,Zk,Zw,ZQ,ZV,ZI,hi,hx,wrap_succ hi (by omega),e,JE];simp only [Y4,XI,if_true,if_false,aK,ne_eq,decide_not,gt_iff_lt,ge_iff_le]) (fun self=>by
  rw [YS];simp only [Zg,Zd,cond_true,cond_false,Zf,Zn,Ze,Zv,condC,Zj,Zk,Zw,ZQ,ZV,ZI,JE]),Zn,← Zgm]
 exact congrArg some (AA (fun k=>decide (s=k)) l 0 (Int.le_refl _))
theorem Zgq (l:List (List UInt8))(s:List UInt8):hasK MK.str l s=l.contains s:=by
 induction l with
 |nil=>rfl
 |cons x l ih =>
  rw [List.contains_cons,← ih]
  rfl
theorem ZjB (l:List (List UInt8))(s:List UInt8)(h:l.contains s=false):addK MK.str l s=l++[s]:=by
 unfold addK;rw [Zgq,h];rfl
theorem Jf (s:List UInt8)(seen:Seen):(bif !decide (Vk s=0) then some (Vk s,seen,()) else bif hasK MK.str seen s then some (4,seen,()) else some (0,addK MK.str seen s,()))=some ((Yt s seen).1,(Yt s seen).2,()):=by
 rw [Zgq]
 unfold Yt
 by_cases h:Vk s=0
 ·cases c:seen.contains s
  ·rw [ZjB _ _ c];simp [h]
  ·simp [h]
 ·simp [h]
theorem Vu (L:Nat)(a b c:Int):ZB L (a,b,c,())=some (btw a b c):=Zaz L a b c
theorem ZbU (L:Nat)(t:Int):Xm L (t,())=some (btw t 1 3):=Zcg L t
theorem ZiH (L:Nat)(t n:Int):Vg L (t,n,())=some (fitsT t n):=by
 simp only [Zg,Zd,cond_true,cond_false,Zf,Zn,Ze,Zv,condC,Zj,Zk,Zw,ZQ,ZV,ZI,ZdE,Zom,Vu,fitsT];simp only [Y4,XI,if_true,if_false,aK,ne_eq,decide_not,gt_iff_lt,ge_iff_le]
theorem PW (L:Nat)(d:Za)(s:List UInt8)(hl:Len d.Routines)(hL:d.Routines.length<L):Wj L (d,s,())=some (JE (fun r:Zx=>decide (r.Name=s)) d.Routines 0):=by
 rw [Fq,ZeI d.Routines (fun l i=>some (JE (fun r:Zx=>decide (r.Name=s)) l i)) hL (fun self i x r hx hi _ e=>by
  rw [JF];simp only [Zg,Zd,cond_true,cond_false,Zf,Zn,Ze,Zv,condC,Zj,Zk,Zw,ZQ,ZV,ZI,hi,hx,wrap_succ hi (by omega),e,JE];simp only [Y4,XI,if_true,if_false,aK,ne_eq,decide_not,gt_iff_lt,ge_iff_le]) (fun self=>by
  rw [JF];simp only [Zg,Zd,cond_true,cond_false,Zf,Zn,Ze,Zv,condC,Zj,Zk,Zw,ZQ,ZV,ZI,JE]),Zn]
theorem AU {α σ:Type}{f:(Int×σ×PUnit→Option (Int×σ×PUnit))→Int×σ×PUnit→Option (Int×σ×PUnit)}(l:List α)(step:α→σ→Int×σ){m:Nat}(hm:l.length<m)(s:σ)
  (h1:∀self s (i:Nat) x,l[i]? = some x→i<l.length→x∈l→f self ((i:Int),s,())=bif !decide ((step x s).1=0) then some ((step x s).1,(step x s).2,()) else self ((i:Int)+1,(step x s).2,()))
  (h2:∀self s,f self ((l.length:Int),s,())=some (0,s,())):loopT f m (0,s,())=some ((ZZ step l s).1,(ZZ step l s).2,()) :=
 ZeJ l (fun s i=>(i,s,())) (fun l s=>some ((ZZ step l s).1,(ZZ step l s).2,())) (fun self s i x r hx hi mem e=>by
  rw [h1 self s i x hx hi mem,e,ZZ]
  by_cases c:(step x s).1=0<;>simp [c]) (fun self s=>by rw [h2];rfl) m 0 s (Nat.zero_le _) (by omega)
theorem VM {α σ:Type}(most:Int)(step:α→σ→Int×σ)(l:List α)(s:σ){X:Option (Int×σ×PUnit)}(h:X=some ((ZZ step l s).1,(ZZ step l s).2,())):(bif decide ((l.length:Int)>most) then some (6,s,()) else X)=some ((YK most step l s).1,(YK most step l s).2,()):=by
 subst h
 unfold YK
 by_cases c:most<(l.length:Int)<;>simp [c]
def Zca (l:List XN):Nat→Option Int
 |0=>none
 |i+1=>l[i]?.map (·.At_)
theorem ZiW (l:List XN)(x:XN)(i:Nat)(hi:i<l.length)(hl:l.length≤4611686018427387):(bif decide ((i:Int)>0) then bT (getT l (IntKind.i64.wrap ((i:Int) - 1))) fun y:XN=>some (decide (x.At_≤y.At_)) else some false)=some ((Zca l i).isSome&&decide (x.At_≤(Zca l i).getD 0)):=by
 cases i with
 |zero=>rfl
 |succ i =>
  rw [show (((i+1:Nat):Int) - 1)=(i:Int) by omega,wrap_in (by omega) (by omega),Zf]
  have hx:=List.getElem?_eq_getElem (show i<l.length by omega)
  rw [hx,Zca,hx,show decide (((i+1:Nat):Int)>0)=true by simp only [decide_eq_true_eq];omega]
  rfl
theorem ZhL (L:Nat)(d:Zi)(h:Yw d)(hL:d.Shift.length<L)(hc:IntKind.i64.wrap (d.Cycle - 1)=d.Cycle - 1):loopT (WY d L) L (0,())=some (Zj8 d.Cycle none d.Shift):=by
 have hl:=h.s
 refine Zi5 (f := WY d L) d.Shift.length (fun i=>(i,())) (fun i=>some (Zj8 d.Cycle (Zca d.Shift i) (d.Shift.drop i))) (fun self i hi e=>?_) (fun self=>?_) L 0 (Nat.zero_le _) (by omega)
 ·have hx:=List.getElem?_eq_getElem hi
  rw [List.drop_eq_getElem_cons hi,Zj8]
  rw [show Zca d.Shift (i+1)=some (d.Shift[i].At_) by rw [Zca,hx];rfl] at e
  rw [WY]
  simp only [Zg,Zd,cond_true,cond_false,Zf,Zn,Ze,Zv,condC,Zj,Zk,Zw,ZQ,ZV,ZI,hi,hx,Vu,wrap_succ hi (by omega),e,hc,ZiW _ _ _ hi hl];simp only [Y4,XI,if_true,if_false,aK,ne_eq,decide_not,gt_iff_lt,ge_iff_le]
  cases btw d.Shift[i].At_ 0 (d.Cycle - 1)<;>cases btw d.Shift[i].Units 0 1000<;>simp
 ·rw [WY];simp only [Zg,Zd,cond_true,cond_false,Zf,Zn,Ze,Zv,condC,Zj,Zk,Zw,ZQ,ZV,ZI,List.drop_length,Zj8]
theorem Zhq (L:Nat)(d:Zi)(h:Yw d)(hL:d.Shift.length<L):XM L (d,())=some (Zj7 d):=by
 simp only [Zg,Zd,cond_true,cond_false,Zf,Zn,Ze,Zv,condC,Zj,Zk,Zw,ZQ,ZV,ZI,Eh,Vu,Zj7]
 by_cases hc:btw d.Cycle 1 1000000000=true
 ·have:=ZhL L d h hL (by simp only [btw,Bool.and_eq_true,decide_eq_true_eq] at hc;exact wrap_in (by omega) (by omega))
  rw [this];simp only [Y4,XI,if_true,if_false,aK,ne_eq,decide_not,gt_iff_lt,ge_iff_le]
 ·rw [je] at hc
  simp only [Y4,XI,if_true,if_false,aK,ne_eq,decide_not,gt_iff_lt,ge_iff_le,hc,Bool.not_false]
theorem Zhn (L:Nat)(d:Za)(h:Z8 d)(hL:SizeOf.sizeOf d≤L)(f:Oi)(hf:Ze1 f)(hfL:SizeOf.sizeOf f≤L)(h1:100≤L):XL L (d,f,())=some (Zdn d f):=by
 have hz:SizeOf.sizeOf f.Up<SizeOf.sizeOf f∧SizeOf.sizeOf f.Down<SizeOf.sizeOf f:=by cases f;simp;omega
 have hs:d.Streams.length<L:=by have:=Z4 d.Streams;have:SizeOf.sizeOf d.Streams<SizeOf.sizeOf d:=by { cases d;simp;omega };omega
 simp only [Zg,Zd,cond_true,cond_false,Zf,Zn,Ze,Zv,condC,Zj,Zk,Zw,ZQ,ZV,ZI,Eg,ZeU L f.Up _ hf.Up (by omega),ZeU L f.Down _ hf.Down (by omega),MB,Zbd L d.Streams f.Stream (by have:=h.st;unfold Len;omega) hs,GV L f.Up hf.Up (by omega) h1,GV L f.Down hf.Down (by omega) h1,Zdn];simp only [Y4,XI,if_true,if_false,aK,ne_eq,decide_not,gt_iff_lt,ge_iff_le]
theorem Es {α:Type}(p:α→Bool):∀(l:List α) (i:Int),(l.find? p=none∧JE p l i=-1)∨∃(k:Nat) (r:α),l.find? p=some r∧JE p l i=i+k∧l[k]? = some r
 | [],i=>.inl ⟨rfl,rfl⟩
 |x::l,i=>by
  by_cases hx:p x=true
  ·exact .inr ⟨0,x,by simp [hx],by simp [JE,hx],rfl⟩
  ·rw [je] at hx
   rcases Es p l (i+1) with ⟨a,b⟩|⟨k,r,a,b,c⟩
   ·exact .inl ⟨by simp [hx,a],by simp [JE,hx,b]⟩
   ·exact .inr ⟨k+1,r,by simp [hx,a],by simp only [JE,hx,aK,if_false,b];omega,by simpa using c⟩
theorem ZhR (L:Nat)(s:Y1)(r:Zx)(hs:Ux s)(he:s.Args.length=r.Params.length)(hL:s.Args.length<L):loopT (Ji s L r) L (0,())=some (argsT (Pj s) r.Params s.Args):=by
 have ha:=hs.a
 refine ZeK s.Args r.Params he (fun a p=>some (argsT (Pj s) p a)) hL (fun self i x y q q' hx hy hi _ e=>?_) (fun self=>?_)
 ·rw [Ji];simp only [Zg,Zd,cond_true,cond_false,Zf,Zn,Ze,Zv,condC,Zj,Zk,Zw,ZQ,ZV,ZI,hi,hx,hy,ZiH,wrap_succ hi (by omega),e,argsT];simp only [Y4,XI,if_true,if_false,aK,ne_eq,decide_not,gt_iff_lt,ge_iff_le]
 ·rw [Ji];simp only [Zg,Zd,cond_true,cond_false,Zf,Zn,Ze,Zv,condC,Zj,Zk,Zw,ZQ,ZV,ZI,Vu,argsT,Pj];simp only [Y4,XI,if_true,if_false,aK,ne_eq,decide_not,gt_iff_lt,ge_iff_le,Bool.or_assoc]
theorem ZlU (L:Nat)(d:Za)(h:Z8 d)(hL:d.Routines.length<L)(s:Y1)(hs:Ux s)(hsL:s.Args.length<L):Uf L (d,s,())=some (WQ d s):=by
 rw [Zci,PW L d s.Routine (by have:=h.st;unfold Len;omega) hL,Zn,WQ]
 rcases Es (fun r:Zx=>decide (r.Name=s.Routine)) d.Routines 0 with ⟨a,b⟩|⟨k,r,a,b,c⟩
 ·rw [a,b];rfl
 ·rw [a,b,Int.zero_add,show decide ((k:Int)<0)=false by simp only [decide_eq_false_iff_not];omega,cond_false,Zf,c,Zn]
  simp only
  rcases Zog s.Args r.Params with ⟨e1,e2⟩|⟨e1,e2⟩
  ·rw [ZhR L s r hs e1 hsL,ZI,e2];simp only [Y4,XI,if_true,if_false,aK,ne_eq,decide_not,gt_iff_lt,ge_iff_le,e2,Bool.not_true,cond_false]
  ·rw [ZI,e2];simp only [Y4,XI,if_true,if_false,aK,ne_eq,decide_not,gt_iff_lt,ge_iff_le,e2,Bool.not_false,cond_true]
end Go.Proofs.YtbcfddaocfpckaaGreatDoor
end
