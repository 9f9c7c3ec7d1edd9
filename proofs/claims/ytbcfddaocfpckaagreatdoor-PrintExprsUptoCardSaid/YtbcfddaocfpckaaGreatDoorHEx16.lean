import Derived.Lib.ItoaLen
import Derived.Test.YtbcfddaocfpckaaGreatDoorRows
import Derived.Test.YtbcfddaocfpckaaGreatDoorHEx15
set_option linter.all false
section
namespace Go.Proofs.YtbcfddaocfpckaaGreatDoor
open Go Go.Proofs.YtbcfddaocfpckaaGreatDoor.Abs Go.Proofs.YtbcfddaocfpckaaGreatDoor.Tl
set_option maxRecDepth 100000
theorem D8 {α:Type}(nm:α→List UInt8)(s:List UInt8)(l:List α):decide (LW (fun x=>decide (nm x=s)) l 0 ≥ 0)=(l.map nm).contains s:=by
 rw [show decide (LW (fun x=>decide (nm x=s)) l 0 ≥ 0)=_ from Me _ l 0 (Int.le_refl _),← PS,List.any_map]
 congr 1; funext x; exact decide_eq_decide.2 ⟨Eq.symm,Eq.symm⟩
theorem IL (d:Zg):SizeOf.sizeOf d.Name < SizeOf.sizeOf d∧SizeOf.sizeOf d.Vars < SizeOf.sizeOf d∧SizeOf.sizeOf d.Resources < SizeOf.sizeOf d∧SizeOf.sizeOf d.Stores < SizeOf.sizeOf d∧SizeOf.sizeOf d.Belts < SizeOf.sizeOf d∧SizeOf.sizeOf d.Queues < SizeOf.sizeOf d∧SizeOf.sizeOf d.Streams < SizeOf.sizeOf d∧SizeOf.sizeOf d.Tallies < SizeOf.sizeOf d∧SizeOf.sizeOf d.Levels < SizeOf.sizeOf d∧SizeOf.sizeOf d.Counts < SizeOf.sizeOf d∧SizeOf.sizeOf d.Routines < SizeOf.sizeOf d∧SizeOf.sizeOf d.Starts < SizeOf.sizeOf d∧SizeOf.sizeOf d.Laws < SizeOf.sizeOf d:=by
 cases d; simp; omega
structure Sh (L:Nat)(d:Zg):Prop where
 nm:d.Name.length < L
 vars:d.Vars.length < L
 res:d.Resources.length < L
 sto:d.Stores.length < L
 bel:d.Belts.length < L
 que:d.Queues.length < L
 str:d.Streams.length < L
 tal:d.Tallies.length < L
 lev:d.Levels.length < L
 cnt:d.Counts.length < L
 rou:d.Routines.length < L
 sta:d.Starts.length < L
 law:d.Laws.length < L
theorem Sh.of {L:Nat}{d:Zg}(h:SizeOf.sizeOf d≤L):Sh L d:=by
 have:=IL d
 constructor
 ·have:=Zu d.Name; omega
 ·have:=Zu d.Vars; omega
 ·have:=Zu d.Resources; omega
 ·have:=Zu d.Stores; omega
 ·have:=Zu d.Belts; omega
 ·have:=Zu d.Queues; omega
 ·have:=Zu d.Streams; omega
 ·have:=Zu d.Tallies; omega
 ·have:=Zu d.Levels; omega
 ·have:=Zu d.Counts; omega
 ·have:=Zu d.Routines; omega
 ·have:=Zu d.Starts; omega
 ·have:=Zu d.Laws; omega
end Go.Proofs.YtbcfddaocfpckaaGreatDoor
end
section
namespace Go.Proofs.YtbcfddaocfpckaaGreatDoor
open Go Go.Proofs.YtbcfddaocfpckaaGreatDoor.Abs Go.Proofs.YtbcfddaocfpckaaGreatDoor.Tl
set_option maxRecDepth 100000
theorem Zaw {l:List YN}{x:YN}(h:x ∈ l):x.Name.length < SizeOf.sizeOf l:=by
 have:=List.sizeOf_lt_of_mem h
 have h2:=Zu x.Name
 have:SizeOf.sizeOf x.Name < SizeOf.sizeOf x:=by cases x; simp; omega
 omega
theorem F8 (r:ZO):SizeOf.sizeOf r.Name < SizeOf.sizeOf r∧SizeOf.sizeOf r.Params < SizeOf.sizeOf r∧SizeOf.sizeOf r.Locals < SizeOf.sizeOf r∧SizeOf.sizeOf r.Body < SizeOf.sizeOf r:=by cases r; simp; omega
theorem F7 {α:Type}[SizeOf α](g:α→List UInt8)(hg:∀ x,SizeOf.sizeOf (g x) < SizeOf.sizeOf x){l:List α}{x:α}(h:x ∈ l):(g x).length < SizeOf.sizeOf l∧SizeOf.sizeOf x < SizeOf.sizeOf l:=by
 have h1:=List.sizeOf_lt_of_mem h
 have h2:=Zu (g x)
 have h3:=hg x
 omega
end Go.Proofs.YtbcfddaocfpckaaGreatDoor
end
section
namespace Go.Proofs.YtbcfddaocfpckaaGreatDoor
open Go Go.Proofs.YtbcfddaocfpckaaGreatDoor.Abs Go.Proofs.YtbcfddaocfpckaaGreatDoor.Tl
set_option maxRecDepth 100000
theorem Q9 (L:Nat)(a b c:Int):ZB L (a,b,c,())=some (btw a b c):=Td L a b c
theorem J3 (L:Nat)(a b:Int):ZM L (a,b,())=some (YC a b):=by
 simp only [Zh,Ze,cond_true,cond_false,Zf,Zq,Zb,Zm,condC,Zi,Zj,Zn,ZW,Yf,ZT,Lc,YC]; simp only [Y1,Vd,if_true,if_false,Bool.false_eq_true,ne_eq,decide_not,gt_iff_lt,ge_iff_le]
theorem QQ (L:Nat)(a:Bool)(b:Int):Zw L (a,b,())=some (ZJ a b):=by
 simp only [Zh,Ze,cond_true,cond_false,Zf,Zq,Zb,Zm,condC,Zi,Zj,Zn,ZW,Yf,ZT,Tc,ZJ]; simp only [Y1,Vd,if_true,if_false,Bool.false_eq_true,ne_eq,decide_not,gt_iff_lt,ge_iff_le]
theorem DZ (L:Nat)(t:Int):WZ L (t,())=some (Tz t):=La L t
theorem AX (L:Nat)(t n:Int):XR L (t,n,())=some (fitsT t n):=by
 simp only [Zh,Ze,cond_true,cond_false,Zf,Zq,Zb,Zm,condC,Zi,Zj,Zn,ZW,Yf,ZT,BC,Fj,Q9,fitsT]; simp only [Y1,Vd,if_true,if_false,Bool.false_eq_true,ne_eq,decide_not,gt_iff_lt,ge_iff_le]
theorem LX (s:List UInt8)(l:List (List UInt8)):decide (LW (fun k=>decide (k=s)) l 0 < 0)=!(l.contains s):=by
 have:=D8 (fun x:List UInt8=>x) s l
 rw [List.map_id'] at this
 rw [← this,show decide (LW (fun k=>decide (k=s)) l 0 < 0)=!decide (LW (fun k=>decide (k=s)) l 0 ≥ 0) by rw [← decide_not]; congr 1; exact propext Int.not_le.symm]
theorem Rk (L:Nat)(h1:100≤L)(s:List UInt8)(seen:Seen)(hs:Len s)(hsL:s.length < L)(hl:Len seen)(hL:seen.length < L):Qa L (s,seen,())=some (JO s seen):=by
 simp only [Zh,Ze,cond_true,cond_false,Zf,Zq,Zb,Zm,condC,Zi,Zj,Zn,ZW,Yf,ZT,Ld,XO L s hs hsL h1,DX L seen s hl hL,QQ,J3,LX,JO]
theorem apS {l:List (List UInt8)}{a:List UInt8}(h:l.length≤8000000000000):apT 16 l [a]=some (l ++ [a]):=by unfold apT; rw [if_pos (by simp only [List.length_cons,List.length_nil]; omega)]
end Go.Proofs.YtbcfddaocfpckaaGreatDoor
end
section
namespace Go.Proofs.YtbcfddaocfpckaaGreatDoor
open Go Go.Proofs.YtbcfddaocfpckaaGreatDoor.Abs Go.Proofs.YtbcfddaocfpckaaGreatDoor.Tl
set_option maxRecDepth 100000
theorem AA {α τ:Type}{f:(τ→Option Int)→τ→Option Int}(pk:Seen→Int→τ)(l:List α)(step:α→Seen→Int×Seen)(c:Nat)(e:Seen→Option Int){m:Nat}(hm:l.length < m)
  (hst:∀ x s,(step x s).2.length≤s.length + 1)
  (h1:∀ self s (i:Nat) x,l[i]? = some x→i < l.length→x ∈ l→s.length≤c + i→f self (pk s i)=bif !decide ((step x s).1=0) then some (step x s).1 else self (pk (step x s).2 ((i:Int) + 1)))
  (h2:∀ self s,s.length≤c + l.length→f self (pk s (l.length:Nat))=e s) (s:Seen) (hs:s.length≤c):loopT f m (pk s 0)=if decide ((QC step l s).1≠0)=true then some (QC step l s).1 else e (QC step l s).2:=by
 have key:∀ (m i:Nat) (s:Seen),i≤l.length→l.length - i < m→s.length≤c + i→loopT f m (pk s i)=if decide ((QC step (l.drop i) s).1≠0)=true then some (QC step (l.drop i) s).1 else e (QC step (l.drop i) s).2:=by
  intro m
  induction m with
  | zero=>intro i s _ h; exact absurd h (Nat.not_lt_zero _)
  | succ m ih =>
   intro i s hi hm hsl
   show f (loopT f m) _=_
   rcases Nat.lt_or_ge i l.length with hlt | hge
   ·have hx:=List.getElem?_eq_getElem hlt
    have:=ih (i + 1) (step l[i] s).2 hlt (by omega) (by have:=hst l[i] s; omega)
    rw [h1 _ s i _ hx hlt (List.getElem_mem hlt) hsl,List.drop_eq_getElem_cons hlt,QC,show ((i:Int) + 1)=((i + 1:Nat):Int) from rfl,this]
    by_cases z:(step l[i] s).1=0 <;> simp [z]
   ·have:i=l.length:=by omega
    subst this
    rw [List.drop_length,h2 _ s hsl]; rfl
 exact key m 0 s (Nat.zero_le _) (by omega) (by omega)
theorem TD (s:List UInt8)(r:Int)(seen:Seen):(QY s r seen).2.length≤seen.length + 1:=by
 have h:(Vb s seen).2.length≤seen.length + 1:=by
  unfold Vb
  split
  ·exact Nat.le_succ _
  ·split
   ·exact Nat.le_succ _
   ·simp
 unfold QY
 split <;> exact h
end Go.Proofs.YtbcfddaocfpckaaGreatDoor
end
section
namespace Go.Proofs.YtbcfddaocfpckaaGreatDoor
open Go Go.Proofs.YtbcfddaocfpckaaGreatDoor.Abs Go.Proofs.YtbcfddaocfpckaaGreatDoor.Tl
set_option maxRecDepth 100000
theorem TJ {s:List UInt8}{r:Int}{seen:Seen}(h:(QY s r seen).1=0):(QY s r seen).2=seen ++ [s]:=(EN h).1
theorem Bj (L:Nat)(h1:100≤L)(r:ZO)(h:VE r)(hL:SizeOf.sizeOf r≤L):Wx L (r,())=some (Jb r):=by
 have hz:=F8 r
 have hp:=h.p
 have hw:IntKind.i64.wrap ((r.Params.length:Int) + (r.Locals.length:Int))=(r.Params.length:Int) + (r.Locals.length:Int):=wrap_in (by omega) (by omega)
 rw [IB,hw,Jb]
 by_cases hc:6 < (r.Params.length:Int)∨16 < (r.Params.length:Int) + (r.Locals.length:Int)
 ·rw [if_pos (by simpa using hc),show (decide ((r.Params.length:Int) > 6) || decide ((r.Params.length:Int) + (r.Locals.length:Int) > 16))=true by simpa using hc]; rfl
 ·have hf:(decide ((r.Params.length:Int) > 6) || decide ((r.Params.length:Int) + (r.Locals.length:Int) > 16))=false:=by
   simp only [Bool.or_eq_false_iff,decide_eq_false_iff_not]; omega
  have hf':¬ ((decide (6 < (r.Params.length:Int)) || decide (16 < (r.Params.length:Int) + (r.Locals.length:Int)))=true):=by simpa using hc
  have hlen:(r.Params ++ r.Locals).length≤16:=by rw [List.length_append]; omega
  have p1:apT 24 [] r.Params=some r.Params:=by unfold apT; rw [if_pos (by simp only [List.length_nil]; omega)]; rfl
  have p2:apT 24 r.Params r.Locals=some (r.Params ++ r.Locals):=by unfold apT; rw [if_pos (by omega)]
  rw [if_neg hf',hf,cond_false,p1,Zq,p2,Zq]
  rw [AA (f := YJ r L (r.Params ++ r.Locals)) (fun s i=>(s,i,())) (r.Params ++ r.Locals) (fun f:YN=>QY f.Name (O0 f)) 0 (fun _=>some (Oz r.Body)) (by omega) (fun x s=>TD _ _ _) (fun self s i x hx hi mem hsl=>by
   have ok:TL x∧x.Name.length < L:=by
    rcases List.mem_append.1 mem with m | m
    ·exact ⟨h.Params.2 x m,by have:=Zaw m; omega⟩
    ·exact ⟨h.Locals.2 x m,by have:=Zaw m; omega⟩
   have hn:=Rk L h1 x.Name s (by have:=ok.1.Name; unfold Len; omega) ok.2 (by unfold Len; omega) (by omega)
   rw [YJ]
   simp only [Zh,Ze,cond_true,cond_false,Zf,Zq,Zb,Zm,condC,Zi,Zj,Zn,ZW,Yf,ZT,hi,hx,hn,DZ,QQ,J3,Ai,apS (show s.length≤8000000000000 by omega),wrap_succ hi (by omega)]
   rw [← LG]
   by_cases c:(QY x.Name (O0 x) s).1=0
   ·rw [TJ c]
   ·simp [c]) (fun self s hsl=>by
   rw [YJ]; simp only [Zh,Ze,cond_true,cond_false,Zf,Zq,Zb,Zm,condC,Zi,Zj,Zn,ZW,Yf,ZT,Ph L h1 r.Body h.p.2.2 (by omega)]) [] (Nat.le_refl _)]
  rw [Vd]; rfl
theorem Lr (L:Nat)(d:Zk)(h:Yj d)(hL:d.Shift.length < L)(hc:IntKind.i64.wrap (d.Cycle - 1)=d.Cycle - 1):loopT (Yp d L) L (0,())=some (EU d.Cycle none d.Shift):=by
 have hl:=h.s
 refine Nj (f := Yp d L) d.Shift.length (fun i=>(i,())) (fun i=>some (EU d.Cycle (Bl d.Shift i) (d.Shift.drop i))) (fun self i hi e=>?_) (fun self=>?_) L 0 (Nat.zero_le _) (by omega)
 ·have hx:=List.getElem?_eq_getElem hi
  rw [List.drop_eq_getElem_cons hi,EU]
  rw [show Bl d.Shift (i + 1)=some (d.Shift[i].At_) by rw [Bl,hx]; rfl] at e
  rw [Yp]
  simp only [Zh,Ze,cond_true,cond_false,Zf,Zq,Zb,Zm,condC,Zi,Zj,Zn,ZW,Yf,ZT,hi,hx,Q9,wrap_succ hi (by omega),e,hc,EG _ _ _ hi hl]; simp only [Y1,Vd,if_true,if_false,Bool.false_eq_true,ne_eq,decide_not,gt_iff_lt,ge_iff_le]
 ·rw [Yp]; simp only [Zh,Ze,cond_true,cond_false,Zf,Zq,Zb,Zm,condC,Zi,Zj,Zn,ZW,Yf,ZT,List.drop_length,EU]
theorem MH (L:Nat)(d:Zk)(h:Yj d)(hL:d.Shift.length < L):YL L (d,())=some (EJ d):=by
 simp only [Zh,Ze,cond_true,cond_false,Zf,Zq,Zb,Zm,condC,Zi,Zj,Zn,ZW,Yf,ZT,G8,Q9,QQ,EJ]
 by_cases hc:btw d.Cycle 1 1000000000=true
 ·have:=Lr L d h hL (by simp only [btw,Bool.and_eq_true,decide_eq_true_eq] at hc; exact wrap_in (by omega) (by omega))
  rw [this]; simp only [Y1,Vd,if_true,if_false,Bool.false_eq_true,ne_eq,decide_not,gt_iff_lt,ge_iff_le,ZJ]
  by_cases a:d.Cycle=0 <;> simp [a]
 ·rw [Bool.not_eq_true] at hc
  simp only [Y1,Vd,if_true,if_false,Bool.false_eq_true,ne_eq,decide_not,gt_iff_lt,ge_iff_le,hc,Bool.not_false,ZJ]
  by_cases a:d.Cycle=0 <;> simp [a]
theorem Bi (L:Nat)(h1:100≤L)(d:Zg)(h:Yk d)(hs:Sh L d)(x:Zk)(ok:Yj x)(hx:SizeOf.sizeOf x≤L):YM L (d,x,())=some (Fq d x):=by
 have hx2:SizeOf.sizeOf x.Fault < SizeOf.sizeOf x∧SizeOf.sizeOf x.Shift < SizeOf.sizeOf x∧SizeOf.sizeOf x.Fault.Up < SizeOf.sizeOf x.Fault∧SizeOf.sizeOf x.Fault.Down < SizeOf.sizeOf x.Fault:=by
  obtain ⟨a,b,c,d,⟨e,f,g⟩⟩:=x; simp; omega
 have hsh:=Zu x.Shift
 have hst:=h.st
 rw [← EH]
 simp only [Zh,Ze,cond_true,cond_false,Zf,Zq,Zb,Zm,condC,Zi,Zj,Zn,ZW,Yf,ZT,G9,Q9,QQ,J3,MH L x ok (by omega),Iy L x.Fault.Up _ ok.Fault.Up (by omega),Iy L x.Fault.Down _ ok.Fault.Down (by omega),Hl,DX L d.Streams x.Fault.Stream (by unfold Len; omega) hs.str,J4 L x.Fault.Up ok.Fault.Up (by omega),J4 L x.Fault.Down ok.Fault.Down (by omega),LX,Zal]; simp only [Y1,Vd,if_true,if_false,Bool.false_eq_true,ne_eq,decide_not,gt_iff_lt,ge_iff_le]
theorem AZ (L:Nat)(d:Zg)(j:Nat)(x:Xg)(hx:d.Vars[j]? = some x):Z9 L (d,0,(j:Int),())=some (RQ x):=by
 rw [Yl]; simp only [Zh,Ze,cond_true,cond_false,Zf,Zq,Zb,Zm,condC,Zi,Zj,Zn,ZW,Yf,ZT,hx,Int.reduceEq,decide_true,decide_false,DZ,QQ,AX,J3,valueR]
theorem Fa (L:Nat)(h1:100≤L)(d:Zg)(h:Yk d)(hL:SizeOf.sizeOf d≤L)(j:Nat)(x:Zk)(hx:d.Resources[j]? = some x):Z9 L (d,1,(j:Int),())=some (Fq d x):=by
 have hz:=IL d
 have mem:=List.mem_of_getElem? hx
 have hm:=List.sizeOf_lt_of_mem mem
 rw [Yl]; simp only [Zh,Ze,cond_true,cond_false,Zf,Zq,Zb,Zm,condC,Zi,Zj,Zn,ZW,Yf,ZT,hx,Int.reduceEq,decide_true,decide_false,Bi L h1 d h (Sh.of hL) x (h.Resources.2 x mem) (by omega)]
theorem Fb (L:Nat)(d:Zg)(j:Nat)(x:ZR)(hx:d.Stores[j]? = some x):Z9 L (d,2,(j:Int),())=some (RG x):=by
 rw [Yl]; simp only [Zh,Ze,cond_true,cond_false,Zf,Zq,Zb,Zm,condC,Zi,Zj,Zn,ZW,Yf,ZT,hx,Int.reduceEq,decide_true,decide_false,Q9,QQ,J3,ge_iff_le,F5]
theorem Fe (L:Nat)(d:Zg)(j:Nat)(x:Yn)(hx:d.Belts[j]? = some x):Z9 L (d,3,(j:Int),())=some (PO x):=by
 rw [Yl]; simp only [Zh,Ze,cond_true,cond_false,Zf,Zq,Zb,Zm,condC,Zi,Zj,Zn,ZW,Yf,ZT,hx,Int.reduceEq,decide_true,decide_false,Q9,QQ,CS]
theorem Ff (L:Nat)(h1:100≤L)(d:Zg)(h:Yk d)(hL:SizeOf.sizeOf d≤L)(j:Nat)(x:ZO)(hx:d.Routines[j]? = some x):Z9 L (d,9,(j:Int),())=some (Jb x):=by
 have hz:=IL d
 have mem:=List.mem_of_getElem? hx
 have hm:=List.sizeOf_lt_of_mem mem
 have e:=Bj L h1 x (h.Routines.2 x mem) (by omega)
 generalize Jb x=z at e ⊢
 rw [Yl,show ((9:Int) == 0)=false from rfl,show ((9:Int) == 1)=false from rfl,show ((9:Int) == 2)=false from rfl,show ((9:Int) == 3)=false from rfl,show ((9:Int) == 9)=true from rfl,cond_false,cond_false,cond_false,cond_false,cond_true,Zf,hx,Zq,e,Zq]
theorem OG (L:Nat)(d:Zg)(k j:Int)(h:k=4∨k=5∨k=6∨k=7∨k=8):Z9 L (d,k,j,())=some 0:=by
 rw [Yl]; rcases h with rfl | rfl | rfl | rfl | rfl <;> simp only [Zh,Ze,cond_true,cond_false,Zf,Zq,Zb,Zm,condC,Zi,Zj,Zn,ZW,Yf,ZT,Int.reduceEq,decide_true,decide_false]
end Go.Proofs.YtbcfddaocfpckaaGreatDoor
end
section
namespace Go.Proofs.YtbcfddaocfpckaaGreatDoor
open Go Go.Proofs.YtbcfddaocfpckaaGreatDoor.Abs Go.Proofs.YtbcfddaocfpckaaGreatDoor.Tl
set_option maxRecDepth 100000
theorem Bh (L:Nat)(h1:100≤L)(d:Zg)(h:Yk d)(hL:SizeOf.sizeOf d≤L)(k:Nat)(p:Int×List (List UInt8×Int))(hp:(YY d)[k]? = some p)(j:Nat)(q:List UInt8×Int)(hq:p.2[j]? = some q):Z9 L (d,(k:Int),(j:Int),())=some q.2:=by
 rcases k with _ | _ | _ | _ | _ | _ | _ | _ | _ | _ | k
 ·obtain rfl:=Option.some.inj hp; obtain ⟨x,hx,rfl⟩:=Qy hq; exact AZ L d j x hx
 ·obtain rfl:=Option.some.inj hp; obtain ⟨x,hx,rfl⟩:=Qy hq; exact Fa L h1 d h hL j x hx
 ·obtain rfl:=Option.some.inj hp; obtain ⟨x,hx,rfl⟩:=Qy hq; exact Fb L d j x hx
 ·obtain rfl:=Option.some.inj hp; obtain ⟨x,hx,rfl⟩:=Qy hq; exact Fe L d j x hx
 ·obtain rfl:=Option.some.inj hp; obtain ⟨x,hx,rfl⟩:=Qy hq; exact OG L d 4 j (by simp)
 ·obtain rfl:=Option.some.inj hp; obtain ⟨x,hx,rfl⟩:=Qy hq; exact OG L d 5 j (by simp)
 ·obtain rfl:=Option.some.inj hp; obtain ⟨x,hx,rfl⟩:=Qy hq; exact OG L d 6 j (by simp)
 ·obtain rfl:=Option.some.inj hp; obtain ⟨x,hx,rfl⟩:=Qy hq; exact OG L d 7 j (by simp)
 ·obtain rfl:=Option.some.inj hp; obtain ⟨x,hx,rfl⟩:=Qy hq; exact OG L d 8 j (by simp)
 ·obtain rfl:=Option.some.inj hp; obtain ⟨x,hx,rfl⟩:=Qy hq; exact Ff L h1 d h hL j x hx
 ·exact absurd hp (by simp [YY])
theorem Bc (L:Nat)(d:Zg)(h:Yk d)(hL:SizeOf.sizeOf d≤L):∀ p ∈ YY d,∀ q ∈ p.2,Len q.1∧q.1.length < L:=by
 have hz:=IL d
 intro p hp q hq
 simp only [YY,List.mem_cons,List.not_mem_nil,or_false] at hp
 unfold Len
 rcases hp with rfl | rfl | rfl | rfl | rfl | rfl | rfl | rfl | rfl | rfl <;> obtain ⟨x,mem,rfl⟩:=List.mem_map.1 hq
 ·have:=F7 (fun v:Xg=>v.Name) (fun x=>by cases x; simp; omega) mem; have:=(h.Vars.2 x mem).Name; simp only; omega
 ·have:=F7 (fun v:Zk=>v.Name) (fun x=>by cases x; simp; omega) mem; have:=(h.Resources.2 x mem).Name; simp only; omega
 ·have:=F7 (fun v:ZR=>v.Name) (fun x=>by cases x; simp; omega) mem; have:=(h.Stores.2 x mem).Name; simp only; omega
 ·have:=F7 (fun v:Yn=>v.Name) (fun x=>by cases x; simp; omega) mem; have:=(h.Belts.2 x mem).Name; simp only; omega
 ·have:=List.sizeOf_lt_of_mem mem; have:=Zu x; have:=h.Queues.2 x mem; simp only; omega
 ·have:=List.sizeOf_lt_of_mem mem; have:=Zu x; have:=h.Streams.2 x mem; simp only; omega
 ·have:=List.sizeOf_lt_of_mem mem; have:=Zu x; have:=h.Tallies.2 x mem; simp only; omega
 ·have:=List.sizeOf_lt_of_mem mem; have:=Zu x; have:=h.Levels.2 x mem; simp only; omega
 ·have:=List.sizeOf_lt_of_mem mem; have:=Zu x; have:=h.Counts.2 x mem; simp only; omega
 ·have:=F7 (fun v:ZO=>v.Name) (fun x=>by cases x; simp; omega) mem; have:=(h.Routines.2 x mem).Name; simp only; omega
theorem inner (L:Nat)(h1:1000≤L)(d:Zg)(h:Yk d)(hL:SizeOf.sizeOf d≤L)(k:Nat)(p:Int×List (List UInt8×Int))(hp:(YY d)[k]? = some p)(hl:p.2.length≤32)(hk:k < 10)(self:Int×List (List UInt8)×Int×PUnit→Option Int)(s0 s:Seen)(hs:s.length≤32 * k) :
  loopT (WO d L ((YY d).map OC) self (0,s0,(k:Int),())) L (0,s,0,())=if decide ((QC J6 p.2 s).1≠0)=true then some (QC J6 p.2 s).1 else self (0,(QC J6 p.2 s).2,(k:Int) + 1,()):=by
 have hg:getT ((YY d).map OC) (k:Int)=some (OC p):=by rw [Zf,List.getElem?_map,hp]; rfl
 have hlen:(OC p).length=p.2.length:=by simp [OC]
 refine AA (f := WO d L ((YY d).map OC) self (0,s0,(k:Int),())) (fun s i=>(0,s,i,())) p.2 J6 (32 * k) (fun s=>self (0,s,(k:Int) + 1,())) (by omega) (fun x s=>TD _ _ _) (fun self1 s i x hx hi mem hsl=>?_) (fun self1 s hsl=>?_) s hs
 ·have hq:(OC p)[i]? = some x.1:=by unfold OC; rw [List.getElem?_map,hx]; rfl
  have hi':i < (OC p).length:=by omega
  have hnl:=Bc L d h hL p (List.mem_of_getElem? hp) x mem
  have hn:=Rk L (by omega) x.1 s hnl.1 hnl.2 (by unfold Len; omega) (by omega)
  have hd:=Bh L (by omega) d h hL k p hp i x hx
  rw [WO]
  simp only [hg,Zq]
  simp only [Zh,Ze,cond_true,cond_false,Zf,Zq,Zb,Zm,condC,Zi,Zj,Zn,ZW,Yf,ZT,hi',hq,hn,hd,J3,apS (show s.length≤8000000000000 by omega),wrap_in (show -9223372036854775808≤(i:Int) + 1 by omega) (by omega)]
  rw [← LG]
  show _=bif !decide ((QY x.1 x.2 s).1=0) then some (QY x.1 x.2 s).1 else self1 (0,(QY x.1 x.2 s).2,(i:Int) + 1,())
  by_cases c:(QY x.1 x.2 s).1=0
  ·rw [TJ c]
  ·simp [c]
 ·rw [WO,← hlen]
  simp only [hg,Zq]
  simp only [Zh,Ze,cond_true,cond_false,Zf,Zq,Zb,Zm,condC,Zi,Zj,Zn,ZW,Yf,ZT,wrap_in (show -9223372036854775808≤(k:Int) + 1 by omega) (by omega)]
theorem outer (L:Nat)(h1:1000≤L)(d:Zg)(h:Yk d)(hL:SizeOf.sizeOf d≤L)(E:Option Int)(hE:(bif decide ((d.Starts.length:Int) > 32) then some (6:Int) else loopT (KA d L) L (0,0,()))=E):∀ (m k:Nat) (s:Seen),k≤10→10 - k < m→s.length≤32 * k →
  loopT (WP d L ((YY d).map OC)) m (0,s,(k:Int),())=if decide ((Fv (((YY d).drop k).map stepD) s).1≠0)=true then some (Fv (((YY d).drop k).map stepD) s).1 else E
 | 0,_,_,_,h,_=>absurd h (Nat.not_lt_zero _)
 | m + 1,k,s,hk,hm,hs=>by
  show WP d L ((YY d).map OC) (loopT (WP d L ((YY d).map OC)) m) (0,s,(k:Int),())=_
  have hlen:(YY d).length=10:=rfl
  have hlm:((YY d).map OC).length=10:=by rw [List.length_map,hlen]
  rcases Nat.lt_or_ge k 10 with hlt | hge
  ·have hp:=List.getElem?_eq_getElem (show k < (YY d).length by omega)
   generalize (YY d)[k]=p at hp
   have hg:getT ((YY d).map OC) (k:Int)=some (OC p):=by rw [Zf,List.getElem?_map,hp]; rfl
   have hnl:(OC p).length=p.2.length:=by simp [OC]
   have hmost:=Ba d k p hp
   have hdrop:(YY d).drop k=p :: (YY d).drop (k + 1):=by
    rw [List.drop_eq_getElem_cons (show k < (YY d).length by omega)]
    congr 1
    exact Option.some.inj ((List.getElem?_eq_getElem (show k < (YY d).length by omega)).symm.trans hp)
   have hguard:(decide ((p.2.length:Int) > 32) || (decide ((k:Int)=9) && decide ((p.2.length:Int) > 16)))=decide (p.1 < (p.2.length:Int)):=by
    rw [hmost]
    by_cases c:k=9
    ·subst c; simp; omega
    ·rw [if_neg c,show decide ((k:Int)=9)=false by simp only [decide_eq_false_iff_not]; omega]; simp
   rw [WP,hdrop,List.map_cons,Fv]
   simp only [hlm,show decide ((k:Int) < ((10:Nat):Int))=true by simp only [decide_eq_true_eq]; omega,cond_true,hg,Zq,hnl]
   simp only [Zh,Ze,cond_true,cond_false,Zf,Zq,Zb,Zm,condC,Zi,Zj,Zn,ZW,Yf,ZT,hguard]
   by_cases c:p.1 < (p.2.length:Int)
   ·have e:stepD p s=(6,s):=by unfold stepD Ea; rw [if_pos (by simpa using c)]
    simp [c,e]
   ·have e:stepD p s=QC J6 p.2 s:=by unfold stepD Ea; rw [if_neg (by simpa using c)]
    have hpl:p.2.length≤32:=by rw [hmost] at c; split at c <;> omega
    rw [show decide (p.1 < (p.2.length:Int))=false by simpa using c,cond_false,inner L h1 d h hL k p hp hpl hlt,e]
    have hsl:(QC J6 p.2 s).2.length≤32 * (k + 1):=by have:=RF p.2 s; omega
    have ih:=outer L h1 d h hL E hE m (k + 1) (QC J6 p.2 s).2 hlt (by omega) hsl
    by_cases z:(QC J6 p.2 s).1=0
    ·simp only [z,ne_eq,not_true_eq_false,decide_false,Bool.false_eq_true,if_false]
     exact ih
    ·simp [z]
    exact hs
  ·have:k=10:=by omega
   subst this
   rw [WP,hlm,show (YY d).drop 10=[] from rfl]
   simp only [Zh,Ze,cond_true,cond_false,Zf,Zq,Zb,Zm,condC,Zi,Zj,Zn,ZW,Yf,ZT,show decide (((10:Nat):Int) < ((10:Nat):Int))=false from rfl,hE]
   simp [Fv]
end Go.Proofs.YtbcfddaocfpckaaGreatDoor
end
section
namespace Go.Proofs.YtbcfddaocfpckaaGreatDoor
open Go Go.Proofs.YtbcfddaocfpckaaGreatDoor.Abs Go.Proofs.YtbcfddaocfpckaaGreatDoor.Tl
set_option maxRecDepth 100000
abbrev bd (n:Int):Prop:=-9223372036854775808≤n∧n≤9223372036854775807
theorem ZI {β:Type}{a b:List UInt8}{k:List UInt8→Option β}(h:a.length + b.length≤4611686018427387904):bT (catS a b) k=k (a ++ b):=by unfold catS; rw [if_pos h]; rfl
theorem D9 {n:Int}(h:bd n):O5 n=some (Lib.itoa n):=if_pos h
theorem Iw {n:Int}(h:bd n):(Lib.itoa n).length≤21:=Lib.itoa_length_le n h.1 h.2
theorem CQ {α:Type}{b:Nat}{l m:List α}{β:Type}{k:List α→Option β}(h:(l.length + m.length) * b≤140737488355328):bT (apT b l m) k=k (l ++ m):=by unfold apT; rw [if_pos h]; rfl
theorem Eh {l:List (List UInt8)}{s:List UInt8}(h1:l.length≤140737488355328)(h2:(Lib.join l s).length≤140737488355328):Nh l s=some (Lib.join l s):=if_pos ⟨h1,h2⟩
theorem loopK {τ α σ ρ:Type}{f:(τ→Option ρ)→τ→Option ρ}(l:List α)(pk:σ→Int→τ)(P:Nat→σ→Prop)(A:Option ρ)
  (h1:∀ self s (i:Nat) x,P i s→l[i]? = some x→i < l.length→x ∈ l→(∀ s',P (i + 1) s'→self (pk s' ((i:Int) + 1))=A)→f self (pk s i)=A)
  (h2:∀ self s,P l.length s→f self (pk s (l.length:Nat))=A):∀ (m i:Nat) (s:σ),P i s→i≤l.length→l.length - i < m→loopT f m (pk s i)=A
 | 0,_,_,_,_,h=>absurd h (Nat.not_lt_zero _)
 | m + 1,i,s,hP,hi,hm=>by
  show f (loopT f m) (pk s i)=_
  rcases Nat.lt_or_ge i l.length with hlt | hge
  ·exact h1 _ s i _ hP (List.getElem?_eq_getElem hlt) hlt (List.getElem_mem hlt) fun s' hP'=>loopK l pk P A h1 h2 m (i + 1) s' hP' hlt (by omega)
  ·have:i=l.length:=by omega
   subst this
   exact h2 _ s hP
theorem NZ {α σ ρ:Type}{f:(σ×Int×PUnit→Option ρ)→σ×Int×PUnit→Option ρ}(l:List α)(P:Nat→σ→Prop)(A:Option ρ){m:Nat}(hm:l.length < m)(s:σ)(hP:P 0 s)
  (h1:∀ self s (i:Nat) x,P i s→l[i]? = some x→i < l.length→x ∈ l→(∀ s',P (i + 1) s'→self (s',(i:Int) + 1,())=A)→f self (s,(i:Int),())=A)
  (h2:∀ self s,P l.length s→f self (s,(l.length:Int),())=A):loopT f m (s,0,())=A :=
 loopK l (fun s i=>(s,i,())) P A h1 h2 m 0 s hP (Nat.zero_le _) (by omega)
theorem take_succ' {α:Type}{l:List α}{i:Nat}{x:α}(h:l[i]? = some x):l.take (i + 1)=l.take i ++ [x]:=by
 rw [List.take_succ,h]; rfl
theorem MB (sep x:List UInt8):∀ a:List (List UInt8),Lib.join (a ++ [x]) sep=if a=[] then x else Lib.join a sep ++ (sep ++ x)
 | []=>by simp [Lib.join,List.intercalate]
 | [y]=>by simp [Lib.join,List.intercalate]
 | y :: z :: a=>by
  have:=MB sep x (z :: a)
  rw [if_neg (by simp)] at this ⊢
  simp only [Lib.join,List.cons_append] at this ⊢
  rw [List.intercalate_cons_cons,List.intercalate_cons_cons,this]
  simp
theorem Jz (sep x y:List UInt8)(a:List (List UInt8)):Lib.join (x :: y :: a) sep=x ++ (sep ++ Lib.join (y :: a) sep):=by
 simp [Lib.join,List.intercalate_cons_cons]
theorem DC:∀ (a:List (List UInt8)) (p q:UInt8),2 * a.length≤(Lib.join a [p,q]).length + 2
 | [],_,_=>by simp
 | [x],_,_=>by simp [Lib.join,List.intercalate]
 | x :: y :: a,p,q=>by
  have:=DC (y :: a) p q
  rw [Jz]
  simp only [List.length_cons,List.length_append,List.length_nil] at this ⊢
  omega
theorem DF (sep:List UInt8):∀ (a:List (List UInt8)) (i:Nat),(Lib.join (a.take i) sep).length≤(Lib.join a sep).length
 | _,0=>by simp [Lib.join,List.intercalate]
 | [],i + 1=>by simp
 | [x],i + 1=>by simp
 | x :: y :: a,1=>by rw [Jz]; simp [Lib.join,List.intercalate]
 | x :: y :: a,i + 2=>by
  have:=DF sep (y :: a) (i + 1)
  rw [List.take_succ_cons,List.take_succ_cons] at *
  rw [Jz,Jz]
  simp only [List.length_append]
  omega
theorem DD (sep:List UInt8):∀ {a:List (List UInt8)} {x:List UInt8},x ∈ a→x.length≤(Lib.join a sep).length
 | [y],x,h=>by simp at h; subst h; simp [Lib.join,List.intercalate]
 | y :: z :: a,x,h=>by
  rw [Jz]
  rcases List.mem_cons.1 h with rfl | h
  ·simp only [List.length_append]; omega
  ·have:=DD sep h
   simp only [List.length_append]; omega
def sgX (o:Int):List UInt8:=if decide (o=19)=true then [111,114] else if decide (o=18)=true then [97,110,100] else if decide (o=14)=true then [61] else if decide (o=15)=true then [33,61] else if decide (o=16)=true then [60] else if decide (o=17)=true then [60,61] else if decide (o=9)=true then [43] else if decide (o=10)=true then [45] else if decide (o=11)=true then [42] else if decide (o=12)=true then [47] else if decide (o=13)=true then [37] else []
def lvX (o:Int):Int:=if decide (o=19)=true then 1 else if decide (o=18)=true then 2 else if decide (o=6)=true then 3 else if decide (o=14)=true then 4 else if decide (o=15)=true then 4 else if decide (o=16)=true then 4 else if decide (o=17)=true then 4 else if decide (o=9)=true then 5 else if decide (o=10)=true then 5 else if decide (o=11)=true then 6 else if decide (o=12)=true then 6 else if decide (o=13)=true then 6 else if decide (o=5)=true then 7 else 8
def Ci (l least:Int)(s:List UInt8):List UInt8:=if l < least then 40 :: (s ++ [41]) else s
def Kt (least:Int)(k:Int×List UInt8):List UInt8:=Ci k.1 least k.2
def QN (w:List UInt8)(ts:List (List UInt8)):List UInt8:=w ++ 40 :: (Lib.join ts [44,32] ++ [41])
def k0 (ks:List (Int×List UInt8)):Int×List UInt8:=ks.getD 0 (0,[])
def k1 (ks:List (Int×List UInt8)):Int×List UInt8:=ks.getD 1 (0,[])
def Wl (o:Int)(nm:List UInt8)(n:Int)(ks:List (Int×List UInt8)):List UInt8 :=
 if o=1 then (if n < 0 then 40 :: (Lib.itoa n ++ [41]) else Lib.itoa n)
 else if o=2 then (if n=1 then [116,114,117,101] else [102,97,108,115,101])
 else if o=3 then nm
 else if o=4 then [110,111,119]
 else if o=7 then QN [100,117,114] (ks.map (·.2))
 else if o=8 then QN [116,105,99,107,115] (ks.map (·.2))
 else if o=20 then QN [109,105,110] (ks.map (·.2))
 else if o=21 then QN [109,97,120] (ks.map (·.2))
 else if o=22 then [102,114,101,101,40] ++ (nm ++ [41])
 else if o=23 then [115,105,122,101,40] ++ (nm ++ [41])
 else if o=24 then [119,97,105,116,105,110,103,40] ++ (nm ++ [41])
 else if o=6 then [110,111,116,32] ++ Kt 3 (k0 ks)
 else if o=5 then 45 :: Kt 7 (k0 ks)
 else Kt (if lvX o=4 then 5 else lvX o) (k0 ks) ++ 32 :: (sgX o ++ 32 :: Kt (lvX o + 1) (k1 ks))
mutual
def txX:Zc→List UInt8
 | ⟨o,a,n,ks⟩=>Wl o a n (NR ks)
def NR:List Zc→List (Int×List UInt8)
 | []=>[]
 | e :: l=>(lvX e.Op,txX e) :: NR l
end
theorem P7:∀ l:List Zc,NR l=l.map fun e=>(lvX e.Op,txX e)
 | []=>by rw [NR]; rfl
 | e :: l=>by rw [NR,P7 l]; rfl
theorem We (e:Zc):txX e=Wl e.Op e.Name e.N (e.Kids.map fun e=>(lvX e.Op,txX e)):=by cases e; rw [txX,P7]
theorem O4 {e:Zc}(h:Yo false e=0):VV false e=0∧∀ x ∈ e.Kids,Yo false x=0:=by
 rw [Kq] at h
 by_cases c:VV false e=0
 ·rw [if_neg (by simp [c])] at h
  refine ⟨c,?_⟩
  generalize e.Kids=l at h
  induction l with
  | nil=>intro x hx; cases hx
  | cons y l ih =>
   rw [Q8] at h
   by_cases c2:Yo false y=0
   ·rw [if_neg (by simp [c2])] at h
    intro x hx
    rcases List.mem_cons.1 hx with rfl | hx
    ·exact c2
    ·exact ih h x hx
   ·rw [if_pos (by simp [c2])] at h; exact absurd h c2
 ·rw [if_pos (by simp [c])] at h; exact absurd h c
theorem Bg {e:Zc}(h:VV false e=0):1≤e.Op∧e.Op≤24∧(e.Kids.length:Int)=Vp e.Op∧(e.Op=2→e.N=0∨e.N=1):=by
 unfold VV at h
 split at h
 ·cases h
 rename_i h1
 simp only [Bool.or_eq_true,Bool.not_eq_true',decide_eq_true_eq,not_or,Bool.not_eq_false,ne_eq,Decidable.not_not] at h1
 obtain ⟨⟨k1,k2⟩,k3⟩:=h1
 have hr:1≤e.Op∧e.Op≤24:=by
  unfold Ko Vp at k1
  simp only [Bool.not_false] at k1
  by_cases c1:e.Op=25
  ·simp [c1] at k1
  by_cases c2:e.Op=26
  ·simp [c2] at k1
  repeat' split at k1
  all_goals simp_all
  all_goals omega
 refine ⟨hr.1,hr.2,k2,fun e2=>?_⟩
 rw [e2] at h
 simp only [PK,decide_true,if_true,Bool.not_true,Bool.false_and,Bool.true_and] at h
 by_cases c:e.N=0∨e.N=1
 ·exact c
 ·rw [if_neg (by decide),if_neg (by decide),if_pos (by simp only [Bool.or_eq_true,decide_eq_true_eq]; omega)] at h
  cases h
end Go.Proofs.YtbcfddaocfpckaaGreatDoor
end
section
namespace Go.Proofs.YtbcfddaocfpckaaGreatDoor
open Go Go.Proofs.YtbcfddaocfpckaaGreatDoor.Abs Go.Proofs.YtbcfddaocfpckaaGreatDoor.Tl
set_option maxRecDepth 100000
def lv0 (o:Int):Int:=if decide (o=19)=true then 1 else if decide (o=18)=true then 2 else if decide (o=14)=true then 4 else if decide (o=15)=true then 4 else if decide (o=16)=true then 4 else if decide (o=17)=true then 4 else if decide (o=9)=true then 5 else if decide (o=10)=true then 5 else if decide (o=11)=true then 6 else if decide (o=12)=true then 6 else if decide (o=13)=true then 6 else 8
theorem Rj (L:Nat)(e:Zc):Qb L (e,())=some (lvX e.Op):=by
 rw [Le]; simp only [Zh,Ze,cond_true,cond_false,Zf,Zq,Zb,Zm,condC,Zi,Zj,Zn,ZW,Yf,ZT]; simp only [Y1,Vd,if_true,if_false,Bool.false_eq_true,ne_eq,decide_not,gt_iff_lt,ge_iff_le]; rfl
theorem ED (L:Nat)(o:Int):QE L (o,())=some (sgX o):=by
 rw [BH]; simp only [Zh,Ze,cond_true,cond_false,Zf,Zq,Zb,Zm,condC,Zi,Zj,Zn,ZW,Yf,ZT]; simp only [Y1,Vd,if_true,if_false,Bool.false_eq_true,ne_eq,decide_not,gt_iff_lt,ge_iff_le]; rfl
theorem Sr (L:Nat)(o:Int):∃ b,Yi L (o,())=some (sgX o,lv0 o,b,()):=by
 rw [Ur]
 unfold sgX lv0
 simp only [ZW]
 by_cases c19:o=19
 ·exact ⟨true,by simp [c19]⟩
 by_cases c18:o=18
 ·exact ⟨true,by simp [c18]⟩
 by_cases c14:o=14
 ·exact ⟨true,by simp [c14]⟩
 by_cases c15:o=15
 ·exact ⟨true,by simp [c15]⟩
 by_cases c16:o=16
 ·exact ⟨true,by simp [c16]⟩
 by_cases c17:o=17
 ·exact ⟨true,by simp [c17]⟩
 by_cases c9:o=9
 ·exact ⟨true,by simp [c9]⟩
 by_cases c10:o=10
 ·exact ⟨true,by simp [c10]⟩
 by_cases c11:o=11
 ·exact ⟨true,by simp [c11]⟩
 by_cases c12:o=12
 ·exact ⟨true,by simp [c12]⟩
 by_cases c13:o=13
 ·exact ⟨true,by simp [c13]⟩
 exact ⟨false,by simp [c19,c18,c14,c15,c16,c17,c9,c10,c11,c12,c13]⟩
theorem Si {o:Int}(h5:o≠5)(h6:o≠6):lv0 o=lvX o:=by
 unfold lv0 lvX
 rw [if_neg (c := decide (o=6)=true) (by simp [h6]),if_neg (c := decide (o=5)=true) (by simp [h5])]
theorem Ez (L:Nat)(e:Zc):Wu L (e,())=some (lvX e.Op):=by
 rw [I7]
 obtain ⟨b,hb⟩:=Sr L e.Op
 by_cases c6:e.Op=6
 ·simp [c6,lvX]
 by_cases c5:e.Op=5
 ·simp [c5,lvX]
 rw [show (e.1 == 6)=false by simpa using c6,show (e.1 == 5)=false by simpa using c5,cond_false,cond_false,hb,Zq]
 exact congrArg some (Si c5 c6)
theorem Ny {L m:Nat}{e:Zc}(least:Int)(h:Zz L m (e,())=some (txX e))(hb:(txX e).length≤2199023255552):Z5 L (m + 1) (e,least,())=some (Kt least (lvX e.Op,txX e)):=by
 rw [Kz,Ez,Zq,h]
 unfold Kt Ci
 simp only [Zq]
 by_cases c:lvX e.Op < least
 ·rw [show decide (lvX e.Op < least)=true by simpa using c,cond_true,if_pos c]
  (simp (disch := (((try simp only [List.length_append,List.length_cons,List.length_nil] at *); omega))) only [ZI,Zq]); rfl
 ·rw [show decide (lvX e.Op < least)=false by simpa using c,cond_false,if_neg c]
theorem Rl {L m:Nat}{e:Zc}(least:Int)(h:Z7 L m (e,())=some (txX e))(hb:(txX e).length≤2199023255552):ZE L (m + 1) (e,least,())=some (Kt least (lvX e.Op,txX e)):=by
 rw [IC,Rj,Zq,h]
 unfold Kt Ci
 simp only [Zq]
 by_cases c:lvX e.Op < least
 ·rw [show decide (lvX e.Op < least)=true by simpa using c,cond_true,if_pos c]
  (simp (disch := (((try simp only [List.length_append,List.length_cons,List.length_nil] at *); omega))) only [ZI,Zq]); rfl
 ·rw [show decide (lvX e.Op < least)=false by simpa using c,cond_false,if_neg c]
theorem Yw (least:Int)(k:Int×List UInt8):k.2.length≤(Kt least k).length∧(Kt least k).length≤k.2.length + 2:=by
 unfold Kt Ci; split <;> simp <;> omega
theorem Ew {L:Nat}{ρ:Type}{f:(List (List UInt8)×Int×PUnit→Option ρ)→List (List UInt8)×Int×PUnit→Option ρ}(g:Zc→Option (List UInt8))(k:List UInt8→Option ρ)(l:List Zc)
  (h0:∀ x ∈ l,g x=some (txX x)) (hL:l.length < L) (hb:(Lib.join (l.map txX) [44,32]).length≤2199023255552)
  (hf:∀ self acc,f self acc=bif decide (acc.2.1 < (l.length:Int)) then bT (getT l acc.2.1) fun y=>bT (g y) fun y=>bT (apT 16 acc.1 [y]) fun y=>self (y,IntKind.i64.wrap (acc.2.1 + 1),()) else bT (Nh acc.1 [44,32]) k) :
  loopT f L ([],0,())=k (Lib.join (l.map txX) [44,32]):=by
 have hn:=DC (l.map txX) 44 32
 rw [List.length_map] at hn
 refine NZ l (fun i s=>s=(l.take i).map txX) _ hL [] rfl (fun self s i x hP hx hi mem e'=>?_) (fun self s hP=>?_)
 ·subst hP
  rw [hf]
  simp only [Zh hi,cond_true,Zf,hx,Zq,h0 x mem,wrap_succ hi (by omega)]
  rw [CQ (by simp only [List.length_map,List.length_take,List.length_cons,List.length_nil]; omega)]
  exact e' _ (by rw [take_succ' hx]; simp)
 ·rw [List.take_length] at hP
  subst hP
  rw [hf]
  simp only [Ze,cond_false]
  rw [Eh (by simp only [List.length_map]; omega) (by omega),Zq]
theorem N7 {L:Nat}{f:(List UInt8×Int×PUnit→Option (List UInt8))→List UInt8×Int×PUnit→Option (List UInt8)}(g:Zc→Option (List UInt8))(l:List Zc)
  (h0:∀ x ∈ l,g x=some (txX x)) (hL:l.length < L) (hb:(Lib.join (l.map txX) [44,32]).length≤2199023255552)
  (hf:∀ self acc,f self acc=bif decide (acc.2.1 < (l.length:Int)) then bif decide (acc.2.1 > 0) then bT (catS acc.1 [44,32]) fun y=>bT (getT l acc.2.1) fun y_1=>bT (g y_1) fun y_2=>bT (catS y y_2) fun y=>self (y,IntKind.i64.wrap (acc.2.1 + 1),()) else bT (getT l acc.2.1) fun y=>bT (g y) fun y=>bT (catS acc.1 y) fun y=>self (y,IntKind.i64.wrap (acc.2.1 + 1),()) else bT (catS [40] acc.1) fun y=>bT (catS y [41]) fun y=>some y) :
  loopT f L ([],0,())=some (40 :: (Lib.join (l.map txX) [44,32] ++ [41])):=by
 have hn:=DC (l.map txX) 44 32
 rw [List.length_map] at hn
 refine NZ l (fun i s=>s=Lib.join ((l.map txX).take i) [44,32]) _ hL [] rfl (fun self s i x hP hx hi mem e'=>?_) (fun self s hP=>?_)
 ·subst hP
  have b1:=DF [44,32] (l.map txX) i
  have b2:=DD [44,32] (List.mem_map_of_mem (f := txX) mem)
  rw [hf]
  have hx':(l.map txX)[i]? = some (txX x):=by rw [List.getElem?_map,hx]; rfl
  have hs:=take_succ' hx'
  by_cases c:i=0
  ·subst c
   simp only [show decide (((0:Nat):Int) < (l.length:Int))=true from Zh hi,cond_true,show decide (((0:Nat):Int) > 0)=false from rfl,cond_false,Zf,hx,Zq,h0 x mem,wrap_succ hi (by omega)]
   rw [ZI (by simp [Lib.join,List.intercalate]; omega)]
   refine e' _ ?_
   rw [hs,MB,if_pos (by simp)]
   simp [Lib.join,List.intercalate]
  ·simp only [Zh hi,cond_true,show decide ((i:Int) > 0)=true by simp; omega,Zf,hx,Zq,h0 x mem,wrap_succ hi (by omega)]
   rw [ZI (by simp only [List.length_cons,List.length_nil]; omega),ZI (by simp only [List.length_append,List.length_cons,List.length_nil]; omega)]
   refine e' _ ?_
   rw [hs,MB,if_neg (by
    intro e
    have:=congrArg List.length e
    rw [List.length_take,List.length_map] at this
    simp only [List.length_nil] at this
    omega)]
   simp
 ·have e:(l.map txX).take l.length=l.map txX:=by rw [← List.length_map (f := txX),List.take_length]
  rw [e] at hP
  subst hP
  rw [hf]
  simp only [Ze,cond_false]
  (simp (disch := (((try simp only [List.length_append,List.length_cons,List.length_nil] at *); omega))) only [ZI,Zq])
  simp
end Go.Proofs.YtbcfddaocfpckaaGreatDoor
end
section
namespace Go.Proofs.YtbcfddaocfpckaaGreatDoor
open Go Go.Proofs.YtbcfddaocfpckaaGreatDoor.Abs Go.Proofs.YtbcfddaocfpckaaGreatDoor.Tl
set_option maxRecDepth 100000
theorem Zas {l:List Zc}(h:(l.length:Int)=1):∃ a,l=[a]:=by
 match l,h with
 | [a],_=>exact ⟨a,rfl⟩
 | [],h=>simp at h
 | _ :: _ :: _,h=>simp only [List.length_cons] at h; omega
theorem Zat {l:List Zc}(h:(l.length:Int)=2):∃ a b,l=[a,b]:=by
 match l,h with
 | [a,b],_=>exact ⟨a,b,rfl⟩
 | [],h=>simp at h
 | [_],h=>simp at h
 | _ :: _ :: _ :: _,h=>simp only [List.length_cons] at h; omega
theorem Za0 {l:List Zc}(h:(l.length:Int)=0):l=[]:=List.eq_nil_of_length_eq_zero (by omega)
inductive H8:Zc→Prop
 | int (a n ks):H8 ⟨1,a,n,ks⟩
 | bool (a n ks) (h:n=0∨n=1):H8 ⟨2,a,n,ks⟩
 | name (a n ks):H8 ⟨3,a,n,ks⟩
 | now (a n ks):H8 ⟨4,a,n,ks⟩
 | call (o a n x ks) (h:o=7∨o=8∨o=20∨o=21):H8 ⟨o,a,n,x :: ks⟩
 | obj (o a n) (h:o=22∨o=23∨o=24):H8 ⟨o,a,n,[]⟩
 | un (o a n x) (h:o=5∨o=6):H8 ⟨o,a,n,[x]⟩
 | bi (o a n x y) (h:9≤o∧o≤19):H8 ⟨o,a,n,[x,y]⟩
theorem Fz {e:Zc}(h:VV false e=0):H8 e:=by
 obtain ⟨h1,h2,h3,h4⟩:=Bg h
 obtain ⟨o,a,n,ks⟩:=e
 simp only at h1 h2 h3 h4
 have cs:o=1∨o=2∨o=3∨o=4∨(o=7∨o=8)∨(o=20∨o=21)∨(o=22∨o=23∨o=24)∨(o=5∨o=6)∨(9≤o∧o≤19):=by omega
 rcases cs with rfl | rfl | rfl | rfl | c | c | c | c | c
 ·exact .int ..
 ·exact .bool _ _ _ (h4 rfl)
 ·exact .name ..
 ·exact .now ..
 ·have:Vp o=1:=by rcases c with rfl | rfl <;> rfl
  rw [this] at h3
  obtain ⟨x,rfl⟩:=Zas h3
  exact .call _ _ _ _ _ (by omega)
 ·have:Vp o=2:=by rcases c with rfl | rfl <;> rfl
  rw [this] at h3
  obtain ⟨x,y,rfl⟩:=Zat h3
  exact .call _ _ _ _ _ (by omega)
 ·have:Vp o=0:=by rcases c with rfl | rfl | rfl <;> rfl
  rw [this] at h3
  obtain rfl:=Za0 h3
  exact .obj _ _ _ c
 ·have:Vp o=1:=by rcases c with rfl | rfl <;> rfl
  rw [this] at h3
  obtain ⟨x,rfl⟩:=Zas h3
  exact .un _ _ _ _ c
 ·have:Vp o=2:=by
   unfold Vp
   rw [if_neg (by simp; omega),if_neg (by simp; omega),if_pos (by simp; omega)]
  rw [this] at h3
  obtain ⟨x,y,rfl⟩:=Zat h3
  exact .bi _ _ _ _ _ c
theorem X4 (l:List Zc):(l.map fun e=>(lvX e.Op,txX e)).map (·.2)=l.map txX:=by rw [List.map_map]; rfl
theorem Ae {o:Int}(h:9≤o∧o≤19):o≠1∧o≠2∧o≠3∧o≠4∧o≠7∧o≠8∧o≠20∧o≠21∧o≠22∧o≠23∧o≠24∧o≠6∧o≠5:=by omega
theorem AL {o:Int}(h:9≤o∧o≤19):1≤lvX o∧lvX o≤6∧lvX o≠3:=by
 have:o=9∨o=10∨o=11∨o=12∨o=13∨o=14∨o=15∨o=16∨o=17∨o=18∨o=19:=by omega
 rcases this with rfl | rfl | rfl | rfl | rfl | rfl | rfl | rfl | rfl | rfl | rfl <;> decide
theorem Py (o:Int):(sgX o).length≤3:=by
 unfold sgX
 repeat' split
 all_goals simp
theorem DR {o:Int}(h:9≤o∧o≤19)(a:List UInt8)(n:Int)(p q:Int×List UInt8):Wl o a n [p,q]=Kt (if lvX o=4 then 5 else lvX o) p ++ 32 :: (sgX o ++ 32 :: Kt (lvX o + 1) q):=by
 obtain ⟨h1,h2,h3,h4,h7,h8,h20,h21,h22,h23,h24,h6,h5⟩:=Ae h
 unfold Wl
 simp only [h1,h2,h3,h4,h7,h8,h20,h21,h22,h23,h24,h6,h5,if_false]
 rfl
theorem PE {o:Int}(h:1≤lvX o∧lvX o≤6):IntKind.i64.wrap (lvX o + 1)=lvX o + 1:=Zar (by omega) (by omega)
theorem AY {L m:Nat}(w:List UInt8)(hw:w.length≤100)(o:Int)(a:List UInt8)(n:Int)(x:Zc)(ks:List Zc)(h0:∀ y ∈ x :: ks,Zz L m (y,())=some (txX y))(hL:(x :: ks).length < L)(hb:(QN w ((x :: ks).map txX)).length≤2199023255552) :
  ZC L (m + 1) (w,⟨o,a,n,x :: ks⟩,())=some (QN w ((x :: ks).map txX)):=by
 unfold QN at hb ⊢
 simp only [List.length_append,List.length_cons,List.length_nil] at hb
 rw [JP,show ((((x :: ks:List Zc).length:Nat):Int) == 0)=false by simp; omega,cond_false]
 rw [Ew (fun y=>Zz L m (y,())) (fun y=>some y) (x :: ks) h0 hL (by omega) (fun self acc=>by rw [VW])]
 simp only [Zq]
 (simp (disch := (((try simp only [List.length_append,List.length_cons,List.length_nil] at *); omega))) only [ZI,Zq])
 simp
theorem EC {L m:Nat}(l:List Zc)(h0:∀ y ∈ l,Z7 L m (y,())=some (txX y))(hL:l.length < L)(hb:(Lib.join (l.map txX) [44,32]).length≤2199023255552) :
  YH L (m + 1) (l,())=some (40 :: (Lib.join (l.map txX) [44,32] ++ [41])):=by
 rw [BG]
 exact N7 (fun y=>Z7 L m (y,())) l h0 hL hb fun self acc=>by rw [KC]
theorem DI {ks:List Zc}{x:Zc}(h:x ∈ ks):(txX x).length≤(Lib.join (ks.map txX) [44,32]).length:=DD _ (List.mem_map_of_mem h)
theorem Pn (L:Nat):∀ (m:Nat) (e:Zc),Zt e→Yo false e=0→(txX e).length≤2199023255552→2 * SizeOf.sizeOf e≤m→m≤L→Zz L m (e,())=some (txX e)
 | 0,e,_,_,_,h,_=>absurd h (by have:=XG e; omega)
 | 1,e,_,_,_,h,_=>absurd h (by have:=XG e; omega)
 | m + 2,e,ok,hg,hb,hs,hm=>by
  obtain ⟨h1,hk⟩:=O4 hg
  have ih:∀ x ∈ e.Kids,(txX x).length≤2199023255552→Zz L m (x,())=some (txX x):=fun x hx hb' =>
   Pn L m x (ok.Kids.2 x hx) (hk x hx) hb' (by have:=VU hx; omega) (by omega)
  have hks:=Zu e.Kids; have hz:=NL e
  rw [OV]
  cases Fz h1 with
  | int a n ks =>
   have hN:=ok.N
   have hl:=Iw hN
   simp only [Int.reduceBEq,cond_true,cond_false,D9 hN,Zq,txX,Wl,if_true,BEq.rfl]
   by_cases c:n < 0
   ·rw [show decide (n < 0)=true by simpa using c,cond_true,if_pos c]
    simp only at hl
    (simp (disch := (((try simp only [List.length_append,List.length_cons,List.length_nil] at *); omega))) only [ZI,Zq]); rfl
   ·rw [show decide (n < 0)=false by simpa using c,cond_false,if_neg c]
  | bool a n ks h =>
   simp only [I8,txX,Wl]
   rcases h with rfl | rfl <;> rfl
  | name a n ks=>rfl
  | now a n ks=>rfl
  | call o a n x ks h =>
   have hb2:(QN [] ((x :: ks).map txX)).length≤(txX ⟨o,a,n,x :: ks⟩).length:=by
    rw [We]
    rcases h with rfl | rfl | rfl | rfl <;> simp [Wl,QN,Function.comp_def]
   have ih':∀ y ∈ x :: ks,Zz L m (y,())=some (txX y):=fun y hy=>ih y hy (by
    have:=DI hy
    simp only [QN,List.nil_append,List.length_append,List.length_cons] at hb2
    simp only [List.map_cons] at this hb2
    omega)
   have hL:(x :: ks).length < L:=by simp only at hks hz; omega
   rcases h with rfl | rfl | rfl | rfl
   all_goals
    simp only [Int.reduceBEq,cond_true,cond_false]
    rw [We] at hb ⊢
    simp only [Wl,X4,Int.reduceEq,if_true,if_false] at hb ⊢
    rw [AY _ (by simp) _ _ _ _ _ ih' hL hb]; rfl
  | obj o a n h =>
   have hN:=ok.nl
   rcases h with rfl | rfl | rfl
   all_goals
    rw [We] at hb ⊢
    simp only [Wl,Int.reduceEq,if_true,if_false,Int.reduceBEq,cond_true,cond_false] at hb ⊢
    rw [JP]
    simp only [List.length_nil,show (((0:Nat):Int) == 0)=true from rfl,cond_true]
    simp only [List.length_append,List.length_cons,List.length_nil] at hb
    (simp (disch := (((try simp only [List.length_append,List.length_cons,List.length_nil] at *); omega))) only [ZI,Zq])
    simp
  | un o a n x h =>
   have hb2:(txX x).length≤(txX ⟨o,a,n,[x]⟩).length:=by
    rw [We ⟨o,a,n,[x]⟩]
    have l1:=(Yw 3 (lvX x.Op,txX x)).1; have l2:=(Yw 7 (lvX x.Op,txX x)).1
    simp only at l1 l2
    rcases h with rfl | rfl <;> simp [Wl,k0] <;> omega
   have ihx:=ih x (by simp) (by omega)
   have e3:=Ny 3 ihx (by omega); have e7:=Ny 7 ihx (by omega)
   have l1:=(Yw 3 (lvX x.Op,txX x)).2; have l2:=(Yw 7 (lvX x.Op,txX x)).2
   simp only at l1 l2
   rcases h with rfl | rfl
   all_goals
    rw [We]
    simp only [Wl,Int.reduceEq,if_true,if_false,Int.reduceBEq,cond_true,cond_false,UZ,List.getElem?_cons_zero,Zq,e3,e7]
    (simp (disch := (((try simp only [List.length_append,List.length_cons,List.length_nil] at *); omega))) only [ZI,Zq])
    simp [k0]
  | bi o a n x y h =>
   obtain ⟨h1',h2,h3,h4,h7,h8,h20,h21,h22,h23,h24,h6,h5⟩:=Ae h
   obtain ⟨v1,v2,v3⟩:=AL h
   obtain ⟨b,hop⟩:=Sr L o
   rw [Si h5 h6] at hop
   have et:txX ⟨o,a,n,[x,y]⟩=Kt (if lvX o=4 then 5 else lvX o) (lvX x.Op,txX x) ++ 32 :: (sgX o ++ 32 :: Kt (lvX o + 1) (lvX y.Op,txX y)):=by
    rw [We]; exact DR h a n _ _
   rw [et] at hb ⊢
   have l1:=(Yw (if lvX o=4 then 5 else lvX o) (lvX x.Op,txX x)).1; have l2:=(Yw (lvX o + 1) (lvX y.Op,txX y)).1
   have l3:=Py o
   simp only [List.length_append,List.length_cons] at hb l1 l2
   have ex:=Ny (if lvX o=4 then 5 else lvX o) (ih x (by simp) (by omega)) (by omega)
   have ey:=Ny (lvX o + 1) (ih y (by simp) (by omega)) (by omega)
   simp only [ZW,h1',h2,h3,h4,h7,h8,h20,h21,h22,h23,h24,h6,h5,decide_false,cond_false,hop,Zq,PE ⟨v1,v2⟩,UZ,NV,List.getElem?_cons_zero,List.getElem?_cons_succ]
   by_cases c:lvX o=4
   ·simp only [c,if_true] at ex hb ⊢
    simp only [c] at ey
    rw [show (5:Int)=4 + 1 from rfl] at ex
    simp only [decide_true,cond_true,ex,ey,Zq,show ((5:Int)=4 + 1)=True from by simp]
    rw [show (5:Int)=4 + 1 from rfl] at hb ⊢
    (simp (disch := (((try simp only [List.length_append,List.length_cons,List.length_nil] at *); omega))) only [ZI,Zq])
    simp
   ·simp only [c,if_false] at ex hb ⊢
    simp only [decide_false,cond_false,ex,ey,Zq]
    (simp (disch := (((try simp only [List.length_append,List.length_cons,List.length_nil] at *); omega))) only [ZI,Zq])
    simp
end Go.Proofs.YtbcfddaocfpckaaGreatDoor
end
section
namespace Go.Proofs.YtbcfddaocfpckaaGreatDoor
open Go Go.Proofs.YtbcfddaocfpckaaGreatDoor.Abs Go.Proofs.YtbcfddaocfpckaaGreatDoor.Tl
set_option maxRecDepth 100000
theorem Iz (L:Nat):∀ (m:Nat) (e:Zc),Zt e→Yo false e=0→(txX e).length≤2199023255552→3 * SizeOf.sizeOf e≤m→m≤L→Z7 L m (e,())=some (txX e)
 | 0,e,_,_,_,h,_=>absurd h (by have:=XG e; omega)
 | 1,e,_,_,_,h,_=>absurd h (by have:=XG e; omega)
 | 2,e,_,_,_,h,_=>absurd h (by have:=XG e; omega)
 | m + 3,e,ok,hg,hb,hs,hm=>by
  obtain ⟨h1,hk⟩:=O4 hg
  have ih:∀ x ∈ e.Kids,(txX x).length≤2199023255552→Z7 L m (x,())=some (txX x):=fun x hx hb' =>
   Iz L m x (ok.Kids.2 x hx) (hk x hx) hb' (by have:=VU hx; omega) (by omega)
  have ih1:∀ x ∈ e.Kids,(txX x).length≤2199023255552→Z7 L (m + 1) (x,())=some (txX x):=fun x hx hb' =>
   Iz L (m + 1) x (ok.Kids.2 x hx) (hk x hx) hb' (by have:=VU hx; omega) (by omega)
  have hks:=Zu e.Kids; have hz:=NL e
  rw [BF,Rj,Zq]
  cases Fz h1 with
  | int a n ks =>
   have hN:=ok.N
   have hl:=Iw hN
   rw [show ((lvX (1:Int)) == 8)=true from rfl,cond_true,Yr]
   simp only [Int.reduceBEq,cond_true,cond_false,D9 hN,Zq,txX,Wl,if_true,BEq.rfl]
   by_cases c:n < 0
   ·rw [show decide (n < 0)=true by simpa using c,cond_true,if_pos c]
    simp only at hl
    (simp (disch := (((try simp only [List.length_append,List.length_cons,List.length_nil] at *); omega))) only [ZI,Zq]); rfl
   ·rw [show decide (n < 0)=false by simpa using c,cond_false,if_neg c]; rfl
  | bool a n ks h =>
   rw [show ((lvX (2:Int)) == 8)=true from rfl,cond_true,Yr]
   simp only [Int.reduceBEq,cond_true,cond_false,txX,Wl,Zb]
   rcases h with rfl | rfl <;> rfl
  | name a n ks=>rw [show ((lvX (3:Int)) == 8)=true from rfl,cond_true,Yr]; rfl
  | now a n ks=>rw [show ((lvX (4:Int)) == 8)=true from rfl,cond_true,Yr]; rfl
  | call o a n x ks h =>
   have hb2:(QN [] ((x :: ks).map txX)).length≤(txX ⟨o,a,n,x :: ks⟩).length:=by
    rw [We]
    rcases h with rfl | rfl | rfl | rfl <;> simp [Wl,QN,Function.comp_def]
   have ih':∀ y ∈ x :: ks,Z7 L m (y,())=some (txX y):=fun y hy=>ih y hy (by
    have:=DI hy
    simp only [QN,List.nil_append,List.length_append,List.length_cons] at hb2
    simp only [List.map_cons] at this hb2
    omega)
   have hL:(x :: ks).length < L:=by simp only at hks hz; omega
   simp only [QN,List.nil_append,List.length_append,List.length_cons,List.length_nil] at hb2
   have hl:=EC (x :: ks) ih' hL (by omega)
   rcases h with rfl | rfl | rfl | rfl
   ·rw [show ((lvX (7:Int)) == 8)=true from rfl,cond_true,Yr,We]
    simp only [Int.reduceBEq,cond_true,cond_false,Wl,X4,Int.reduceEq,if_true,if_false,QN,hl,Zq]
    (simp (disch := (((try simp only [List.length_append,List.length_cons,List.length_nil] at *); omega))) only [ZI,Zq])
   ·rw [show ((lvX (8:Int)) == 8)=true from rfl,cond_true,Yr,We]
    simp only [Int.reduceBEq,cond_true,cond_false,Wl,X4,Int.reduceEq,if_true,if_false,QN,hl,Zq]
    (simp (disch := (((try simp only [List.length_append,List.length_cons,List.length_nil] at *); omega))) only [ZI,Zq])
   ·rw [show ((lvX (20:Int)) == 8)=true from rfl,cond_true,Yr,We]
    simp only [Int.reduceBEq,cond_true,cond_false,Wl,X4,Int.reduceEq,if_true,if_false,QN,hl,Zq]
    (simp (disch := (((try simp only [List.length_append,List.length_cons,List.length_nil] at *); omega))) only [ZI,Zq])
   ·rw [show ((lvX (21:Int)) == 8)=true from rfl,cond_true,Yr,We]
    simp only [Int.reduceBEq,cond_true,cond_false,Wl,X4,Int.reduceEq,if_true,if_false,QN,hl,Zq]
    (simp (disch := (((try simp only [List.length_append,List.length_cons,List.length_nil] at *); omega))) only [ZI,Zq])
  | obj o a n h =>
   have hN:=ok.nl
   have e8:(lvX o == 8)=true:=by rcases h with rfl | rfl | rfl <;> rfl
   simp only [e8,cond_true,Yr]
   rcases h with rfl | rfl | rfl
   all_goals
    rw [We] at hb ⊢
    simp only [Wl,Int.reduceEq,if_true,if_false,Int.reduceBEq,cond_true,cond_false] at hb ⊢
    simp only [List.length_append,List.length_cons,List.length_nil] at hb
    (simp (disch := (((try simp only [List.length_append,List.length_cons,List.length_nil] at *); omega))) only [ZI,Zq])
    simp
  | un o a n x h =>
   have hb2:(txX x).length≤(txX ⟨o,a,n,[x]⟩).length:=by
    rw [We ⟨o,a,n,[x]⟩]
    have l1:=(Yw 3 (lvX x.Op,txX x)).1; have l2:=(Yw 7 (lvX x.Op,txX x)).1
    simp only at l1 l2
    rcases h with rfl | rfl <;> simp [Wl,k0] <;> omega
   have ihx:=ih1 x (by simp) (by omega)
   have e3:=Rl 3 ihx (by omega); have e7:=Rl 7 ihx (by omega)
   have l1:=(Yw 3 (lvX x.Op,txX x)).2; have l2:=(Yw 7 (lvX x.Op,txX x)).2
   simp only at l1 l2
   rcases h with rfl | rfl
   ·simp only [show (lvX (5:Int) == 8)=false from rfl,show (lvX (5:Int) == 7)=true from rfl,cond_true,cond_false]
    rw [We]
    simp only [Wl,Int.reduceEq,if_true,if_false,Int.reduceBEq,cond_true,cond_false,UZ,List.getElem?_cons_zero,Zq,e3,e7]
    (simp (disch := (((try simp only [List.length_append,List.length_cons,List.length_nil] at *); omega))) only [ZI,Zq])
    simp [k0]
   ·simp only [show (lvX (6:Int) == 8)=false from rfl,show (lvX (6:Int) == 7)=false from rfl,show (lvX (6:Int) == 3)=true from rfl,cond_true,cond_false]
    rw [We]
    simp only [Wl,Int.reduceEq,if_true,if_false,Int.reduceBEq,cond_true,cond_false,UZ,List.getElem?_cons_zero,Zq,e3,e7]
    (simp (disch := (((try simp only [List.length_append,List.length_cons,List.length_nil] at *); omega))) only [ZI,Zq])
    simp [k0]
  | bi o a n x y h =>
   obtain ⟨v1,v2,v3⟩:=AL h
   have et:txX ⟨o,a,n,[x,y]⟩=Kt (if lvX o=4 then 5 else lvX o) (lvX x.Op,txX x) ++ 32 :: (sgX o ++ 32 :: Kt (lvX o + 1) (lvX y.Op,txX y)):=by
    rw [We]; exact DR h a n _ _
   rw [et] at hb ⊢
   have l1:=(Yw (if lvX o=4 then 5 else lvX o) (lvX x.Op,txX x)).1; have l2:=(Yw (lvX o + 1) (lvX y.Op,txX y)).1
   have l3:=Py o
   simp only [List.length_append,List.length_cons] at hb l1 l2
   have ex:=Rl (if lvX o=4 then 5 else lvX o) (ih1 x (by simp) (by omega)) (by omega)
   have ey:=Rl (lvX o + 1) (ih1 y (by simp) (by omega)) (by omega)
   simp only [ZW,show ¬ lvX o=8 by omega,show ¬ lvX o=7 by omega,v3,decide_false,cond_false,ED,Zq,PE ⟨v1,v2⟩,UZ,NV,List.getElem?_cons_zero,List.getElem?_cons_succ]
   by_cases c:lvX o=4
   ·simp only [c,if_true] at ex hb ⊢
    simp only [c] at ey
    rw [show (4:Int) + 1=5 from rfl] at ey hb ⊢
    simp only [decide_true,cond_true,ex,ey,Zq]
    (simp (disch := (((try simp only [List.length_append,List.length_cons,List.length_nil] at *); omega))) only [ZI,Zq])
    simp
   ·simp only [c,if_false] at ex hb ⊢
    simp only [decide_false,cond_false,ex,ey,Zq]
    (simp (disch := (((try simp only [List.length_append,List.length_cons,List.length_nil] at *); omega))) only [ZI,Zq])
    simp
theorem Fp (L:Nat)(e:Zc)(ok:Zt e)(hg:Yo false e=0)(hb:(txX e).length≤2199023255552)(h:3 * SizeOf.sizeOf e≤L):XM L (e,())=some (txX e):=Pn L L e ok hg hb (by omega) (Nat.le_refl _)
theorem E8 (L:Nat)(e:Zc)(ok:Zt e)(hg:Yo false e=0)(hb:(txX e).length≤2199023255552)(h:3 * SizeOf.sizeOf e≤L):JB L (e,())=some (txX e):=Iz L L e ok hg hb h (Nat.le_refl _)
theorem UT {e:Zc}(h:Yg false e=0):Yo false e=0:=by
 unfold Yg at h
 split at h
 ·cases h
 split at h
 ·cases h
 exact h
theorem Uo (L:Nat)(h1:100≤L)(e:Zc)(ok:Zt e)(hL:3 * SizeOf.sizeOf e≤L)(hb:(txX e).length≤2199023255552):Y9 L (e,())=some true:=by
 rw [VY,show WY L (e,())=_ from Kw L L e ok (by omega) (Nat.le_refl _),Zq]
 cases decide (Dp e > 200)
 ·rw [cond_false,OU,BD,Ns L e ok (by omega),Us L h1 e ok (by omega)]
  simp only [Zq]
  by_cases c:Yg false e=0
  ·simp only [c,ZT,decide_true,Bool.not_true,cond_false,Fp L e ok (UT c) hb hL,E8 L e ok (UT c) hb hL,Zq]
   simp
  ·simp only [c,ZT,decide_false,Bool.not_false,cond_true,Zq]
   simp
 ·rfl
end Go.Proofs.YtbcfddaocfpckaaGreatDoor
end
section
namespace Go.Proofs.YtbcfddaocfpckaaGreatDoor
open Go Go.RowKit Go.Proofs.YtbcfddaocfpckaaGreatDoor.Abs Go.Proofs.YtbcfddaocfpckaaGreatDoor.Tl
set_option maxRecDepth 100000
mutual
def bkA:AV→Nat
 | .str s=>s.length + 1
 | .lst _ rows=>bkR rows + 1
 | _=>1
def bkL:List AV→Nat
 | []=>0
 | a :: l=>bkA a + bkL l
def bkR:List (List AV)→Nat
 | []=>0
 | r :: l=>bkL r + bkR l
end
theorem Di:∀ a b:List AV,bkL (a ++ b)=bkL a + bkL b
 | [],b=>by rw [bkL]; simp
 | x :: a,b=>by rw [List.cons_append,bkL,bkL,Di a b,Nat.add_assoc]
theorem LQ {H:Type}:∀ (fs:List Field) (cs:List AV) (P:Program) (D:Nat→DataW H) (k o n:Nat),P6 P fs o n=true→cs.length=n→o≤n→(∀ (i:Nat) (f:Field),fs[i]? = some f→bkL ((cs.drop f.offset).take (P.cellsOf f.type))≤Rows.uptoBulk (D (k + i)))→bkL (cs.drop o)≤Rows.uptoBulkAll ((List.range fs.length).map fun i=>D (k + i))
 | [],cs,P,D,k,o,n,ht,hl,ho,h=>by
  have:o=n:=by simpa [P6] using ht
  subst this
  rw [← hl,List.drop_length]; simp [bkL,Rows.uptoBulkAll]
 | f :: fs,cs,P,D,k,o,n,ht,hl,ho,h=>by
  simp only [P6,Bool.and_eq_true,beq_iff_eq] at ht
  obtain ⟨rfl,ht⟩:=ht
  have hle:f.offset + P.cellsOf f.type≤n:=by
   have:∀ (fs:List Field) (o:Nat),P6 P fs o n=true→o≤n:=by
    intro fs
    induction fs with
    | nil =>
     intro o h; have:o=n:=by simpa [P6] using h
     omega
    | cons g fs ih =>
     intro o h
     simp only [P6,Bool.and_eq_true,beq_iff_eq] at h
     have:=ih _ h.2
     omega
   exact this fs _ ht
  have ih:=LQ fs cs P D (k + 1) (f.offset + P.cellsOf f.type) n ht hl hle fun i g hg=>by
   have:=h (i + 1) g (by simpa using hg)
   rwa [show k + (i + 1)=k + 1 + i by omega] at this
  have h0:=h 0 f rfl
  rw [List.length_cons,List.range_succ_eq_map,List.map_cons,List.map_map,Rows.uptoBulkAll]
  have e:cs.drop f.offset=(cs.drop f.offset).take (P.cellsOf f.type) ++ cs.drop (f.offset + P.cellsOf f.type):=by rw [← List.drop_drop,List.take_append_drop]
  rw [e,Di]
  refine Nat.add_le_add h0 (Nat.le_trans ih (Nat.le_of_eq ?_))
  congr 1
  refine List.map_congr_left fun i _=>?_
  show D (k + 1 + i)=D (k + (i + 1))
  rw [show k + 1 + i=k + (i + 1) by omega]
theorem Ou {H:Type}:∀ (rows:List (List AV)) (D:Nat→DataW H) (k:Nat),(∀ (i:Nat) r,rows[i]? = some r→bkL r≤Rows.uptoBulk (D (k + i)))→bkR rows≤Rows.uptoBulkAll ((List.range rows.length).map fun i=>D (k + i))
 | [],_,_,_=>by simp [bkR]
 | r :: rows,D,k,h=>by
  have ih:=Ou rows D (k + 1) fun i g hg=>by
   have:=h (i + 1) g (by simpa using hg)
   rwa [show k + (i + 1)=k + 1 + i by omega] at this
  rw [List.length_cons,List.range_succ_eq_map,List.map_cons,List.map_map,Rows.uptoBulkAll,bkR]
  refine Nat.add_le_add (h 0 r rfl) (Nat.le_trans ih (Nat.le_of_eq ?_))
  congr 1
  refine List.map_congr_left fun i _=>?_
  show D (k + 1 + i)=D (k + (i + 1))
  rw [show k + 1 + i=k + (i + 1) by omega]
theorem NJ {H:Type}{P:Program}{S:List TypeId}(hS:Nq P S=true){t:TypeId}{cs:List AV}{d:DataW H}(h:XN P t cs d):S.contains t=true→bkL cs≤Rows.uptoBulk d:=by
 induction h with
 | bool t b hu=>intro _; simp [bkL,bkA,Rows.uptoBulk]
 | int t k x hu hw=>intro _; simp [bkL,bkA,Rows.uptoBulk]
 | str t s hu hl=>intro _; simp [bkL,bkA,Rows.uptoBulk]
 | nil t e hu=>intro _; simp [bkL,bkA,bkR,Rows.uptoBulk]
 | slice t e rows D spare hu hl h ih =>
  intro ht
  have:=List.all_eq_true.1 hS t (List.contains_iff_mem.1 ht)
  rw [hu] at this
  simp only [Bool.and_eq_true] at this
  have hr:=Ou rows D 0 fun i r hr=>by rw [Nat.zero_add]; exact ih i r hr this.2
  simp only [Nat.zero_add] at hr
  simp only [bkL,bkA,Rows.uptoBulk,Nat.add_zero]
  have e:(List.range rows.length).map (fun i=>D i)=(List.range rows.length).map D:=rfl
  rw [e] at hr
  omega
 | struct t fs cs D hu hl h ih =>
  intro ht
  have:=List.all_eq_true.1 hS t (List.contains_iff_mem.1 ht)
  rw [hu] at this
  simp only [Bool.and_eq_true] at this
  have hr:=LQ fs.toList cs P D 0 0 (P.cellsOf t) this.1 hl (Nat.zero_le _) fun i f hf=>by
   rw [Nat.zero_add]
   exact ih i f hf (List.all_eq_true.1 this.2 f (List.mem_of_getElem? hf))
  rw [List.drop_zero] at hr
  simp only [Nat.zero_add,Array.length_toList] at hr
  have e:(List.range fs.size).map (fun i=>D i)=(List.range fs.size).map D:=rfl
  rw [e] at hr
  simp only [Rows.uptoBulk]
  omega
theorem SK (e:Zc):bkL (WQ e)=e.Name.length + bkR (e.Kids.map WQ) + 4:=by rw [IG]; simp only [bkL,bkA]; omega
def sumT:List (Int×List UInt8)→Nat
 | []=>0
 | k :: l=>k.2.length + 2 + sumT l
theorem LY:∀ l:List (Int×List UInt8),(Lib.join (l.map (·.2)) [44,32]).length≤sumT l
 | []=>by simp [Lib.join,List.intercalate,sumT]
 | [x]=>by simp [Lib.join,List.intercalate,sumT]
 | x :: y :: l=>by
  have:=LY (y :: l)
  rw [List.map_cons,List.map_cons,Jz,← List.map_cons (f := fun (p:Int×List UInt8)=>p.2)]
  simp only [List.length_append,List.length_cons,List.length_nil]
  rw [sumT]
  omega
theorem Au (l:List (Int×List UInt8)):(k0 l).2.length≤sumT l:=by cases l <;> simp [k0,sumT] <;> omega
theorem Ei (l:List (Int×List UInt8)):(k0 l).2.length + (k1 l).2.length≤sumT l:=by
 match l with
 | []=>simp [k0,k1,sumT]
 | [x]=>simp [k0,k1,sumT] <;> omega
 | x :: y :: l=>simp [k0,k1,sumT] <;> omega
theorem len_ite {c:Prop}[Decidable c]{x y:List UInt8}{n:Nat}(hx:x.length≤n)(hy:y.length≤n):(if c then x else y).length≤n:=by split <;> assumption
theorem Np (o:Int)(a:List UInt8)(n:Int)(ks:List (Int×List UInt8))(hn:bd n):(Wl o a n ks).length≤a.length + sumT ks + 40:=by
 have h1:=Iw hn; have h2:=LY ks; have h3:=Au ks; have h4:=Ei ks; have h5:=Py o
 have p3:=(Yw 3 (k0 ks)).2; have p7:=(Yw 7 (k0 ks)).2
 have q1:=(Yw (if lvX o=4 then 5 else lvX o) (k0 ks)).2; have q2:=(Yw (lvX o + 1) (k1 ks)).2
 have hB:(Kt (if lvX o=4 then 5 else lvX o) (k0 ks) ++ 32 :: (sgX o ++ 32 :: Kt (lvX o + 1) (k1 ks))).length≤a.length + sumT ks + 40:=by
  simp only [List.length_append,List.length_cons,List.length_nil]; omega
 unfold Wl QN
 generalize Kt (if lvX o=4 then 5 else lvX o) (k0 ks) ++ 32 :: (sgX o ++ 32 :: Kt (lvX o + 1) (k1 ks))=B at hB
 generalize Lib.join (ks.map (·.2)) [44,32]=J at h2
 generalize Kt 3 (k0 ks)=A3 at p3
 generalize Kt 7 (k0 ks)=A7 at p7
 generalize Lib.itoa n=I at h1
 repeat' refine len_ite ?_ ?_
 all_goals (try simp only [List.length_append,List.length_cons,List.length_nil])
 all_goals omega
mutual
theorem F9:∀ e:Zc,Zt e→(txX e).length + 2≤50 * bkL (WQ e)
 | ⟨o,a,n,ks⟩,ok=>by
  have h:=SE ks ok.Kids.2
  have h1:=Np o a n (NR ks) ok.N
  rw [SK,txX]
  simp only
  omega
theorem SE:∀ l:List Zc,(∀ x ∈ l,Zt x)→sumT (NR l)≤50 * bkR (l.map WQ)
 | [],_=>by simp [NR,sumT]
 | e :: l,h=>by
  have h1:=F9 e (h e (List.mem_cons_self ..))
  have h2:=SE l fun x hx=>h x (List.mem_cons_of_mem _ hx)
  rw [NR,sumT,List.map_cons,bkR]
  simp only
  omega
end
theorem Eb (e:Zc)(ok:Zt e)(h:bkL (WQ e)≤1048576):(txX e).length≤2199023255552:=by
 have:=F9 e ok; omega
end Go.Proofs.YtbcfddaocfpckaaGreatDoor
end
