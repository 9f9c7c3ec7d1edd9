import Derived.Lib.ItoaLen
import Derived.Test.YtleomfgijkapfaaGreatDoorRows
import Derived.Test.YtleomfgijkapfaaGreatDoorU18
set_option linter.all false
section
namespace Go.Proofs.YtleomfgijkapfaaGreatDoor
open Go Go.Proofs.YtleomfgijkapfaaGreatDoor.Abs Go.Proofs.YtleomfgijkapfaaGreatDoor.Tl
set_option maxRecDepth 100000
theorem Zin {α:Type}(nm:α→List UInt8)(s:List UInt8)(l:List α):decide (IK (fun x=>decide (nm x=s)) l 0 ≥ 0)=(l.map nm).contains s:=by
 rw [show decide (IK (fun x=>decide (nm x=s)) l 0 ≥ 0)=_ from PY _ l 0 (Int.le_refl _),← Zkl,List.any_map]
 congr 1; funext x; exact decide_eq_decide.2 ⟨Eq.symm,Eq.symm⟩
theorem S9 (d:Zm):SizeOf.sizeOf d.Name < SizeOf.sizeOf d∧SizeOf.sizeOf d.Vars < SizeOf.sizeOf d∧SizeOf.sizeOf d.Resources < SizeOf.sizeOf d∧SizeOf.sizeOf d.Stores < SizeOf.sizeOf d∧SizeOf.sizeOf d.Belts < SizeOf.sizeOf d∧SizeOf.sizeOf d.Queues < SizeOf.sizeOf d∧SizeOf.sizeOf d.Streams < SizeOf.sizeOf d∧SizeOf.sizeOf d.Tallies < SizeOf.sizeOf d∧SizeOf.sizeOf d.Levels < SizeOf.sizeOf d∧SizeOf.sizeOf d.Counts < SizeOf.sizeOf d∧SizeOf.sizeOf d.Routines < SizeOf.sizeOf d∧SizeOf.sizeOf d.Starts < SizeOf.sizeOf d∧SizeOf.sizeOf d.Laws < SizeOf.sizeOf d:=by
 cases d; simp; omega
structure Sh (L:Nat)(d:Zm):Prop where
 nm:d.Name.length < L
 vars:d.Vars.length < L
 res:d.Resources.length < L
 sto:d.Stores.length < L
 bel:d.Belts.length < L
 que:d.Queues.length < L
 str:d.Streams.length < L
 tal:d.Tallies.length < L
 lev:d.Levels.length < L
 cnt:d.Counts.length < L
 rou:d.Routines.length < L
 sta:d.Starts.length < L
 law:d.Laws.length < L
theorem Sh.of {L:Nat}{d:Zm}(h:SizeOf.sizeOf d≤L):Sh L d:=by
 have:=S9 d
 constructor
 ·have:=Z7 d.Name; omega
 ·have:=Z7 d.Vars; omega
 ·have:=Z7 d.Resources; omega
 ·have:=Z7 d.Stores; omega
 ·have:=Z7 d.Belts; omega
 ·have:=Z7 d.Queues; omega
 ·have:=Z7 d.Streams; omega
 ·have:=Z7 d.Tallies; omega
 ·have:=Z7 d.Levels; omega
 ·have:=Z7 d.Counts; omega
 ·have:=Z7 d.Routines; omega
 ·have:=Z7 d.Starts; omega
 ·have:=Z7 d.Laws; omega
end Go.Proofs.YtleomfgijkapfaaGreatDoor
end
section
namespace Go.Proofs.YtleomfgijkapfaaGreatDoor
open Go Go.Proofs.YtleomfgijkapfaaGreatDoor.Abs Go.Proofs.YtleomfgijkapfaaGreatDoor.Tl
set_option maxRecDepth 100000
theorem ZrJ {l:List Vg}{x:Vg}(h:x ∈ l):x.Name.length < SizeOf.sizeOf l:=by
 have:=List.sizeOf_lt_of_mem h
 have h2:=Z7 x.Name
 have:SizeOf.sizeOf x.Name < SizeOf.sizeOf x:=by cases x; simp; omega
 omega
theorem Zmx (r:Wu):SizeOf.sizeOf r.Name < SizeOf.sizeOf r∧SizeOf.sizeOf r.Params < SizeOf.sizeOf r∧SizeOf.sizeOf r.Locals < SizeOf.sizeOf r∧SizeOf.sizeOf r.Body < SizeOf.sizeOf r:=by cases r; simp; omega
theorem Zqn {α:Type}[SizeOf α](g:α→List UInt8)(hg:∀ x,SizeOf.sizeOf (g x) < SizeOf.sizeOf x){l:List α}{x:α}(h:x ∈ l):(g x).length < SizeOf.sizeOf l∧SizeOf.sizeOf x < SizeOf.sizeOf l:=by
 have h1:=List.sizeOf_lt_of_mem h
 have h2:=Z7 (g x)
 have h3:=hg x
 omega
end Go.Proofs.YtleomfgijkapfaaGreatDoor
end
section
namespace Go.Proofs.YtleomfgijkapfaaGreatDoor
open Go Go.Proofs.YtleomfgijkapfaaGreatDoor.Abs Go.Proofs.YtleomfgijkapfaaGreatDoor.Tl
set_option maxRecDepth 100000
theorem Ut (L:Nat)(a b c:Int):YA L (a,b,c,())=some (btw a b c):=Zcx L a b c
theorem Lm (L:Nat)(a b:Int):Wq L (a,b,())=some (XE a b):=by
 simp only [Zi,Zd,cond_true,cond_false,Zf,ZG,Zc,Zu,condC,Zk,Zj,Zr,Yb,Y0,Ya,Zem,XE]; simp only [YQ,JA,if_true,if_false,Bool.false_eq_true,ne_eq,decide_not,gt_iff_lt,ge_iff_le]
theorem UH (L:Nat)(a:Bool)(b:Int):Yl L (a,b,())=some (YR a b):=by
 simp only [Zi,Zd,cond_true,cond_false,Zf,ZG,Zc,Zu,condC,Zk,Zj,Zr,Yb,Y0,Ya,Zcw,YR]; simp only [YQ,JA,if_true,if_false,Bool.false_eq_true,ne_eq,decide_not,gt_iff_lt,ge_iff_le]
theorem Zjb (L:Nat)(t:Int):J8 L (t,())=some (ZcE t):=Zel L t
theorem ZpM (L:Nat)(t n:Int):Ho L (t,n,())=some (fitsT t n):=by
 simp only [Zi,Zd,cond_true,cond_false,Zf,ZG,Zc,Zu,condC,Zk,Zj,Zr,Yb,Y0,Ya,ZgV,ZpW,Ut,fitsT]; simp only [YQ,JA,if_true,if_false,Bool.false_eq_true,ne_eq,decide_not,gt_iff_lt,ge_iff_le]
theorem Zfp (s:List UInt8)(l:List (List UInt8)):decide (IK (fun k=>decide (k=s)) l 0 < 0)=!(l.contains s):=by
 have:=Zin (fun x:List UInt8=>x) s l
 rw [List.map_id'] at this
 rw [← this,show decide (IK (fun k=>decide (k=s)) l 0 < 0)=!decide (IK (fun k=>decide (k=s)) l 0 ≥ 0) by rw [← decide_not]; congr 1; exact propext Int.not_le.symm]
theorem ZfF (L:Nat)(h1:100≤L)(s:List UInt8)(seen:Seen)(hs:Len s)(hsL:s.length < L)(hl:Len seen)(hL:seen.length < L):J9 L (s,seen,())=some (RG s seen):=by
 simp only [Zi,Zd,cond_true,cond_false,Zf,ZG,Zc,Zu,condC,Zk,Zj,Zr,Yb,Y0,Ya,Zen,GX L s hs hsL h1,ZiZ L seen s hl hL,UH,Lm,Zfp,RG]
theorem apS {l:List (List UInt8)}{a:List UInt8}(h:l.length≤8000000000000):apT 16 l [a]=some (l ++ [a]):=by unfold apT; rw [if_pos (by simp only [List.length_cons,List.length_nil]; omega)]
end Go.Proofs.YtleomfgijkapfaaGreatDoor
end
section
namespace Go.Proofs.YtleomfgijkapfaaGreatDoor
open Go Go.Proofs.YtleomfgijkapfaaGreatDoor.Abs Go.Proofs.YtleomfgijkapfaaGreatDoor.Tl
set_option maxRecDepth 100000
theorem Zp1 {α τ:Type}{f:(τ→Option Int)→τ→Option Int}(pk:Seen→Int→τ)(l:List α)(step:α→Seen→Int×Seen)(c:Nat)(e:Seen→Option Int){m:Nat}(hm:l.length < m)
  (hst:∀ x s,(step x s).2.length≤s.length + 1)
  (h1:∀ self s (i:Nat) x,l[i]? = some x→i < l.length→x ∈ l→s.length≤c + i→f self (pk s i)=bif !decide ((step x s).1=0) then some (step x s).1 else self (pk (step x s).2 ((i:Int) + 1)))
  (h2:∀ self s,s.length≤c + l.length→f self (pk s (l.length:Nat))=e s) (s:Seen) (hs:s.length≤c):Zw f m (pk s 0)=if decide ((U2 step l s).1≠0)=true then some (U2 step l s).1 else e (U2 step l s).2:=by
 have key:∀ (m i:Nat) (s:Seen),i≤l.length→l.length - i < m→s.length≤c + i→Zw f m (pk s i)=if decide ((U2 step (l.drop i) s).1≠0)=true then some (U2 step (l.drop i) s).1 else e (U2 step (l.drop i) s).2:=by
  intro m
  induction m with
  | zero=>intro i s _ h; exact absurd h (Nat.not_lt_zero _)
  | succ m ih =>
   intro i s hi hm hsl
   show f (Zw f m) _=_
   rcases Nat.lt_or_ge i l.length with hlt | hge
   ·have hx:=List.getElem?_eq_getElem hlt
    have:=ih (i + 1) (step l[i] s).2 hlt (by omega) (by have:=hst l[i] s; omega)
    rw [h1 _ s i _ hx hlt (List.getElem_mem hlt) hsl,List.drop_eq_getElem_cons hlt,U2,show ((i:Int) + 1)=((i + 1:Nat):Int) from rfl,this]
    by_cases z:(step l[i] s).1=0 <;> simp [z]
   ·have:i=l.length:=by omega
    subst this
    rw [List.drop_length,h2 _ s hsl]; rfl
 exact key m 0 s (Nat.zero_le _) (by omega) (by omega)
theorem ZcK (s:List UInt8)(r:Int)(seen:Seen):(UV s r seen).2.length≤seen.length + 1:=by
 have h:(Ig s seen).2.length≤seen.length + 1:=by
  unfold Ig
  split
  ·exact Nat.le_succ _
  ·split
   ·exact Nat.le_succ _
   ·simp
 unfold UV
 split <;> exact h
end Go.Proofs.YtleomfgijkapfaaGreatDoor
end
section
namespace Go.Proofs.YtleomfgijkapfaaGreatDoor
open Go Go.Proofs.YtleomfgijkapfaaGreatDoor.Abs Go.Proofs.YtleomfgijkapfaaGreatDoor.Tl
set_option maxRecDepth 100000
theorem ZcL {s:List UInt8}{r:Int}{seen:Seen}(h:(UV s r seen).1=0):(UV s r seen).2=seen ++ [s]:=(Zo1 h).1
theorem ZgK (L:Nat)(h1:100≤L)(r:Wu)(h:KW r)(hL:SizeOf.sizeOf r≤L):VV L (r,())=some (TC r):=by
 have hz:=Zmx r
 have hp:=h.p
 have hw:IntKind.i64.wrap ((r.Params.length:Int) + (r.Locals.length:Int))=(r.Params.length:Int) + (r.Locals.length:Int):=wrap_in (by omega) (by omega)
 rw [Za3,hw,TC]
 by_cases hc:6 < (r.Params.length:Int)∨16 < (r.Params.length:Int) + (r.Locals.length:Int)
 ·rw [if_pos (by simpa using hc),show (decide ((r.Params.length:Int) > 6) || decide ((r.Params.length:Int) + (r.Locals.length:Int) > 16))=true by simpa using hc]; rfl
 ·have hf:(decide ((r.Params.length:Int) > 6) || decide ((r.Params.length:Int) + (r.Locals.length:Int) > 16))=false:=by
   simp only [Bool.or_eq_false_iff,decide_eq_false_iff_not]; omega
  have hf':¬ ((decide (6 < (r.Params.length:Int)) || decide (16 < (r.Params.length:Int) + (r.Locals.length:Int)))=true):=by simpa using hc
  have hlen:(r.Params ++ r.Locals).length≤16:=by rw [List.length_append]; omega
  have p1:apT 24 [] r.Params=some r.Params:=by unfold apT; rw [if_pos (by simp only [List.length_nil]; omega)]; rfl
  have p2:apT 24 r.Params r.Locals=some (r.Params ++ r.Locals):=by unfold apT; rw [if_pos (by omega)]
  rw [if_neg hf',hf,cond_false,p1,ZG,p2,ZG]
  rw [Zp1 (f := Vb r L (r.Params ++ r.Locals)) (fun s i=>(s,i,())) (r.Params ++ r.Locals) (fun f:Vg=>UV f.Name (ZbF f)) 0 (fun _=>some (Zb6 r.Body)) (by omega) (fun x s=>ZcK _ _ _) (fun self s i x hx hi mem hsl=>by
   have ok:FN x∧x.Name.length < L:=by
    rcases List.mem_append.1 mem with m | m
    ·exact ⟨h.Params.2 x m,by have:=ZrJ m; omega⟩
    ·exact ⟨h.Locals.2 x m,by have:=ZrJ m; omega⟩
   have hn:=ZfF L h1 x.Name s (by have:=ok.1.Name; unfold Len; omega) ok.2 (by unfold Len; omega) (by omega)
   rw [Vb]
   simp only [Zi,Zd,cond_true,cond_false,Zf,ZG,Zc,Zu,condC,Zk,Zj,Zr,Yb,Y0,Ya,hi,hx,hn,Zjb,UH,Lm,Zpg,apS (show s.length≤8000000000000 by omega),wrap_succ hi (by omega)]
   rw [← ZeF]
   by_cases c:(UV x.Name (ZbF x) s).1=0
   ·rw [ZcL c]
   ·simp [c]) (fun self s hsl=>by
   rw [Vb]; simp only [Zi,Zd,cond_true,cond_false,Zf,ZG,Zc,Zu,condC,Zk,Zj,Zr,Yb,Y0,Ya,Zjg L h1 r.Body h.p.2.2 (by omega)]) [] (Nat.le_refl _)]
  rw [JA]; rfl
theorem Zev (L:Nat)(d:Zv)(h:Wj d)(hL:d.Shift.length < L)(hc:IntKind.i64.wrap (d.Cycle - 1)=d.Cycle - 1):Zw (Qr d L) L (0,())=some (ZoG d.Cycle none d.Shift):=by
 have hl:=h.s
 refine Zi6 (f := Qr d L) d.Shift.length (fun i=>(i,())) (fun i=>some (ZoG d.Cycle (ZgM d.Shift i) (d.Shift.drop i))) (fun self i hi e=>?_) (fun self=>?_) L 0 (Nat.zero_le _) (by omega)
 ·have hx:=List.getElem?_eq_getElem hi
  rw [List.drop_eq_getElem_cons hi,ZoG]
  rw [show ZgM d.Shift (i + 1)=some (d.Shift[i].At_) by rw [ZgM,hx]; rfl] at e
  rw [Qr]
  simp only [Zi,Zd,cond_true,cond_false,Zf,ZG,Zc,Zu,condC,Zk,Zj,Zr,Yb,Y0,Ya,hi,hx,Ut,wrap_succ hi (by omega),e,hc,Zoe _ _ _ hi hl]; simp only [YQ,JA,if_true,if_false,Bool.false_eq_true,ne_eq,decide_not,gt_iff_lt,ge_iff_le]
 ·rw [Qr]; simp only [Zi,Zd,cond_true,cond_false,Zf,ZG,Zc,Zu,condC,Zk,Zj,Zr,Yb,Y0,Ya,List.drop_length,ZoG]
theorem ZdL (L:Nat)(d:Zv)(h:Wj d)(hL:d.Shift.length < L):Ve L (d,())=some (Zop d):=by
 simp only [Zi,Zd,cond_true,cond_false,Zf,ZG,Zc,Zu,condC,Zk,Zj,Zr,Yb,Y0,Ya,EO,Ut,UH,Zop]
 by_cases hc:btw d.Cycle 1 1000000000=true
 ·have:=Zev L d h hL (by simp only [btw,Bool.and_eq_true,decide_eq_true_eq] at hc; exact wrap_in (by omega) (by omega))
  rw [this]; simp only [YQ,JA,if_true,if_false,Bool.false_eq_true,ne_eq,decide_not,gt_iff_lt,ge_iff_le,YR]
  by_cases a:d.Cycle=0 <;> simp [a]
 ·rw [Bool.not_eq_true] at hc
  simp only [YQ,JA,if_true,if_false,Bool.false_eq_true,ne_eq,decide_not,gt_iff_lt,ge_iff_le,hc,Bool.not_false,YR]
  by_cases a:d.Cycle=0 <;> simp [a]
theorem ZgJ (L:Nat)(h1:100≤L)(d:Zm)(h:YS d)(hs:Sh L d)(x:Zv)(ok:Wj x)(hx:SizeOf.sizeOf x≤L):Vf L (d,x,())=some (ZpZ d x):=by
 have hx2:SizeOf.sizeOf x.Fault < SizeOf.sizeOf x∧SizeOf.sizeOf x.Shift < SizeOf.sizeOf x∧SizeOf.sizeOf x.Fault.Up < SizeOf.sizeOf x.Fault∧SizeOf.sizeOf x.Fault.Down < SizeOf.sizeOf x.Fault:=by
  obtain ⟨a,b,c,d,⟨e,f,g⟩⟩:=x; simp; omega
 have hsh:=Z7 x.Shift
 have hst:=h.st
 rw [← Zom]
 simp only [Zi,Zd,cond_true,cond_false,Zf,ZG,Zc,Zu,condC,Zk,Zj,Zr,Yb,Y0,Ya,EP,Ut,UH,Lm,ZdL L x ok (by omega),BU L x.Fault.Up _ ok.Fault.Up (by omega),BU L x.Fault.Down _ ok.Fault.Down (by omega),MX,ZiZ L d.Streams x.Fault.Stream (by unfold Len; omega) hs.str,Lp L x.Fault.Up ok.Fault.Up (by omega),Lp L x.Fault.Down ok.Fault.Down (by omega),Zfp,Zr1]; simp only [YQ,JA,if_true,if_false,Bool.false_eq_true,ne_eq,decide_not,gt_iff_lt,ge_iff_le]
theorem ZpO (L:Nat)(d:Zm)(j:Nat)(x:Kw)(hx:d.Vars[j]? = some x):Y3 L (d,0,(j:Int),())=some (Zge x):=by
 rw [Qe]; simp only [Zi,Zd,cond_true,cond_false,Zf,ZG,Zc,Zu,condC,Zk,Zj,Zr,Yb,Y0,Ya,hx,Int.reduceEq,decide_true,decide_false,Zjb,UH,ZpM,Lm,valueR]
theorem ZpP (L:Nat)(h1:100≤L)(d:Zm)(h:YS d)(hL:SizeOf.sizeOf d≤L)(j:Nat)(x:Zv)(hx:d.Resources[j]? = some x):Y3 L (d,1,(j:Int),())=some (ZpZ d x):=by
 have hz:=S9 d
 have mem:=List.mem_of_getElem? hx
 have hm:=List.sizeOf_lt_of_mem mem
 rw [Qe]; simp only [Zi,Zd,cond_true,cond_false,Zf,ZG,Zc,Zu,condC,Zk,Zj,Zr,Yb,Y0,Ya,hx,Int.reduceEq,decide_true,decide_false,ZgJ L h1 d h (Sh.of hL) x (h.Resources.2 x mem) (by omega)]
theorem ZpQ (L:Nat)(d:Zm)(j:Nat)(x:WA)(hx:d.Stores[j]? = some x):Y3 L (d,2,(j:Int),())=some (ZfW x):=by
 rw [Qe]; simp only [Zi,Zd,cond_true,cond_false,Zf,ZG,Zc,Zu,condC,Zk,Zj,Zr,Yb,Y0,Ya,hx,Int.reduceEq,decide_true,decide_false,Ut,UH,Lm,ge_iff_le,Zqk]
theorem ZpR (L:Nat)(d:Zm)(j:Nat)(x:Qn)(hx:d.Belts[j]? = some x):Y3 L (d,3,(j:Int),())=some (ZjY x):=by
 rw [Qe]; simp only [Zi,Zd,cond_true,cond_false,Zf,ZG,Zc,Zu,condC,Zk,Zj,Zr,Yb,Y0,Ya,hx,Int.reduceEq,decide_true,decide_false,Ut,UH,ZqF]
theorem ZpS (L:Nat)(h1:100≤L)(d:Zm)(h:YS d)(hL:SizeOf.sizeOf d≤L)(j:Nat)(x:Wu)(hx:d.Routines[j]? = some x):Y3 L (d,9,(j:Int),())=some (TC x):=by
 have hz:=S9 d
 have mem:=List.mem_of_getElem? hx
 have hm:=List.sizeOf_lt_of_mem mem
 have e:=ZgK L h1 x (h.Routines.2 x mem) (by omega)
 generalize TC x=z at e ⊢
 rw [Qe,show ((9:Int) == 0)=false from rfl,show ((9:Int) == 1)=false from rfl,show ((9:Int) == 2)=false from rfl,show ((9:Int) == 3)=false from rfl,show ((9:Int) == 9)=true from rfl,cond_false,cond_false,cond_false,cond_false,cond_true,Zf,hx,ZG,e,ZG]
theorem Zcg (L:Nat)(d:Zm)(k j:Int)(h:k=4∨k=5∨k=6∨k=7∨k=8):Y3 L (d,k,j,())=some 0:=by
 rw [Qe]; rcases h with rfl | rfl | rfl | rfl | rfl <;> simp only [Zi,Zd,cond_true,cond_false,Zf,ZG,Zc,Zu,condC,Zk,Zj,Zr,Yb,Y0,Ya,Int.reduceEq,decide_true,decide_false]
end Go.Proofs.YtleomfgijkapfaaGreatDoor
end
section
namespace Go.Proofs.YtleomfgijkapfaaGreatDoor
open Go Go.Proofs.YtleomfgijkapfaaGreatDoor.Abs Go.Proofs.YtleomfgijkapfaaGreatDoor.Tl
set_option maxRecDepth 100000
theorem ZgI (L:Nat)(h1:100≤L)(d:Zm)(h:YS d)(hL:SizeOf.sizeOf d≤L)(k:Nat)(p:Int×List (List UInt8×Int))(hp:(V7 d)[k]? = some p)(j:Nat)(q:List UInt8×Int)(hq:p.2[j]? = some q):Y3 L (d,(k:Int),(j:Int),())=some q.2:=by
 rcases k with _ | _ | _ | _ | _ | _ | _ | _ | _ | _ | k
 ·obtain rfl:=Option.some.inj hp; obtain ⟨x,hx,rfl⟩:=Ue hq; exact ZpO L d j x hx
 ·obtain rfl:=Option.some.inj hp; obtain ⟨x,hx,rfl⟩:=Ue hq; exact ZpP L h1 d h hL j x hx
 ·obtain rfl:=Option.some.inj hp; obtain ⟨x,hx,rfl⟩:=Ue hq; exact ZpQ L d j x hx
 ·obtain rfl:=Option.some.inj hp; obtain ⟨x,hx,rfl⟩:=Ue hq; exact ZpR L d j x hx
 ·obtain rfl:=Option.some.inj hp; obtain ⟨x,hx,rfl⟩:=Ue hq; exact Zcg L d 4 j (by simp)
 ·obtain rfl:=Option.some.inj hp; obtain ⟨x,hx,rfl⟩:=Ue hq; exact Zcg L d 5 j (by simp)
 ·obtain rfl:=Option.some.inj hp; obtain ⟨x,hx,rfl⟩:=Ue hq; exact Zcg L d 6 j (by simp)
 ·obtain rfl:=Option.some.inj hp; obtain ⟨x,hx,rfl⟩:=Ue hq; exact Zcg L d 7 j (by simp)
 ·obtain rfl:=Option.some.inj hp; obtain ⟨x,hx,rfl⟩:=Ue hq; exact Zcg L d 8 j (by simp)
 ·obtain rfl:=Option.some.inj hp; obtain ⟨x,hx,rfl⟩:=Ue hq; exact ZpS L h1 d h hL j x hx
 ·exact absurd hp (by simp [V7])
theorem Zg5 (L:Nat)(d:Zm)(h:YS d)(hL:SizeOf.sizeOf d≤L):∀ p ∈ V7 d,∀ q ∈ p.2,Len q.1∧q.1.length < L:=by
 have hz:=S9 d
 intro p hp q hq
 simp only [V7,List.mem_cons,List.not_mem_nil,or_false] at hp
 unfold Len
 rcases hp with rfl | rfl | rfl | rfl | rfl | rfl | rfl | rfl | rfl | rfl <;> obtain ⟨x,mem,rfl⟩:=List.mem_map.1 hq
 ·have:=Zqn (fun v:Kw=>v.Name) (fun x=>by cases x; simp; omega) mem; have:=(h.Vars.2 x mem).Name; simp only; omega
 ·have:=Zqn (fun v:Zv=>v.Name) (fun x=>by cases x; simp; omega) mem; have:=(h.Resources.2 x mem).Name; simp only; omega
 ·have:=Zqn (fun v:WA=>v.Name) (fun x=>by cases x; simp; omega) mem; have:=(h.Stores.2 x mem).Name; simp only; omega
 ·have:=Zqn (fun v:Qn=>v.Name) (fun x=>by cases x; simp; omega) mem; have:=(h.Belts.2 x mem).Name; simp only; omega
 ·have:=List.sizeOf_lt_of_mem mem; have:=Z7 x; have:=h.Queues.2 x mem; simp only; omega
 ·have:=List.sizeOf_lt_of_mem mem; have:=Z7 x; have:=h.Streams.2 x mem; simp only; omega
 ·have:=List.sizeOf_lt_of_mem mem; have:=Z7 x; have:=h.Tallies.2 x mem; simp only; omega
 ·have:=List.sizeOf_lt_of_mem mem; have:=Z7 x; have:=h.Levels.2 x mem; simp only; omega
 ·have:=List.sizeOf_lt_of_mem mem; have:=Z7 x; have:=h.Counts.2 x mem; simp only; omega
 ·have:=Zqn (fun v:Wu=>v.Name) (fun x=>by cases x; simp; omega) mem; have:=(h.Routines.2 x mem).Name; simp only; omega
theorem inner (L:Nat)(h1:1000≤L)(d:Zm)(h:YS d)(hL:SizeOf.sizeOf d≤L)(k:Nat)(p:Int×List (List UInt8×Int))(hp:(V7 d)[k]? = some p)(hl:p.2.length≤32)(hk:k < 10)(self:Int×List (List UInt8)×Int×PUnit→Option Int)(s0 s:Seen)(hs:s.length≤32 * k) :
  Zw (Js d L ((V7 d).map ZbX) self (0,s0,(k:Int),())) L (0,s,0,())=if decide ((U2 LH p.2 s).1≠0)=true then some (U2 LH p.2 s).1 else self (0,(U2 LH p.2 s).2,(k:Int) + 1,()):=by
 have hg:ZP ((V7 d).map ZbX) (k:Int)=some (ZbX p):=by rw [Zf,List.getElem?_map,hp]; rfl
 have hlen:(ZbX p).length=p.2.length:=by simp [ZbX]
 refine Zp1 (f := Js d L ((V7 d).map ZbX) self (0,s0,(k:Int),())) (fun s i=>(0,s,i,())) p.2 LH (32 * k) (fun s=>self (0,s,(k:Int) + 1,())) (by omega) (fun x s=>ZcK _ _ _) (fun self1 s i x hx hi mem hsl=>?_) (fun self1 s hsl=>?_) s hs
 ·have hq:(ZbX p)[i]? = some x.1:=by unfold ZbX; rw [List.getElem?_map,hx]; rfl
  have hi':i < (ZbX p).length:=by omega
  have hnl:=Zg5 L d h hL p (List.mem_of_getElem? hp) x mem
  have hn:=ZfF L (by omega) x.1 s hnl.1 hnl.2 (by unfold Len; omega) (by omega)
  have hd:=ZgI L (by omega) d h hL k p hp i x hx
  rw [Js]
  simp only [hg,ZG]
  simp only [Zi,Zd,cond_true,cond_false,Zf,ZG,Zc,Zu,condC,Zk,Zj,Zr,Yb,Y0,Ya,hi',hq,hn,hd,Lm,apS (show s.length≤8000000000000 by omega),wrap_in (show -9223372036854775808≤(i:Int) + 1 by omega) (by omega)]
  rw [← ZeF]
  show _=bif !decide ((UV x.1 x.2 s).1=0) then some (UV x.1 x.2 s).1 else self1 (0,(UV x.1 x.2 s).2,(i:Int) + 1,())
  by_cases c:(UV x.1 x.2 s).1=0
  ·rw [ZcL c]
  ·simp [c]
 ·rw [Js,← hlen]
  simp only [hg,ZG]
  simp only [Zi,Zd,cond_true,cond_false,Zf,ZG,Zc,Zu,condC,Zk,Zj,Zr,Yb,Y0,Ya,wrap_in (show -9223372036854775808≤(k:Int) + 1 by omega) (by omega)]
theorem outer (L:Nat)(h1:1000≤L)(d:Zm)(h:YS d)(hL:SizeOf.sizeOf d≤L)(E:Option Int)(hE:(bif decide ((d.Starts.length:Int) > 32) then some (6:Int) else Zw (NL d L) L (0,0,()))=E):∀ (m k:Nat) (s:Seen),k≤10→10 - k < m→s.length≤32 * k →
  Zw (Jt d L ((V7 d).map ZbX)) m (0,s,(k:Int),())=if decide ((Zqj (((V7 d).drop k).map stepD) s).1≠0)=true then some (Zqj (((V7 d).drop k).map stepD) s).1 else E
 | 0,_,_,_,h,_=>absurd h (Nat.not_lt_zero _)
 | m + 1,k,s,hk,hm,hs=>by
  show Jt d L ((V7 d).map ZbX) (Zw (Jt d L ((V7 d).map ZbX)) m) (0,s,(k:Int),())=_
  have hlen:(V7 d).length=10:=rfl
  have hlm:((V7 d).map ZbX).length=10:=by rw [List.length_map,hlen]
  rcases Nat.lt_or_ge k 10 with hlt | hge
  ·have hp:=List.getElem?_eq_getElem (show k < (V7 d).length by omega)
   generalize (V7 d)[k]=p at hp
   have hg:ZP ((V7 d).map ZbX) (k:Int)=some (ZbX p):=by rw [Zf,List.getElem?_map,hp]; rfl
   have hnl:(ZbX p).length=p.2.length:=by simp [ZbX]
   have hmost:=Zg4 d k p hp
   have hdrop:(V7 d).drop k=p :: (V7 d).drop (k + 1):=by
    rw [List.drop_eq_getElem_cons (show k < (V7 d).length by omega)]
    congr 1
    exact Option.some.inj ((List.getElem?_eq_getElem (show k < (V7 d).length by omega)).symm.trans hp)
   have hguard:(decide ((p.2.length:Int) > 32) || (decide ((k:Int)=9) && decide ((p.2.length:Int) > 16)))=decide (p.1 < (p.2.length:Int)):=by
    rw [hmost]
    by_cases c:k=9
    ·subst c; simp; omega
    ·rw [if_neg c,show decide ((k:Int)=9)=false by simp only [decide_eq_false_iff_not]; omega]; simp
   rw [Jt,hdrop,List.map_cons,Zqj]
   simp only [hlm,show decide ((k:Int) < ((10:Nat):Int))=true by simp only [decide_eq_true_eq]; omega,cond_true,hg,ZG,hnl]
   simp only [Zi,Zd,cond_true,cond_false,Zf,ZG,Zc,Zu,condC,Zk,Zj,Zr,Yb,Y0,Ya,hguard]
   by_cases c:p.1 < (p.2.length:Int)
   ·have e:stepD p s=(6,s):=by unfold stepD ZmZ; rw [if_pos (by simpa using c)]
    simp [c,e]
   ·have e:stepD p s=U2 LH p.2 s:=by unfold stepD ZmZ; rw [if_neg (by simpa using c)]
    have hpl:p.2.length≤32:=by rw [hmost] at c; split at c <;> omega
    rw [show decide (p.1 < (p.2.length:Int))=false by simpa using c,cond_false,inner L h1 d h hL k p hp hpl hlt,e]
    have hsl:(U2 LH p.2 s).2.length≤32 * (k + 1):=by have:=ZfQ p.2 s; omega
    have ih:=outer L h1 d h hL E hE m (k + 1) (U2 LH p.2 s).2 hlt (by omega) hsl
    by_cases z:(U2 LH p.2 s).1=0
    ·simp only [z,ne_eq,not_true_eq_false,decide_false,Bool.false_eq_true,if_false]
     exact ih
    ·simp [z]
    exact hs
  ·have:k=10:=by omega
   subst this
   rw [Jt,hlm,show (V7 d).drop 10=[] from rfl]
   simp only [Zi,Zd,cond_true,cond_false,Zf,ZG,Zc,Zu,condC,Zk,Zj,Zr,Yb,Y0,Ya,show decide (((10:Nat):Int) < ((10:Nat):Int))=false from rfl,hE]
   simp [Zqj]
end Go.Proofs.YtleomfgijkapfaaGreatDoor
end
section
namespace Go.Proofs.YtleomfgijkapfaaGreatDoor
open Go Go.Proofs.YtleomfgijkapfaaGreatDoor.Abs Go.Proofs.YtleomfgijkapfaaGreatDoor.Tl
set_option maxRecDepth 100000
mutual
theorem ZfJ (L:Nat):∀ (m:Nat) (a b:Zg),ZL a→2 * SizeOf.sizeOf a≤m→m≤L→Kt L m (a,b,())=some (KT a b)
 | 0,e,_,h,hs,_=>absurd hs (by have:=Ik e; omega)
 | m + 1,e,b,h,hs,hm=>by
  have hz:=Zj5 e
  have ih:=ZdO L m e.Kids b.Kids h.k (fun x hx=>h.Kids.2 x hx) (by omega) (by omega)
  simp only [Zi,Zd,cond_true,cond_false,Zf,ZG,Zc,Zu,condC,Zk,Zj,Zr,Yb,Y0,Ya,ZgQ,ih,Dh,ZbP]; simp only [YQ,JA,if_true,if_false,Bool.false_eq_true,ne_eq,decide_not,gt_iff_lt,ge_iff_le]
  by_cases h1:e.Op=b.Op <;> by_cases h2:e.Name=b.Name <;> by_cases h3:e.N=b.N <;> simp [h1,h2,h3]
theorem ZdO (L:Nat):∀ (m:Nat) (a b:List Zg),a.length≤4611686018427387→(∀ x ∈ a,ZL x)→2 * SizeOf.sizeOf a + 1≤m→m≤L→Ui L m (a,b,())=some (if (!decide ((a.length:Int)=(b.length:Int)))=true then false else all2 KT a b)
 | 0,e,_,h,_,hs,_=>absurd hs (by omega)
 | m + 1,a,b,h,ho,hs,hm=>by
  have hk:=Z7 a
  rcases ZrE a b with ⟨hl1,hl2⟩ | ⟨hl1,hl2⟩
  ·have lp:Zw (Va m a b L) L (0,())=some (all2 KT a b):=by
    refine Zi8 a b hl1 (fun l l'=>some (all2 KT l l')) (by omega) (fun self i x y r r' hx hy hi mem e'=>?_) (fun self=>?_)
    ·have ih:=ZfJ L m x y (ho x mem) (by have:=List.sizeOf_lt_of_mem mem; omega) (by omega)
     rw [Va]; simp only [Zi,Zd,cond_true,cond_false,Zf,ZG,Zc,Zu,condC,Zk,Zj,Zr,Yb,Y0,Ya,hi,hx,hy,ih,wrap_succ hi (by omega),e',all2]; simp only [YQ,JA,if_true,if_false,Bool.false_eq_true,ne_eq,decide_not,gt_iff_lt,ge_iff_le]
    ·rw [Va]; simp only [Zi,Zd,cond_true,cond_false,Zf,ZG,Zc,Zu,condC,Zk,Zj,Zr,Yb,Y0,Ya,all2]
   simp only [Zi,Zd,cond_true,cond_false,Zf,ZG,Zc,Zu,condC,Zk,Zj,Zr,Yb,Y0,Ya,Tz,lp,hl2,Bool.not_true]; simp only [YQ,JA,if_true,if_false,Bool.false_eq_true,ne_eq,decide_not,gt_iff_lt,ge_iff_le]
  ·simp only [Zi,Zd,cond_true,cond_false,Zf,ZG,Zc,Zu,condC,Zk,Zj,Zr,Yb,Y0,Ya,Tz,hl2,Bool.not_false]; simp only [YQ,JA,if_true,if_false,Bool.false_eq_true,ne_eq,decide_not,gt_iff_lt,ge_iff_le]
end
mutual
def Zhp (hd:Zg→Bool):Zg→Bool
 | ⟨o,a,n,ks⟩=>hd ⟨o,a,n,ks⟩ && Zgj hd ks
def Zgj (hd:Zg→Bool):List Zg→Bool
 | []=>true
 | x :: r=>Zhp hd x && Zgj hd r
end
theorem Zm9 (hd:Zg→Bool)(e:Zg):Zhp hd e=(hd e && Zgj hd e.Kids):=by cases e; rw [Zhp]
def hdA (d:Zm)(c:YO)(e:Zg):Bool :=
 if decide (e.Op=25)=true then decide (0≤e.N) && decide (e.N < c.Slots) else if decide (e.Op=26)=true then decide (0≤e.N) && decide (e.N < (d.Vars.length:Int)) else if decide (e.Op=22)=true then decide (0≤e.N) && decide (e.N < (d.Resources.length:Int)) else if decide (e.Op=23)=true then decide (0≤e.N) && decide (e.N < (d.Stores.length:Int))
 else if decide (e.Op=24)=true then decide (e.N < IntKind.i64.wrap ((d.Resources.length:Int) + (d.Queues.length:Int))) else true
theorem Zhy (hd:Zg→Bool):∀ l:List Zg,(!(l.any fun y=>!(Zhp hd y)))=Zgj hd l
 | []=>by rw [Zgj]; rfl
 | x :: l=>by rw [List.any_cons,Zgj,← Zhy hd l]; cases Zhp hd x <;> simp
theorem Zjm (L:Nat)(p:Z9)(si:Int)(sc:Yi)(hs:ZP p.Sites si=some sc)(c:YO):∀ (m:Nat) (e:Zg),ZL e→SizeOf.sizeOf e≤m→m≤L→ZK L m (⟨p,si,c⟩,e,())=some (Zhp (hdA sc.Decl c) e)
 | 0,e,h,hsz,_=>absurd hsz (by have:=Ik e; omega)
 | m + 1,e,h,hsz,hm=>by
  have hk:=Z7 e.Kids; have hz:=Zj5 e; have hl:=h.k
  have lp:Zw (ZJ m ⟨p,si,c⟩ e L) L (0,())=some (IK (fun y=>!(Zhp (hdA sc.Decl c) y)) e.Kids 0):=by
   refine ZkK e.Kids (fun l i=>some (IK (fun y=>!(Zhp (hdA sc.Decl c) y)) l i)) (by omega) (fun self i x r hx hi mem e'=>?_) (fun self=>?_)
   ·have ih:=Zjm L p si sc hs c m x (h.Kids.2 x mem) (by have:=OZ mem; omega) (by omega)
    rw [ZJ]; simp only [Zi,Zd,cond_true,cond_false,Zf,ZG,Zc,Zu,condC,Zk,Zj,Zr,Yb,Y0,Ya,hi,hx,ih,wrap_succ hi (by omega),e',IK]; simp only [YQ,JA,if_true,if_false,Bool.false_eq_true,ne_eq,decide_not,gt_iff_lt,ge_iff_le]
   ·rw [ZJ]; simp only [Zi,Zd,cond_true,cond_false,Zf,ZG,Zc,Zu,condC,Zk,Zj,Zr,Yb,Y0,Ya,IK]
  have hge:decide (IK (fun y=>!(Zhp (hdA sc.Decl c) y)) e.Kids 0 ≥ 0)=e.Kids.any fun y=>!(Zhp (hdA sc.Decl c) y):=PY _ _ 0 (Int.le_refl _)
  have hmost:∀ w o,ZV L (⟨p,si,c⟩,w,o,())=_:=fun w o=>QX L ⟨p,si,c⟩ w o
  rw [IY,show VB=ZJ from rfl,show VC=ZJ from rfl,show VD=ZJ from rfl,show VE=ZJ from rfl,show VF=ZJ from rfl,lp,Zm9]
  simp only [Zi,Zd,cond_true,cond_false,Zf,ZG,Zc,Zu,condC,Zk,Zj,Zr,Yb,Y0,Ya,Xz,hmost,hs,hge,Zhy,hdA,Int.reduceEq,decide_true,decide_false]; simp only [YQ,JA,if_true,if_false,Bool.false_eq_true,ne_eq,decide_not,gt_iff_lt,ge_iff_le,Bool.true_and]
  (repeat' split) <;> simp_all
end Go.Proofs.YtleomfgijkapfaaGreatDoor
end
section
namespace Go.Proofs.YtleomfgijkapfaaGreatDoor
open Go Go.Proofs.YtleomfgijkapfaaGreatDoor.Abs Go.Proofs.YtleomfgijkapfaaGreatDoor.Tl
set_option maxRecDepth 100000
def Zqu (p:Z9)(a b:Int):Int×Bool×PUnit:=match p.Links.find? (fun l=>decide (l.From=a) && decide (l.To=b)) with
 | some l=>(l.Delay,true,())
 | none=>(0,false,())
theorem ZpN (L:Nat)(p:Z9)(a b:Int)(h:p.Links.length≤4611686018427387)(hL:p.Links.length < L):Hl L (p,a,b,())=some (Zqu p a b):=by
 rw [ZgN,ZkK p.Links (fun l i=>some (IK (fun l:ZjP=>decide (l.From=a) && decide (l.To=b)) l i)) hL (fun self i x r hx hi _ e=>by
  rw [IA]; simp only [Zi,Zd,cond_true,cond_false,Zf,ZG,Zc,Zu,condC,Zk,Zj,Zr,Yb,Y0,Ya,hi,hx,wrap_succ hi (by omega),e,IK]; simp only [YQ,JA,if_true,if_false,Bool.false_eq_true,ne_eq,decide_not,gt_iff_lt,ge_iff_le]) (fun self=>by rw [IA]; simp only [Zi,Zd,cond_true,cond_false,Zf,ZG,Zc,Zu,condC,Zk,Zj,Zr,Yb,Y0,Ya,IK]),ZG,Zqu]
 rcases Zfq (fun l:ZjP=>decide (l.From=a) && decide (l.To=b)) p.Links 0 with ⟨e1,e2⟩ | ⟨k,r,e1,e2,e3⟩
 ·rw [e1,e2]; rfl
 ·rw [e1,e2,Int.zero_add,show decide ((k:Int) < 0)=false by simp only [decide_eq_false_iff_not]; omega,cond_false,Zf,e3]; rfl
def ZiI (p:Z9)(d:Zm)(c:YO)(k:Int):Int :=
 if decide (k=1)=true then c.Slots else if decide (k=2)=true then (d.Vars.length:Int) else if decide (k=3)=true then (d.Streams.length:Int) else if decide (k=4)=true then (c.Instrs.length:Int) else if decide (k=5)=true then (d.Resources.length:Int) else if decide (k=6)=true then (d.Stores.length:Int) else if decide (k=7)=true then (d.Belts.length:Int) else if decide (k=8)=true then (d.Queues.length:Int) else if decide (k=9)=true then (p.Sites.length:Int) else if decide (k=11)=true then (d.Tallies.length:Int) else if decide (k=12)=true then (d.Levels.length:Int) else if decide (k=13)=true then (d.Counts.length:Int) else 1
def Zk2 (p:Z9)(d:Zm)(c:YO)(k x:Int):Bool:=decide (0≤x) && decide (x < ZiI p d c k)
theorem ZpT (L:Nat)(p:Z9)(si:Int)(sc:Yi)(hs:ZP p.Sites si=some sc)(c:YO)(k x o:Int)(hk:k≠10):ZA L (⟨p,si,c⟩,k,x,o,())=some (Zk2 p sc.Decl c k x):=by
 have h10:decide (k=10)=false:=by simp [hk]
 have hmost:ZV L (⟨p,si,c⟩,k,o,())=some (ZiI p sc.Decl c k):=by
  rw [QX]; simp only [Zi,Zd,cond_true,cond_false,Zf,ZG,Zc,Zu,condC,Zk,Zj,Zr,Yb,Y0,Ya,hs,h10,ZiI]; simp only [YQ,JA,if_true,if_false,Bool.false_eq_true,ne_eq,decide_not,gt_iff_lt,ge_iff_le]
 simp only [Zi,Zd,cond_true,cond_false,Zf,ZG,Zc,Zu,condC,Zk,Zj,Zr,Yb,Y0,Ya,Xz,hmost,Zk2]
theorem Zjd (L:Nat)(p:Z9)(si:Int)(sc:Yi)(hs:ZP p.Sites si=some sc)(c:YO)(x o:Int)(so:Yi)(ho:ZP p.Sites o=some so):ZA L (⟨p,si,c⟩,10,x,o,())=some (decide (0≤x) && decide (x < (so.Routines.length:Int))):=by
 have hmost:ZV L (⟨p,si,c⟩,10,o,())=some (so.Routines.length:Int):=by
  rw [QX]; simp only [Zi,Zd,cond_true,cond_false,Zf,ZG,Zc,Zu,condC,Zk,Zj,Zr,Yb,Y0,Ya,hs,ho,Int.reduceEq,decide_true,decide_false]
 simp only [Zi,Zd,cond_true,cond_false,Zf,ZG,Zc,Zu,condC,Zk,Zj,Zr,Yb,Y0,Ya,Xz,hmost]
def ZrH (w:List UInt8):Int:=if w=[115,108,111,116] then 1 else if w=[118,97,114] then 2 else if w=[115,116,114,101,97,109] then 3 else if w=[105,110,115,116,114] then 4 else if w=[114,101,115,111,117,114,99,101] then 5 else if w=[115,116,111,114,101] then 6 else if w=[98,101,108,116] then 7 else if w=[113,117,101,117,101] then 8 else if w=[115,105,116,101] then 9 else if w=[116,97,108,108,121] then 11 else if w=[108,101,118,101,108] then 12 else if w=[99,111,117,110,116] then 13 else 0
def Zm6:List (List UInt8):=[[],[115,108,111,116],[118,97,114],[115,116,114,101,97,109],[105,110,115,116,114],[114,101,115,111,117,114,99,101],[115,116,111,114,101],[98,101,108,116],[113,117,101,117,101],[115,105,116,101],[116,97,108,108,121],[108,101,118,101,108],[99,111,117,110,116]]
structure Rel (op:Int)(f:JD)(g:XH):Prop where
 rc:g.C=f.c
 re:g.E=f.e
 rf:g.F=f.f
 rargs:g.Args=f.args
 rflag:g.Flag=f.preempt
 rdist:f.dist=decide (op=3)
 rgdist:g.Dist=f.dist
 wa:g.A ∈ Zm6
 na:ZrH g.A=f.a
 wa0:decide (g.A=[])=decide (f.a=0)
 na10:f.a≠10
 wb0:decide (g.B=[])=decide (f.b=0)
 wb:op≠14→op≠15→g.B ∈ Zm6∧ZrH g.B=f.b∧f.b≠10
 f14:op=14→f.a=9
 f15:op=15→f.a=0
theorem ZbJ (L:Nat)(op:Int)(h:1≤op∧op≤19):∃ f g gs,ZP Qb op=some f∧Oy L ()=some gs∧ZP gs op=some g∧Rel op f g:=by
 have:op=1∨op=2∨op=3∨op=4∨op=5∨op=6∨op=7∨op=8∨op=9∨op=10∨op=11∨op=12∨op=13∨op=14∨op=15∨op=16∨op=17∨op=18∨op=19:=by omega
 rcases this with rfl | rfl | rfl | rfl | rfl | rfl | rfl | rfl | rfl | rfl | rfl | rfl | rfl | rfl | rfl | rfl | rfl | rfl | rfl <;>
  exact ⟨_,_,_,rfl,NJ L,rfl,⟨rfl,rfl,rfl,rfl,rfl,rfl,rfl,by decide,by decide,by decide,by decide,by decide,by decide,by decide,by decide⟩⟩
end Go.Proofs.YtleomfgijkapfaaGreatDoor
end
section
namespace Go.Proofs.YtleomfgijkapfaaGreatDoor
open Go Go.Proofs.YtleomfgijkapfaaGreatDoor.Abs Go.Proofs.YtleomfgijkapfaaGreatDoor.Tl
set_option maxRecDepth 100000
theorem ZcC (i:Zx):SizeOf.sizeOf i.E < SizeOf.sizeOf i∧SizeOf.sizeOf i.F < SizeOf.sizeOf i∧SizeOf.sizeOf i.Args < SizeOf.sizeOf i∧SizeOf.sizeOf i.Dist < SizeOf.sizeOf i:=by cases i; simp; omega
def Rw (f:JD)(i:Zx):Bool:=(!decide (f.a=0) || decide (i.A=0)) && (!decide (f.b=0) || decide (i.B=0)) && (f.c || decide (i.C=0)) && (f.e || MF i.E) && (f.f || MF i.F) && (f.args || decide ((i.Args.length:Int)=0)) && (f.dist || KI i.Dist) && (f.preempt || !i.Flag)
theorem ZnQ (L:Nat)(i:Zx)(h:Xp i)(hL:2 * SizeOf.sizeOf i≤L)(f:JD)(hf:ZP Qb i.Op=some f):JU L (i,())=some (Rw f i):=by
 have hz:=ZcC i
 have z:=fun e (he:ZL e) (hl:SizeOf.sizeOf e≤L)=>show J6 L (e,())=some (MF e) by simp only [Zi,Zd,cond_true,cond_false,Zf,ZG,Zc,Zu,condC,Zk,Zj,Zr,Yb,Y0,Ya,ZdU,ZnU L e _ he hl,Zhd]
 rw [Zcn,hf]
 simp only [Zi,Zd,cond_true,cond_false,Zf,ZG,Zc,Zu,condC,Zk,Zj,Zr,Yb,Y0,Ya,z i.E h.E (by omega),z i.F h.F (by omega),ZnS L i.Dist _ h.Dist (by omega),MX,Rw]
def EF (f:JD)(i:Zx):List Zg:=(bif f.e then [i.E] else []) ++ ((bif f.f then [i.F] else []) ++ (bif f.args then i.Args else []))
theorem apE (l m:List Zg)(h:(l.length + m.length) * 56≤140737488355328):apT 56 l m=some (l ++ m):=by unfold apT; rw [if_pos h]
theorem ZrM (i:Zx)(ha:i.Args.length * 56≤140737488351232):apT 56 [] [i.E]=some [i.E]∧apT 56 [] [i.F]=some [i.F]∧apT 56 [i.E] [i.F]=some ([i.E] ++ [i.F])∧apT 56 [] i.Args=some i.Args∧apT 56 [i.E] i.Args=some ([i.E] ++ i.Args)∧apT 56 [i.F] i.Args=some ([i.F] ++ i.Args)∧apT 56 ([i.E] ++ [i.F]) i.Args=some ([i.E] ++ [i.F] ++ i.Args) :=
 ⟨apE [] [i.E] (by simp),apE [] [i.F] (by simp),apE _ _ (by simp),apE [] i.Args (by simp only [List.length_nil]; omega),apE _ _ (by simp only [List.length_cons,List.length_nil]; omega),apE _ _ (by simp only [List.length_cons,List.length_nil]; omega),apE _ _ (by simp only [List.cons_append,List.nil_append,List.length_cons,List.length_nil]; omega)⟩
theorem Tn (L:Nat)(n:Int):Xk L (n,())=some (btw n 1 19):=Zco L n
theorem Zf9 (L:Nat)(i:Zx)(h:Xp i)(hk:btw i.Op 1 19=true)(f:JD)(hf:ZP Qb i.Op=some f):ZB L (i,())=some (EF f i):=by
 have ha:=h.Args.1
 simp only [Zi,Zd,cond_true,cond_false,Zf,ZG,Zc,Zu,condC,Zk,Zj,Zr,Yb,Y0,Ya,JM,Tn,hk,hf,Bool.not_true]
 unfold EF
 obtain ⟨a0,a1,a2,a3,a4,a5,a6⟩:=ZrM i ha
 cases f.e <;> cases f.f <;> cases f.args <;> simp only [cond_true,cond_false,a0,a1,a2,a3,a4,a5,a6,ZG,List.nil_append,List.append_nil,List.append_assoc]
theorem Zpc (f:JD)(i:Zx)(h:Xp i):(EF f i).length≤4611686018427387∧(EF f i).length≤2 + i.Args.length∧∀ x ∈ EF f i,ZL x∧SizeOf.sizeOf x < SizeOf.sizeOf i:=by
 have hz:=ZcC i
 have ha:=h.Args.1
 have hl:(EF f i).length≤2 + i.Args.length:=by
  unfold EF; cases f.e <;> cases f.f <;> cases f.args <;> simp <;> omega
 refine ⟨by omega,hl,fun x hx=>?_⟩
 unfold EF at hx
 rcases List.mem_append.1 hx with hx | hx
 ·cases he:f.e <;> rw [he] at hx
  ·cases hx
  ·rw [List.mem_singleton.1 hx]; exact ⟨h.E,by omega⟩
 rcases List.mem_append.1 hx with hx | hx
 ·cases he:f.f <;> rw [he] at hx
  ·cases hx
  ·rw [List.mem_singleton.1 hx]; exact ⟨h.F,by omega⟩
 ·cases he:f.args <;> rw [he] at hx
  ·cases hx
  ·have hx:x ∈ i.Args:=hx
   exact ⟨h.Args.2 x hx,by have:=List.sizeOf_lt_of_mem hx; omega⟩
def esR (d:Zm)(c:YO)(t:Int):List Zg→Int
 | []=>t
 | x :: r=>if decide (WC true x≠0)=true then WC true x else if (!(Zhp (hdA d c) x))=true then 2 else esR d c t r
theorem lpA (L:Nat)(h1:1000≤L)(p:Z9)(si:Int)(sc:Yi)(hs:ZP p.Sites si=some sc)(c:YO)(i:Zx)(h:Xp i)(hL:2 * SizeOf.sizeOf i≤L)(f:JD)(op:f.dist=decide (i.Op=3)):Zw (Yj ⟨p,si,c⟩ i L f (EF f i)) L (0,())=some (esR sc.Decl c (if decide (i.Op=3)=true then XJ i.Dist else 0) (EF f i)):=by
 obtain ⟨e1,e2,e3⟩:=Zpc f i h
 have hz:=ZcC i; have hk:=Z7 i.Args
 refine ZbU (EF f i) (fun l=>some (esR sc.Decl c (if decide (i.Op=3)=true then XJ i.Dist else 0) l)) (by omega) (fun self j x r hx hi mem e=>?_) (fun self=>?_)
 ·obtain ⟨o1,o2⟩:=e3 x mem
  rw [Yj]
  simp only [Zi,Zd,cond_true,cond_false,Zf,ZG,Zc,Zu,condC,Zk,Zj,Zr,Yb,Y0,Ya,hi,hx,ZdI L x o1 (by omega),show YM L (⟨p,si,c⟩,x,())=_ from Zjm L p si sc hs c L x o1 (by omega) (Nat.le_refl _),wrap_succ hi (by omega),e,esR]; simp only [YQ,JA,if_true,if_false,Bool.false_eq_true,ne_eq,decide_not,gt_iff_lt,ge_iff_le]
 ·rw [Yj]; simp only [Zi,Zd,cond_true,cond_false,Zf,ZG,Zc,Zu,condC,Zk,Zj,Zr,Yb,Y0,Ya,op,NC L i.Dist h.Dist (by omega) (by omega),esR]; simp only [YQ,JA,if_true,if_false,Bool.false_eq_true,ne_eq,decide_not,gt_iff_lt,ge_iff_le]
theorem Zb7 (x:Zg)(h:WC true x=0):Qc true x=0:=by
 unfold WC at h
 by_cases a:60 < ZhP x
 ·simp [a] at h
 by_cases b:12 < Zhq x
 ·simp [a,b] at h
 simpa [a,b] using h
end Go.Proofs.YtleomfgijkapfaaGreatDoor
end
section
namespace Go.Proofs.YtleomfgijkapfaaGreatDoor
open Go Go.Proofs.YtleomfgijkapfaaGreatDoor.Abs Go.Proofs.YtleomfgijkapfaaGreatDoor.Tl
set_option maxRecDepth 100000
theorem Zdq {α:Type}(l:List α)(n:Int)(h0:0≤n)(h:n < l.length):∃ x,ZP l n=some x∧x ∈ l:=by
 have hn:n.toNat < l.length:=by omega
 refine ⟨l[n.toNat],?_,List.getElem_mem hn⟩
 unfold ZP; rw [if_pos h0]; exact List.getElem?_eq_getElem hn
theorem Ar (L:Nat)(p:Z9)(o:Int)(so:Yi)(ho:ZP p.Sites o=some so)(i:Zx) :
  ((decide (0≤i.B) && decide (i.B < (so.Routines.length:Int)))=false∧Oz L (p,o,i,())=some 2) ∨
  ((decide (0≤i.B) && decide (i.B < (so.Routines.length:Int)))=true∧∃ cd,ZP so.Routines i.B=some cd∧Oz L (p,o,i,())=some (bif !decide ((i.Args.length:Int)=cd.Params) then 8 else 0)):=by
 rw [Zeo,ho,ZG]
 by_cases h:0≤i.B∧i.B < (so.Routines.length:Int)
 ·refine .inr ⟨by simp [h.1,h.2],?_⟩
  obtain ⟨cd,hc,_⟩:=Zdq so.Routines i.B h.1 h.2
  refine ⟨cd,hc,?_⟩
  rw [show (decide (i.B < 0) || decide (i.B ≥ (so.Routines.length:Int)))=false by simp only [Bool.or_eq_false_iff,decide_eq_false_iff_not]; omega,hc]
  simp only [Zi,Zd,cond_true,cond_false,Zf,ZG,Zc,Zu,condC,Zk,Zj,Zr,Yb,Y0,Ya]
 ·refine .inl ⟨by simp only [Bool.and_eq_false_iff,decide_eq_false_iff_not]; omega,?_⟩
  rw [show (decide (i.B < 0) || decide (i.B ≥ (so.Routines.length:Int)))=true by simp only [Bool.or_eq_true,decide_eq_true_eq]; omega]
  rfl
theorem orN (a b:Bool):(!b && !a)=!(a || b):=by cases a <;> cases b <;> rfl
end Go.Proofs.YtleomfgijkapfaaGreatDoor
end
section
namespace Go.Proofs.YtleomfgijkapfaaGreatDoor
open Go Go.Proofs.YtleomfgijkapfaaGreatDoor.Abs Go.Proofs.YtleomfgijkapfaaGreatDoor.Tl
set_option maxRecDepth 100000
theorem LJ (c:YO):SizeOf.sizeOf c.Name < SizeOf.sizeOf c∧SizeOf.sizeOf c.Instrs < SizeOf.sizeOf c:=by cases c; simp; omega
theorem Zrl {α:Type}{f:(Int×PUnit→Option Int)→Int×PUnit→Option Int}(l:List α)(V:α→Int)(T:Option Int){m:Nat}(hm:l.length < m)
  (h1:∀ self (i:Nat) x,l[i]? = some x→i < l.length→x ∈ l→f self ((i:Int),())=bif !decide (V x=0) then some (V x) else self ((i:Int) + 1,()))
  (h2:∀ self,f self ((l.length:Int),())=T):Zw f m (0,())=if decide (Xg V l≠0)=true then some (Xg V l) else T :=
 ZbU l (fun l=>if decide (Xg V l≠0)=true then some (Xg V l) else T) hm (fun self i x r hx hi mem e=>by
  rw [h1 self i x hx hi mem,e,Xg]
  by_cases c:V x=0 <;> simp [c]) (fun self=>by rw [h2]; rfl)
end Go.Proofs.YtleomfgijkapfaaGreatDoor
end
section
namespace Go.Proofs.YtleomfgijkapfaaGreatDoor
open Go Go.Proofs.YtleomfgijkapfaaGreatDoor.Abs Go.Proofs.YtleomfgijkapfaaGreatDoor.Tl
set_option maxRecDepth 100000
theorem Zsa (p:Z9){s:Yi}(h:s ∈ p.Sites):SizeOf.sizeOf s.Decl < SizeOf.sizeOf p∧SizeOf.sizeOf s.Routines < SizeOf.sizeOf p∧SizeOf.sizeOf p.Name < SizeOf.sizeOf p∧p.Sites.length < SizeOf.sizeOf p∧p.Links.length < SizeOf.sizeOf p:=by
 have h1:=List.sizeOf_lt_of_mem h
 have h2:SizeOf.sizeOf s.Decl < SizeOf.sizeOf s∧SizeOf.sizeOf s.Routines < SizeOf.sizeOf s:=by cases s; simp; omega
 have h3:SizeOf.sizeOf p.Sites < SizeOf.sizeOf p∧SizeOf.sizeOf p.Name < SizeOf.sizeOf p∧SizeOf.sizeOf p.Links < SizeOf.sizeOf p:=by cases p; simp; omega
 have h4:=Z7 p.Sites; have h5:=Z7 p.Links
 omega
end Go.Proofs.YtleomfgijkapfaaGreatDoor
end
section
namespace Go.Proofs.YtleomfgijkapfaaGreatDoor
open Go Go.Proofs.YtleomfgijkapfaaGreatDoor.Abs Go.Proofs.YtleomfgijkapfaaGreatDoor.Tl
set_option maxRecDepth 100000
theorem Zi7 {τ σ ρ:Type}{f:(τ→Option ρ)→τ→Option ρ}(n:Nat)(pk:σ→Int→τ)
  (h1:∀ self s (i:Nat),i < n→(∀ s',∃ r,self (pk s' ((i:Int) + 1))=some r)→∃ r,f self (pk s i)=some r)
  (h2:∀ self s,∃ r,f self (pk s n)=some r):∀ (m i:Nat) (s:σ),i≤n→n - i < m→∃ r,Zw f m (pk s i)=some r
 | 0,_,_,_,h=>absurd h (Nat.not_lt_zero _)
 | m + 1,i,s,hi,hm=>by
  show ∃ r,f (Zw f m) (pk s i)=some r
  rcases Nat.lt_or_ge i n with hlt | hge
  ·exact h1 _ s i hlt fun s'=>Zi7 n pk h1 h2 m (i + 1) s' hlt (by omega)
  ·have:i=n:=by omega
   subst this
   exact h2 _ s
theorem ZdJ (L:Nat)(c:YO)(h:c.Instrs.length≤4611686018427387)(hL:c.Instrs.length < L):∃ r,WX L (c,())=some r:=by
 rw [Zaz]
 exact Zi7 (f := XY c) c.Instrs.length (fun (_:Unit) i=>(i,())) (fun self _ i hi e=>by
  have hx:=List.getElem?_eq_getElem hi
  generalize c.Instrs[i]=x at hx
  obtain ⟨r,e⟩:=e ()
  rw [XY]
  simp only [Zi hi,cond_true,Zf,hx,ZG,wrap_succ hi (by omega),e,Zr]
  exact ⟨_,rfl⟩) (fun self _=>by rw [XY]; simp only [Zd,cond_false]; exact ⟨_,rfl⟩) L 0 () (Nat.zero_le _) (by omega)
theorem Zpe (L:Nat)(self:Bool×Int×PUnit→Option Bool)(i:Nat)(b0:Bool)(y:Yi)(hs:∀ b,∃ r,self (b,IntKind.i64.wrap ((i:Int) + 1),())=some r)(hl:y.Decl.Routines.length≤4611686018427387)(hL:y.Decl.Routines.length < L)(hc:∀ r ∈ y.Decl.Routines,∃ n,XU L (r.Body,())=some n)(b:Bool):∃ r,Zw (Vr L self (b0,(i:Int),()) y) L (b,0,())=some r :=
 Zi7 (f := Vr L self (b0,(i:Int),()) y) y.Decl.Routines.length (fun b i=>(b,i,())) (fun self1 b j hj e=>by
  have hx:=List.getElem?_eq_getElem hj
  have mem:=List.getElem_mem hj
  generalize y.Decl.Routines[j]=x at hx mem
  obtain ⟨r,e⟩:=e b
  obtain ⟨n,hn⟩:=hc x mem
  rw [Vr]
  simp only [Zi hj,cond_true,Zf,hx,ZG,hn,wrap_succ hj (by omega),e,Zr]
  exact ⟨_,rfl⟩) (fun self1 b=>by rw [Vr]; simp only [Zd,cond_false]; exact hs b) L 0 b (Nat.zero_le _) (by omega)
theorem Zpf (L:Nat)(p:Z9)(self:Bool×Int×PUnit→Option Bool)(i:Nat)(b0:Bool)(y:Yi)(hy:p.Sites[i]? = some y)(hs:∀ b,∃ r,self (b,IntKind.i64.wrap ((i:Int) + 1),())=some r)(hl:y.Decl.Routines.length≤4611686018427387)(hL:y.Decl.Routines.length < L)(hc:∀ r ∈ y.Decl.Routines,∃ n,XU L (r.Body,())=some n)(hl2:y.Routines.length≤4611686018427387)(hL2:y.Routines.length < L)(hg:∀ c ∈ y.Routines,∃ r,WX L (c,())=some r)(b:Bool):∃ r,Zw (Vs p L self (b0,(i:Int),()) y) L (b,0,())=some r :=
 Zi7 (f := Vs p L self (b0,(i:Int),()) y) y.Routines.length (fun b i=>(b,i,())) (fun self1 b j hj e=>by
  have hx:=List.getElem?_eq_getElem hj
  have mem:=List.getElem_mem hj
  generalize y.Routines[j]=x at hx mem
  obtain ⟨r,e⟩:=e b
  obtain ⟨n,hn⟩:=hg x mem
  rw [Vs]
  simp only [Zf,hy,Zi hj,cond_true,hx,ZG,hn,wrap_succ hj (by omega),e,Zr]
  exact ⟨_,rfl⟩) (fun self1 b=>by
  rw [Vs]; simp only [Zf,hy,ZG,Zd,cond_false]; exact Zpe L self i b0 y hs hl hL hc b) L 0 b (Nat.zero_le _) (by omega)
theorem Zrw (L:Nat)(p:Z9)(h:Dp p)(hL:2 * SizeOf.sizeOf p≤L):∃ b,UX L (p,())=some b:=by
 have h3:SizeOf.sizeOf p.Sites < SizeOf.sizeOf p:=by cases p; simp; omega
 have h4:=Z7 p.Sites; have hs:=h.Sites.1
 rw [ZdY]
 exact Zi7 (f := JL p L) p.Sites.length (fun b i=>(b,i,())) (fun self b i hi e=>by
  have hx:=List.getElem?_eq_getElem hi
  have mem:=List.getElem_mem hi
  generalize p.Sites[i]=y at hx mem
  have hz:=Zsa p mem
  have ok:=h.Sites.2 y mem
  have hzd:=S9 y.Decl
  have k1:=Z7 y.Decl.Routines; have k2:=Z7 y.Routines
  have o1:=ok.Decl.Routines.1; have o2:=ok.Routines.1
  obtain ⟨r,hr⟩:=Zpf L p self i b y hx (fun b'=>by rw [wrap_succ hi (by omega)]; exact e b') (by omega) (by omega) (fun r hr=>by
   have hm:=List.sizeOf_lt_of_mem hr
   have hrz:=Zmx r
   exact ⟨_,Tt L L r.Body (ok.Decl.Routines.2 r hr).p.2.2 (by omega) (Nat.le_refl _)⟩) (by omega) (by omega) (fun c hc=>by
   have hm:=List.sizeOf_lt_of_mem hc
   have hcz:=LJ c
   have:=Z7 c.Instrs
   have:=(ok.Routines.2 c hc).Instrs.1
   exact ZdJ L c (by omega) (by omega)) b
  rw [JL]
  simp only [Zi hi,cond_true,Zf,hx,ZG,hr,Zr]
  exact ⟨_,rfl⟩) (fun self b=>by rw [JL]; simp only [Zd,cond_false]; exact ⟨_,rfl⟩) L 0 false (Nat.zero_le _) (by omega)
end Go.Proofs.YtleomfgijkapfaaGreatDoor
end
noncomputable section
namespace Go.Proofs.YtleomfgijkapfaaGreatDoor
open Go Go.Proofs.YtleomfgijkapfaaGreatDoor.Abs Go.Proofs.YtleomfgijkapfaaGreatDoor.Tl
set_option maxRecDepth 100000
set_option maxHeartbeats 0
def QP (L:Nat)(x:(List Zx)×(List Zx)×PUnit):Option Bool:=fT [Hg L,FC L] L Kz [.rnd [.slot 4 .bool,.slot 5 (.int .i64)],.rnd [.slot 4 .bool,.slot 8 (.int .i64)]] (.one .bool) [.lst 20 (.row 15),.lst 20 (.row 15)] x
def KH (L:Nat):Sum tT:=mU 20 [.lst 20 (.row 15),.lst 20 (.row 15)] (.one .bool) (QP L)
theorem BM:SX KH:=fun h=>sT h (Zn (Zhb h) (Zn (Zhc h) ZU)) rfl (by kernel_rfl) fun _=>rfl
def Q4:Nat→(Bool×Int×PUnit→Option Bool)→Bool×Int×PUnit→Zx→Zx→(Bool×Int×PUnit→Option Bool)→Bool×Int×PUnit→Option Bool:=fun L self acc y y_1 self_1 acc_1=>bif decide (acc_1.2.1 < (↑y.7.length:Int)) then bT (ZP y.7 acc_1.2.1) fun y=>bT (ZP y_1.7 acc_1.2.1) fun y_2=>bT (bT (Je L (y,y_2,())) fun y=>some y) fun y=>bif !y then some false else self_1 (acc_1.1,Go.IntKind.i64.wrap (acc_1.2.1 + 1),()) else self (acc_1.1,Go.IntKind.i64.wrap (acc.2.1 + 1),())
def WF:List Zx→List Zx→Nat→(Bool×Int×PUnit→Option Bool)→Bool×Int×PUnit→Option Bool:=fun x0 x1 L self acc=>bif decide (acc.2.1 < (↑x0.length:Int)) then bT (ZP x0 acc.2.1) fun y=>bT (ZP x1 acc.2.1) fun y_1=>bif y.1 != y_1.1 || y.2 != y_1.2 || y.3 != y_1.3 || y.4 != y_1.4 || !y.9 == y_1.9 || (↑y.7.length:Int) != (↑y_1.7.length:Int) then some false else bT (Je L (y.5,y_1.5,())) fun y_2=>bT (bif (!y_2) == false then bT (Je L (y.6,y_1.6,())) fun y=>some !y else some true) fun y_3=>bT (bif y_3 == false then bT (Xl L (y.8,y_1.8,())) fun y=>some !y else some true) fun y_4=>bif y_4 then some false else Zw (Q4 L self acc y y_1) L (acc.1,0,()) else some true
theorem BI (L:Nat)(x0:(List Zx))(x1:(List Zx)):QP L (x0,x1,())=bif (↑x0.length:Int) != (↑x1.length:Int) then some false else Zw (WF x0 x1 L) L (false,0,()):=by kernel_rfl
end Go.Proofs.YtleomfgijkapfaaGreatDoor
end
section
namespace Go.Proofs.YtleomfgijkapfaaGreatDoor
open Go Go.Proofs.YtleomfgijkapfaaGreatDoor.Abs Go.Proofs.YtleomfgijkapfaaGreatDoor.Tl
set_option maxRecDepth 100000
open Classical in
noncomputable def sm {α:Type} (a b:α):Bool:=decide (a=b)
theorem Zhe {α:Type}(a b:α):sm a b=true↔a=b:=by unfold sm; simp
theorem Zhf {α:Type}{a b:α}{v:Bool}(h:v=true↔a=b):v=sm a b:=Bool.eq_iff_iff.2 (h.trans (Zhe a b).symm)
theorem Zmv {α:Type}(a b:α)[Decidable (a=b)]:decide (a=b)=sm a b:=Zhf (by simp)
theorem Zl7 (a b:Bool):(a == b)=sm a b:=Zhf (by simp)
theorem Zos (a:Bool):sm a true=a:=by cases a <;> simp [← Zl7]
theorem Zor (a:Bool):sm a false=!a:=by cases a <;> simp [← Zl7]
theorem Zou {α:Type}(a:α):sm a a=true:=(Zhe a a).2 rfl
theorem Zot {α:Type}(x y:α)(l m:List α):sm (x :: l) (y :: m)=(sm x y && sm l m):=(Zhf (by simp [Zhe])).symm
theorem ZrF {α:Type}(l m:List α):(l.length=m.length∧sm (l.length:Int) (m.length:Int)=true)∨(sm (l.length:Int) (m.length:Int)=false∧sm l m=false):=by
 by_cases h:l.length=m.length
 ·exact .inl ⟨h,by rw [Zhe,h]⟩
 ·refine .inr ⟨?_,?_⟩ <;> rw [← Bool.not_eq_true,Zhe]
  ·omega
  ·exact fun e=>h (by rw [e])
theorem Zdk {α:Type}(c:Bool)(a b:α):(bif !c then a else b)=bif c then b else a:=by cases c <;> rfl
theorem eqG {α τ:Type}{f:(τ→Option Bool)→τ→Option Bool}(pk:Int→τ)(l m:List α)(e:l.length=m.length){L:Nat}(hL:l.length < L)(K:Option Bool)
  (h1:∀ self (i:Nat) x y,l[i]? = some x→m[i]? = some y→i < l.length→x ∈ l→f self (pk i)=bif sm x y then self (pk ((i:Int) + 1)) else some false)
  (h2:∀ self,f self (pk (l.length:Nat))=K):Zw f L (pk 0)=bif sm l m then K else some false:=by
 have:=Zi6 (f := f) l.length pk (fun i=>bif sm (l.drop i) (m.drop i) then K else some false) (fun self i hi e'=>by
  have hx:=List.getElem?_eq_getElem hi
  have hy:=List.getElem?_eq_getElem (show i < m.length by omega)
  rw [List.drop_eq_getElem_cons hi,List.drop_eq_getElem_cons (show i < m.length by omega),Zot,h1 self i _ _ hx hy hi (List.getElem_mem hi),e']
  cases sm l[i] m[i] <;> rfl) (fun self=>by rw [List.drop_length,e,List.drop_length,Zou]; rw [← e]; exact h2 self) L 0 (Nat.zero_le _) (by omega)
 exact this
theorem ZfT (x y:Zx):sm x y=(sm x.Op y.Op && (sm x.A y.A && (sm x.B y.B && (sm x.C y.C && (sm x.E y.E && (sm x.F y.F && (sm x.Args y.Args && (sm x.Dist y.Dist && (sm x.Flag y.Flag))))))))):=(Zhf (by cases x; cases y; simp only [Bool.and_eq_true,Zhe,Zx.mk.injEq])).symm
mutual
theorem Zc6:∀ a b:Zg,KT a b=true↔a=b
 | ⟨o,a,n,ks⟩,⟨o',a',n',ks'⟩=>by
  have:=F7 ks ks'
  rw [KT]
  by_cases hl:ks.length=ks'.length
  ·simp only [ZbP,Zg.mk.injEq,hl,this hl,ne_eq,decide_not,decide_true,Bool.not_true,Bool.or_false]
   by_cases h1:o=o' <;> by_cases h2:a=a' <;> by_cases h3:n=n' <;> simp [h1,h2,h3,this hl]
  ·have h2:¬ ((ks.length:Int)=(ks'.length:Int)):=by omega
   have h3:ks≠ks':=fun e=>hl (by rw [e])
   simp [h2,h3]
theorem F7:∀ l m:List Zg,l.length=m.length→(Ij l m=true↔l=m)
 | [],[],_=>by rw [Ij] <;> simp
 | x :: r,y :: s,h=>by
  have h1:=Zc6 x y
  have h2:=F7 r s (by simpa using h)
  rw [Ij,List.cons.injEq,← h1,← h2]
  cases KT x y <;> simp
end
theorem Zl5 (a b:Zg):KT a b=sm a b:=Zhf (Zc6 a b)
theorem Zko (a b:ZX):Zb9 a b=sm a b:=by rw [ZhW,Zmv]
theorem Zag (L:Nat)(a b:Zg)(h:ZL a)(hL:2 * SizeOf.sizeOf a≤L):Je L (a,b,())=some (sm a b):=by rw [show Je L (a,b,())=_ from ZfJ L L a b h hL (Nat.le_refl _),Zl5]
theorem ZkL (L:Nat)(a b:ZX)(h:QE a)(hL:SizeOf.sizeOf a≤L):Xl L (a,b,())=some (sm a b):=by rw [BU L a b h hL,Zko]
end Go.Proofs.YtleomfgijkapfaaGreatDoor
end
section
namespace Go.Proofs.YtleomfgijkapfaaGreatDoor
open Go Go.Proofs.YtleomfgijkapfaaGreatDoor.Abs Go.Proofs.YtleomfgijkapfaaGreatDoor.Tl
set_option maxRecDepth 100000
theorem ZqL {α:Type}(a b:Bool)(x y:α):(bif a then (bif b then x else y) else y)=bif (a && b) then x else y:=by cases a <;> rfl
end Go.Proofs.YtleomfgijkapfaaGreatDoor
end
section
namespace Go.Proofs.YtleomfgijkapfaaGreatDoor
open Go Go.Proofs.YtleomfgijkapfaaGreatDoor.Abs Go.Proofs.YtleomfgijkapfaaGreatDoor.Tl
set_option maxRecDepth 100000
theorem ZiB (L:Nat)(l k:List Zx)(hn:Len l)(ok:∀ x ∈ l,Xp x)(h:2 * SizeOf.sizeOf l≤L):QP L (l,k,())=some (sm l k):=by
 have hl:=Z7 l
 rw [BI]
 rcases ZrF l k with ⟨e,e2⟩ | ⟨e2,e3⟩
 ·have lp:=eqG (f := WF l k L) (fun i=>(false,i,())) l k e (L := L) (by omega) (some true) (fun self i x y hx hy hi mem=>by
   have:=List.sizeOf_lt_of_mem mem
   have o:=ok x mem; have z:=ZcC x; have hl':=Z7 x.Args; have ha:=o.Args.1
   rw [WF]
   rcases ZrF x.Args y.Args with ⟨d,d2⟩ | ⟨d2,d3⟩
   ·have lq:=eqG (f := Q4 L self (false,(i:Int),()) x y) (fun i=>(false,i,())) x.Args y.Args d (L := L) (by omega) (self (false,(i:Int) + 1,())) (fun self1 i x1 y1 hx hy hi mem=>by
     have:=List.sizeOf_lt_of_mem mem
     rw [Q4]; simp only [Zi,Zd,cond_true,cond_false,Zf,ZG,Zc,Zu,condC,Zr,Zdk,Yb,Y0,Zl7,Zos,Zor,Ya,Zmv,← Bool.not_and,Bool.not_not,Bool.cond_true_left,Bool.cond_false_right,Bool.cond_true_right,Bool.and_true,Bool.and_assoc,hi,hx,hy,Zag L x1 y1 (o.Args.2 x1 mem) (by omega),wrap_succ hi (by omega)]) (fun self1=>by rw [Q4]; simp only [Zi,Zd,cond_true,cond_false,Zf,ZG,Zc,Zu,condC,Zr,Zdk,Yb,Y0,Zl7,Zos,Zor,Ya,Zmv,← Bool.not_and,Bool.not_not,Bool.cond_true_left,Bool.cond_false_right,Bool.cond_true_right,Bool.and_true,Bool.and_assoc,wrap_succ hi (by omega)])
    simp only [Zi,Zd,cond_true,cond_false,Zf,ZG,Zc,Zu,condC,Zr,Zdk,Yb,Y0,Zl7,Zos,Zor,Ya,Zmv,← Bool.not_and,Bool.not_not,Bool.cond_true_left,Bool.cond_false_right,Bool.cond_true_right,Bool.and_true,Bool.and_assoc,hi,hx,hy,lq,Zag L x.E y.E o.E (by omega),Zag L x.F y.F o.F (by omega),ZkL L x.Dist y.Dist o.Dist (by omega),d2,ZfT,ZqL]
    congr 1; ac_rfl
   ·simp only [Zi,Zd,cond_true,cond_false,Zf,ZG,Zc,Zu,condC,Zr,Zdk,Yb,Y0,Zl7,Zos,Zor,Ya,Zmv,← Bool.not_and,Bool.not_not,Bool.cond_true_left,Bool.cond_false_right,Bool.cond_true_right,Bool.and_true,Bool.and_assoc,hi,hx,hy,d2,d3,ZfT,Bool.and_false,Bool.false_and]) (fun self=>by rw [WF]; simp only [Zi,Zd,cond_true,cond_false,Zf,ZG,Zc,Zu,condC,Zr,Zdk,Yb,Y0,Zl7,Zos,Zor,Ya,Zmv,← Bool.not_and,Bool.not_not,Bool.cond_true_left,Bool.cond_false_right,Bool.cond_true_right,Bool.and_true,Bool.and_assoc])
  rw [show Zw (WF l k L) L (false,0,())=_ from lp]
  simp only [Zi,Zd,cond_true,cond_false,Zf,ZG,Zc,Zu,condC,Zr,Zdk,Yb,Y0,Zl7,Zos,Zor,Ya,Zmv,← Bool.not_and,Bool.not_not,Bool.cond_true_left,Bool.cond_false_right,Bool.cond_true_right,Bool.and_true,Bool.and_assoc,e2]
 ·simp only [Zi,Zd,cond_true,cond_false,Zf,ZG,Zc,Zu,condC,Zr,Zdk,Yb,Y0,Zl7,Zos,Zor,Ya,Zmv,← Bool.not_and,Bool.not_not,Bool.cond_true_left,Bool.cond_false_right,Bool.cond_true_right,Bool.and_true,Bool.and_assoc,e2,e3]
end Go.Proofs.YtleomfgijkapfaaGreatDoor
end
noncomputable section
namespace Go.Proofs.YtleomfgijkapfaaGreatDoor
open Go Go.Proofs.YtleomfgijkapfaaGreatDoor.Abs Go.Proofs.YtleomfgijkapfaaGreatDoor.Tl
set_option maxRecDepth 100000
set_option maxHeartbeats 0
def WW (L:Nat)(x:(List UInt8)×(List Int)×PUnit):Option (List UInt8):=fT [FI] L O6 [.rnd [.slot 0 .str,.slot 9 (.int .i64)]] (.one .str) [.str,.lst 1 (.int .i64)] x
def TS (L:Nat):Sum tT:=mU 90 [.str,.lst 1 (.int .i64)] (.one .str) (WW L)
theorem ZaA:SX TS:=fun h=>sT h (Zn (Zc5 h) ZU) rfl (by kernel_rfl) fun _=>rfl
def Uc:List Int→(List UInt8×Int×PUnit→Option (List UInt8))→List UInt8×Int×PUnit→Option (List UInt8):=fun x1 self acc=>bif decide (acc.2.1 < (↑x1.length:Int)) then bT (ZP x1 acc.2.1) fun y=>bT (VN y) fun y=>bT (CB [32] y) fun y=>bT (CB acc.1 y) fun y=>self (y,Go.IntKind.i64.wrap (acc.2.1 + 1),()) else some acc.1
theorem Zav (L:Nat)(x0:(List UInt8))(x1:(List Int)):WW L (x0,x1,())=Zw (Uc x1) L (x0,0,()):=by kernel_rfl
def Xa (L:Nat)(x:ZX×PUnit):Option (List UInt8):=fB [FI,TS L,GI L] L Dz [.rnd [.slot 52 (.int .i64),.cont 1 (.buf 93 5)]] (.one .str) [.row 2] x
def SH (L:Nat):Sum tT:=mU 43 [.row 2] (.one .str) (Xa L)
theorem Zez:SX SH:=fun h=>sB h (Zn (Zc5 h) (Zn (ZaA h) (Zn (RX h) ZU))) rfl (by kernel_rfl) fun _=>rfl
def Qp:ZX→(Int×List UInt8×PUnit→Option (List UInt8))→Int×List UInt8×PUnit→Option (List UInt8):=fun x0 self acc=>bif decide (acc.1 < (↑x0.5.length:Int)) then bT (ZP x0.5 acc.1) fun y=>bT (bT (VN y) fun y=>some y) fun y=>bT (CB [32] y) fun y=>bT (CB y [58]) fun y=>bT (ZP x0.6 acc.1) fun y_1=>bT (bT (VN y_1) fun y=>some y) fun y_2=>bT (CB y y_2) fun y=>bT (OL acc.2.1 y) fun y=>self (Go.IntKind.i64.wrap (acc.1 + 1),y,()) else some acc.2.1
theorem ZdW (L:Nat)(x0:ZX):Xa L (x0,())=bT (Qv L (x0,())) fun y=>bif y != 0 then some [] else bif x0.1 == 1 then bT (WW L ([99,111,110,115,116],[x0.2],())) fun y=>some y else bif x0.1 == 2 then bT (WW L ([117,110,105,102,111,114,109],[x0.2,x0.3],())) fun y=>some y else bif x0.1 == 4 then bT (WW L ([115,117,109],[x0.4,x0.2,x0.3],())) fun y=>some y else bif x0.1 == 5 then bT (WW L ([103,101,111,109],[x0.2,x0.3],())) fun y=>some y else bT (OL [] [116,97,98,108,101]) fun y=>Zw (Qp x0) L (0,y,()):=by kernel_rfl
def YH (L:Nat)(x:(List (List UInt8))×PUnit):Option (List UInt8):=fT [Zm2] L O5 [] (.one .str) [.lst 1 .str] x
def VS (L:Nat):Sum tT:=mU 39 [.lst 1 .str] (.one .str) (YH L)
theorem UL:SX VS:=fun h=>sT h (Zn (Zqi h) ZU) rfl (by kernel_rfl) fun _=>rfl
theorem Zau (L:Nat)(x0:(List (List UInt8))):YH L (x0,())=bT (Zno x0 [32]) fun y=>some y:=by kernel_rfl
def V9 (L:Nat):Nat→List (Sum tT)
 | 0=>[⟨42,[.row 8],fun _=>.par _ none ((.one (.str):RD).tv tT)⟩]
 | m + 1=>[⟨42,[.row 8],fun x=>.par _ (fnT tF tG (qOf tF (V9 L m ++ [FI,VS L])) 0 L Jk [.rnd [.slot 3 (.own 1 (.str)),.slot 16 (.int .i64)]] (.one (.str)) (tvL tT [.row 8] x) []) ((.one (.str):RD).tv tT)⟩]
theorem Jv {C:Cfg}{L:Nat}(h:St C L):∀ m,∀ s ∈ V9 L m,QR C s
 | 0=>(Zn (VP _ _ _) ZU)
 | m + 1=>have ih:=Jv h m
  (Zn (WH Wh h.L h.G (QH Wh (Gj ih (Zn (Zc5 h) (Zn (UL h) ZU)))) [.rnd [.slot 3 (.own 1 (.str)),.slot 16 (.int .i64)]] (h.T _ _ rfl) (by kernel_rfl) fun _=>rfl) ZU)
def QQ (L m:Nat)(x:Zg×PUnit):Option ((List UInt8)):=fnT tF tG (qOf tF (V9 L m ++ [FI,VS L])) 0 L Jk [.rnd [.slot 3 (.own 1 (.str)),.slot 16 (.int .i64)]] (.one (.str)) (tvL tT [.row 8] x) []
def WJ (L:Nat)(x:Zg×PUnit):Option ((List UInt8)):=QQ L L x
def GH (L:Nat):Sum tT:=⟨42,[.row 8],fun x=>.par ((.one (.str):RD).Ty tT) (WJ L x) ((.one (.str):RD).tv tT)⟩
theorem NY {C:Cfg}{L:Nat}(h:St C L):QR C (GH L):=have ih:=Jv h L
 WH Wh h.L h.G (QH Wh (Gj ih (Zn (Zc5 h) (Zn (UL h) ZU)))) [.rnd [.slot 3 (.own 1 (.str)),.slot 16 (.int .i64)]] (h.T _ _ rfl) (by kernel_rfl) fun _=>rfl
def QN:Nat→Zg→Nat→(List (List UInt8)×Int×PUnit→Option (List UInt8))→List (List UInt8)×Int×PUnit→Option (List UInt8):=fun (m:Nat)=>fun x0 L self acc=>bif decide (acc.2.1 < (↑x0.4.length:Int)) then bT (ZP x0.4 acc.2.1) fun y=>bT (QQ L m (y,())) fun y=>bT (apT 16 acc.1 [y]) fun y=>self (y,Go.IntKind.i64.wrap (acc.2.1 + 1),()) else bT (YH L (acc.1,())) fun y=>bT (CB [40] y) fun y=>bT (CB y [41]) fun y=>some y
theorem NG (L m:Nat)(x0:Zg):QQ L (m + 1) (x0,())=bT (bT (VN x0.1) fun y=>some y) fun y=>bT (bT (VN x0.3) fun y=>some y) fun y_1=>Zw (QN m x0 L) L ([y,y_1],0,()):=by kernel_rfl
def J5 (L:Nat)(x:YO×PUnit):Option (List UInt8):=fB [FI,SH L,GH L,X7 L,VS L,JR L] L Dt [.rnd [.slot 13 (.int .i64),.cont 1 (.buf 93 5)],.rnd [.slot 48 (.int .i64),.cont 1 (.buf 93 5)]] (.one .str) [.row 16] x
def SC (L:Nat):Sum tT:=mU 18 [.row 16] (.one .str) (J5 L)
theorem Zew:SX SC:=fun h=>sB h (Zn (Zc5 h) (Zn (Zez h) (Zn (NY h) (Zn (JQ h) (Zn (UL h) (Zn (G6 h) ZU)))))) rfl (by kernel_rfl) fun _=>rfl
def YX:Nat→(Int×List UInt8×PUnit→Option (List UInt8))→Int×List UInt8×PUnit→Zx→List Zg→(Int×List UInt8×PUnit→Option (List UInt8))→Int×List UInt8×PUnit→Option (List UInt8):=fun L self acc y y_1 self_1 acc_1=>bif decide (acc_1.1 < (↑y_1.length:Int)) then bT (ZP y_1 acc_1.1) fun y=>bT (WJ L (y,())) fun y=>bT (CB [32] y) fun y=>bT (OL acc_1.2.1 y) fun y=>self_1 (Go.IntKind.i64.wrap (acc_1.1 + 1),y,()) else bif y.1 == 3 then bT (Xa L (y.8,())) fun y=>bT (CB [32] y) fun y=>bT (OL acc_1.2.1 y) fun y=>bT (OL y [10]) fun y=>self (Go.IntKind.i64.wrap (acc.1 + 1),y,()) else bT (OL acc_1.2.1 [10]) fun y=>self (Go.IntKind.i64.wrap (acc.1 + 1),y,())
def Rx:Nat→(Int×List UInt8×PUnit→Option (List UInt8))→Int×List UInt8×PUnit→Zx→List Zg→(Int×List UInt8×PUnit→Option (List UInt8))→Int×List UInt8×PUnit→Option (List UInt8):=fun L self acc y y_1 self_1 acc_1=>bif decide (acc_1.1 < (↑y_1.length:Int)) then bT (ZP y_1 acc_1.1) fun y=>bT (WJ L (y,())) fun y=>bT (CB [32] y) fun y=>bT (OL acc_1.2.1 y) fun y=>self_1 (Go.IntKind.i64.wrap (acc_1.1 + 1),y,()) else bif y.1 == 3 then bT (Xa L (y.8,())) fun y=>bT (CB [32] y) fun y=>bT (OL acc_1.2.1 y) fun y=>bT (OL y [10]) fun y=>self (Go.IntKind.i64.wrap (acc.1 + 1),y,()) else bT (OL acc_1.2.1 [10]) fun y=>self (Go.IntKind.i64.wrap (acc.1 + 1),y,())
def Ry:Nat→(Int×List UInt8×PUnit→Option (List UInt8))→Int×List UInt8×PUnit→Zx→List Zg→(Int×List UInt8×PUnit→Option (List UInt8))→Int×List UInt8×PUnit→Option (List UInt8):=fun L self acc y y_1 self_1 acc_1=>bif decide (acc_1.1 < (↑y_1.length:Int)) then bT (ZP y_1 acc_1.1) fun y=>bT (WJ L (y,())) fun y=>bT (CB [32] y) fun y=>bT (OL acc_1.2.1 y) fun y=>self_1 (Go.IntKind.i64.wrap (acc_1.1 + 1),y,()) else bif y.1 == 3 then bT (Xa L (y.8,())) fun y=>bT (CB [32] y) fun y=>bT (OL acc_1.2.1 y) fun y=>bT (OL y [10]) fun y=>self (Go.IntKind.i64.wrap (acc.1 + 1),y,()) else bT (OL acc_1.2.1 [10]) fun y=>self (Go.IntKind.i64.wrap (acc.1 + 1),y,())
def Rz:Nat→(Int×List UInt8×PUnit→Option (List UInt8))→Int×List UInt8×PUnit→Zx→List Zg→(Int×List UInt8×PUnit→Option (List UInt8))→Int×List UInt8×PUnit→Option (List UInt8):=fun L self acc y y_1 self_1 acc_1=>bif decide (acc_1.1 < (↑y_1.length:Int)) then bT (ZP y_1 acc_1.1) fun y=>bT (WJ L (y,())) fun y=>bT (CB [32] y) fun y=>bT (OL acc_1.2.1 y) fun y=>self_1 (Go.IntKind.i64.wrap (acc_1.1 + 1),y,()) else bif y.1 == 3 then bT (Xa L (y.8,())) fun y=>bT (CB [32] y) fun y=>bT (OL acc_1.2.1 y) fun y=>bT (OL y [10]) fun y=>self (Go.IntKind.i64.wrap (acc.1 + 1),y,()) else bT (OL acc_1.2.1 [10]) fun y=>self (Go.IntKind.i64.wrap (acc.1 + 1),y,())
def WP:YO→Nat→(Int×List UInt8×PUnit→Option (List UInt8))→Int×List UInt8×PUnit→Option (List UInt8):=fun x0 L self acc=>bif decide (acc.1 < (↑x0.4.length:Int)) then bT (ZP x0.4 acc.1) fun y=>bT (Xk L (y.1,())) fun y_1=>bif y_1 then bT (ZP Qb y.1) fun y_2=>bif y.9 then bT (bT (VN acc.1) fun y=>some y) fun y_3=>bT (bT (VN y.2) fun y=>some y) fun y_4=>bT (bT (VN y.3) fun y=>some y) fun y_5=>bT (bT (VN y.4) fun y=>some y) fun y_6=>bT (YH L ([y_3,y_2.1,y_4,y_5,y_6,[49]],())) fun y_7=>bT (OL acc.2.1 y_7) fun y_8=>bT (ZB L (y,())) fun y_9=>Zw (YX L self acc y y_9) L (0,y_8,()) else bT (bT (VN acc.1) fun y=>some y) fun y_3=>bT (bT (VN y.2) fun y=>some y) fun y_4=>bT (bT (VN y.3) fun y=>some y) fun y_5=>bT (bT (VN y.4) fun y=>some y) fun y_6=>bT (YH L ([y_3,y_2.1,y_4,y_5,y_6,[48]],())) fun y_7=>bT (OL acc.2.1 y_7) fun y_8=>bT (ZB L (y,())) fun y_9=>Zw (Rx L self acc y y_9) L (0,y_8,()) else bif y.9 then bT (bT (VN acc.1) fun y=>some y) fun y_2=>bT (bT (VN y.2) fun y=>some y) fun y_3=>bT (bT (VN y.3) fun y=>some y) fun y_4=>bT (bT (VN y.4) fun y=>some y) fun y_5=>bT (YH L ([y_2,[63],y_3,y_4,y_5,[49]],())) fun y_6=>bT (OL acc.2.1 y_6) fun y_7=>bT (ZB L (y,())) fun y_8=>Zw (Ry L self acc y y_8) L (0,y_7,()) else bT (bT (VN acc.1) fun y=>some y) fun y_2=>bT (bT (VN y.2) fun y=>some y) fun y_3=>bT (bT (VN y.3) fun y=>some y) fun y_4=>bT (bT (VN y.4) fun y=>some y) fun y_5=>bT (YH L ([y_2,[63],y_3,y_4,y_5,[48]],())) fun y_6=>bT (OL acc.2.1 y_6) fun y_7=>bT (ZB L (y,())) fun y_8=>Zw (Rz L self acc y y_8) L (0,y_7,()) else some acc.2.1
theorem ZdT (L:Nat)(x0:YO):J5 L (x0,())=Zw (WP x0 L) L (0,[],()):=by kernel_rfl
def JS (L:Nat)(x:YO×PUnit):Option (List ZaO):=fT [] L LX [.rnd [.slot 3 (.own 2 (.row 30)),.slot 9 (.int .i64)]] (.one (.lst 2 (.row 30))) [.row 16] x
def Bd (L:Nat):Sum tT:=mU 16 [.row 16] (.one (.lst 2 (.row 30))) (JS L)
theorem Zc1:SX Bd:=fun h=>sT h ZU rfl (by kernel_rfl) fun _=>rfl
def YW:YO→(List ZaO×Int×PUnit→Option (List ZaO))→List ZaO×Int×PUnit→Option (List ZaO):=fun x0 self acc=>bif decide (acc.2.1 < (↑x0.4.length:Int)) then bT (ZP x0.4 acc.2.1) fun y=>bif y.1 == 4 || y.1 == 5 then bT (apT 16 acc.1 [ZaO.mk acc.2.1 y.2]) fun y=>self (y,Go.IntKind.i64.wrap (acc.2.1 + 1),()) else self (acc.1,Go.IntKind.i64.wrap (acc.2.1 + 1),()) else some acc.1
theorem Zcm (L:Nat)(x0:YO):JS L (x0,())=Zw (YW x0) L ([],0,()):=by kernel_rfl
def XR (L:Nat)(x:Z9×YO×YO×PUnit):Option Bool:=fT [ZjD,KH L,SC L,Bd L,Il L,UR L,SK L] L Uj [.rnd [.slot 8 (.int .i64)]] (.one .bool) [.row 19,.row 16,.row 16] x
def LM (L:Nat):Sum tT:=mU 6 [.row 19,.row 16,.row 16] (.one .bool) (XR L)
theorem L6:SX LM:=fun h=>sT h (Zn (Zoo h) (Zn (BM h) (Zn (Zew h) (Zn (Zc1 h) (Zn (EQ h) (Zn (TK h) (Zn (Ze1 h) ZU))))))) rfl (by kernel_rfl) fun _=>rfl
def Qh:YO→YO→Nat→List ZaO→(Int×PUnit→Option Bool)→Int×PUnit→Option Bool:=fun x1 x2 L y self acc=>bif decide (acc.1 < (↑y.length:Int)) then bT (ZP y acc.1) fun y_1=>bT (bif decide (y_1.1 < 0) == false then bT (ZP y acc.1) fun y=>some (decide (y.1 ≥ (↑x1.4.length:Int))) else some true) fun y_2=>bT (bif y_2 == false then bT (ZP y acc.1) fun y=>some (decide (y.2 < 0)) else some true) fun y_3=>bT (bif y_3 == false then bT (ZP y acc.1) fun y=>some (decide (y.2 ≥ (↑x1.4.length:Int))) else some true) fun y_4=>bT (bif y_4 == false then bif decide (acc.1 > 0) == true then bT (ZP y (Go.IntKind.i64.wrap (acc.1 - 1))) fun y_5=>bT (ZP y acc.1) fun y=>some (decide (y_5.1 ≥ y.1)) else some false else some true) fun y=>bif y then some false else self (Go.IntKind.i64.wrap (acc.1 + 1),()) else bT (bT (J5 L (x1,())) fun y=>some y) fun y=>bT (bT (J5 L (x2,())) fun y=>some y) fun y_1=>bT (bT (QP L (x1.4,x2.4,())) fun y=>some y) fun y_2=>some ((y == y_1) == y_2 && true)
theorem Ls (L:Nat)(x0:Z9)(x1:YO)(x2:YO):XR L (x0,x1,x2,())=bT (UX L (x0,())) fun y=>bT (bif (!y) == false then bT (WX L (x1,())) fun y=>some !y else some true) fun y=>bT (bif y == false then bT (WX L (x2,())) fun y=>some !y else some true) fun y=>bT (bif y == false then bT (QK L (x0,0,x1,())) fun y=>some (y != 0) else some true) fun y=>bT (bif y == false then bT (QK L (x0,0,x2,())) fun y=>some (y != 0) else some true) fun y=>bif y then some true else bT (JS L (x1,())) fun y=>Zw (Qh x1 x2 L y) L (0,()):=by kernel_rfl
end Go.Proofs.YtleomfgijkapfaaGreatDoor
end
section
namespace Go.Proofs.YtleomfgijkapfaaGreatDoor
open Go Go.Proofs.YtleomfgijkapfaaGreatDoor.Abs Go.Proofs.YtleomfgijkapfaaGreatDoor.Tl
set_option maxRecDepth 100000
abbrev bd (n:Int):Prop:=-9223372036854775808≤n∧n≤9223372036854775807
theorem UB {β:Type}{a b:List UInt8}{k:List UInt8→Option β}(h:a.length + b.length≤4611686018427387904):bT (CB a b) k=k (a ++ b):=by unfold CB; rw [if_pos h]; rfl
theorem I5 {β:Type}{a b:List UInt8}{k:List UInt8→Option β}(h:a.length + b.length≤140737488355328)(h2:0 < a.length + b.length):bT (OL a b) k=k (a ++ b):=by
 unfold OL
 rw [if_pos ⟨h,fun e=>by have:=congrArg List.length e; rw [List.length_append,List.length_nil] at this; omega⟩]; rfl
theorem UG {n:Int}(h:bd n):VN n=some (Lib.itoa n):=if_pos h
theorem Wy {n:Int}(h:bd n):(Lib.itoa n).length≤21:=Lib.itoa_length_le n h.1 h.2
theorem Znw {τ α σ ρ:Type}{f:(τ→Option ρ)→τ→Option ρ}(l:List α)(pk:σ→Int→τ)(R:List α→σ→Option ρ)(P:List α→σ→Prop)
  (h1:∀ self s (i:Nat) x r,P (x :: r) s→l[i]? = some x→i < l.length→x ∈ l→(∀ s',P r s'→self (pk s' ((i:Int) + 1))=R r s')→f self (pk s i)=R (x :: r) s)
  (h2:∀ self s,P [] s→f self (pk s (l.length:Nat))=R [] s):∀ (m i:Nat) (s:σ),P (l.drop i) s→i≤l.length→l.length - i < m→Zw f m (pk s i)=R (l.drop i) s
 | 0,_,_,_,_,h=>absurd h (Nat.not_lt_zero _)
 | m + 1,i,s,hP,hi,hm=>by
  show f (Zw f m) (pk s i)=_
  rcases Nat.lt_or_ge i l.length with hlt | hge
  ·have hx:=List.getElem?_eq_getElem hlt
   rw [List.drop_eq_getElem_cons hlt] at hP ⊢
   exact h1 _ s i _ _ hP hx hlt (List.getElem_mem hlt) fun s' hP'=>Znw l pk R P h1 h2 m (i + 1) s' hP' hlt (by omega)
  ·have:i=l.length:=by omega
   subst this
   rw [List.drop_length] at hP ⊢
   exact h2 _ s hP
theorem Zmg {α σ ρ:Type}{f:(σ×Int×PUnit→Option ρ)→σ×Int×PUnit→Option ρ}(l:List α)(R:List α→σ→Option ρ)(P:List α→σ→Prop){m:Nat}(hm:l.length < m)(s:σ)(hP:P l s)
  (h1:∀ self s (i:Nat) x r,P (x :: r) s→l[i]? = some x→i < l.length→x ∈ l→(∀ s',P r s'→self (s',(i:Int) + 1,())=R r s')→f self (s,(i:Int),())=R (x :: r) s)
  (h2:∀ self s,P [] s→f self (s,(l.length:Int),())=R [] s):Zw f m (s,0,())=R l s :=
 Znw l (fun s i=>(s,i,())) R P h1 h2 m 0 s hP (Nat.zero_le _) (by omega)
mutual
def Jq:Zg→List UInt8
 | ⟨o,_,n,ks⟩=>40 :: (Lib.itoa o ++ (32 :: (Lib.itoa n ++ (ZW ks ++ [41]))))
def ZW:List Zg→List UInt8
 | []=>[]
 | e :: l=>32 :: (Jq e ++ ZW l)
end
theorem Zf2 (e:Zg):Jq e=40 :: (Lib.itoa e.Op ++ (32 :: (Lib.itoa e.N ++ (ZW e.Kids ++ [41])))):=by cases e; rw [Jq]
theorem Ll:∀ {l:List Zg} {x:Zg},x ∈ l→(Jq x).length + 1≤(ZW l).length
 | y :: l,x,h=>by
  rw [ZW,List.length_cons,List.length_append]
  rcases List.mem_cons.1 h with rfl | h
  ·omega
  ·have:=Ll h; omega
theorem Lj:∀ l m:List Zg,ZW (l ++ m)=ZW l ++ ZW m
 | [],m=>by rw [ZW]; rfl
 | x :: l,m=>by rw [List.cons_append,ZW,ZW,Lj l m]; simp
theorem ZkT (e:Zg):(ZW e.Kids).length≤(Jq e).length:=by rw [Zf2]; simp; omega
theorem IL (a b:List UInt8)(l:List (List UInt8)):Lib.join (a :: b :: l) [32]=a ++ (32 :: Lib.join (b :: l) [32]):=by
 simp [Lib.join,List.intercalate_cons_cons]
theorem Zmd (a:List UInt8):Lib.join [a] [32]=a:=by simp [Lib.join]
theorem Zft:∀ (a:List UInt8) (l:List Zg),Lib.join (a :: l.map Jq) [32]=a ++ ZW l
 | a,[]=>by rw [List.map_nil,Zmd,ZW,List.append_nil]
 | a,x :: l=>by rw [List.map_cons,IL,Zft (Jq x) l,ZW]
theorem Znp {l:List (List UInt8)}(h1:l.length≤140737488355328)(h2:(Lib.join l [32]).length≤140737488355328):Zno l [32]=some (Lib.join l [32]):=if_pos ⟨h1,h2⟩
theorem ZfB (L:Nat){l:List (List UInt8)}(h1:l.length≤140737488355328)(h2:(Lib.join l [32]).length≤140737488355328):YH L (l,())=some (Lib.join l [32]):=by rw [Zau,Znp h1 h2]; rfl
theorem apN {l m:List (List UInt8)}(h:(l.length + m.length) * 16≤140737488355328):apT 16 l m=some (l ++ m):=by unfold apT; rw [if_pos h]
theorem ZfG (L:Nat):∀ (m:Nat) (e:Zg),ZL e→SizeOf.sizeOf e≤m→m≤L→(Jq e).length≤70368744177664→QQ L m (e,())=some (Jq e)
 | 0,e,_,h,_,_=>absurd h (by have:=Ik e; omega)
 | m + 1,e,ok,h,hm,hb=>by
  have hk:=Z7 e.Kids; have hz:=Zj5 e; have hl:=ok.k; have hn:=ZkT e
  have hK:=ok.Kids.1
  have ej:Lib.join (Lib.itoa e.Op :: Lib.itoa e.N :: e.Kids.map Jq) [32]=Lib.itoa e.Op ++ (32 :: (Lib.itoa e.N ++ ZW e.Kids)):=by rw [IL,Zft]
  have a1:=Wy ok.Op; have a2:=Wy ok.N
  have lj:(Lib.join (Lib.itoa e.Op :: Lib.itoa e.N :: e.Kids.map Jq) [32]).length≤70368744177664 + 100:=by rw [ej]; simp only [List.length_append,List.length_cons]; omega
  have lp:Zw (QN m e L) L ([Lib.itoa e.Op,Lib.itoa e.N],0,())=some (Jq e) :=
   Zmg e.Kids (fun _ _=>some (Jq e)) (fun r s=>s ++ r.map Jq=Lib.itoa e.Op :: Lib.itoa e.N :: e.Kids.map Jq) (by omega) _ rfl (fun self s i x r hP hx hi mem e'=>by
    have:=Ll mem
    have ih:=ZfG L m x (ok.Kids.2 x mem) (by have:=OZ mem; omega) (by omega) (by omega)
    have hlen:s.length + (r.length + 1)=e.Kids.length + 2:=by have:=congrArg List.length hP; simpa using this
    rw [QN]
    simp only [Zi hi,cond_true,Zf,hx,ZG,ih,wrap_succ hi (by omega)]
    rw [apN (by simp only [List.length_cons,List.length_nil]; omega),ZG]
    exact e' _ (by rw [← hP]; simp)) (fun self s hP=>by
    rw [List.map_nil,List.append_nil] at hP
    subst hP
    rw [QN]
    simp only [Zd,cond_false]
    rw [ZfB L (by simp only [List.length_cons,List.length_map]; omega) (by omega),ZG,ej,UB (by rw [ej] at lj; simp only [List.length_cons,List.length_nil] at lj ⊢; omega),UB (by rw [ej] at lj; simp only [List.length_append,List.length_cons,List.length_nil] at lj ⊢; omega),Zf2]
    simp)
  rw [NG,UG ok.Op,UG ok.N]
  simp only [ZG]
  exact lp
theorem ZnR (L:Nat)(e:Zg)(ok:ZL e)(h:SizeOf.sizeOf e≤L)(hb:(Jq e).length≤70368744177664):WJ L (e,())=some (Jq e):=ZfG L L e ok h (Nat.le_refl _) hb
def argX:List Int→List UInt8
 | []=>[]
 | n :: l=>32 :: (Lib.itoa n ++ argX l)
def Eg:List Int→List Int→List UInt8
 | v :: vs,w :: ws=>32 :: (Lib.itoa v ++ (58 :: (Lib.itoa w ++ Eg vs ws)))
 | _,_=>[]
def OU (d:ZX):List UInt8 :=
 if decide (XJ d≠0)=true then [] else if decide (d.Op=1)=true then [99,111,110,115,116] ++ argX [d.A] else if decide (d.Op=2)=true then [117,110,105,102,111,114,109] ++ argX [d.A,d.B]
 else if decide (d.Op=4)=true then [115,117,109] ++ argX [d.N,d.A,d.B] else if decide (d.Op=5)=true then [103,101,111,109] ++ argX [d.A,d.B] else [116,97,98,108,101] ++ Eg d.Values d.Weights
theorem ZjA {d:ZX}(h:XJ d=0)(h1:d.Op≠1)(h2:d.Op≠2)(h4:d.Op≠4)(h5:d.Op≠5):d.Values.length=d.Weights.length∧d.Values.length≤20:=by
 unfold XJ at h
 simp only [h1,h2,h4,h5,decide_false,Bool.false_eq_true,if_false] at h
 split at h
 ·cases h
 split at h
 ·split at h
  ·cases h
  rename_i a
  split at h
  ·cases h
  split at h
  ·cases h
  rename_i b
  simp at a b
  omega
 ·cases h
theorem Zj9:∀ l m:List Int,(∀ x ∈ l,bd x)→(∀ x ∈ m,bd x)→(Eg l m).length≤44 * l.length
 | [],_,_,_=>by simp [Eg]
 | _ :: _,[],_,_=>by simp [Eg]
 | n :: l,k :: m,h,h'=>by
  have a:=Wy (h n (List.mem_cons_self ..)); have a':=Wy (h' k (List.mem_cons_self ..))
  have b:=Zj9 l m (fun x hx=>h x (List.mem_cons_of_mem _ hx)) fun x hx=>h' x (List.mem_cons_of_mem _ hx)
  simp only [Eg,List.length_cons,List.length_append]; omega
theorem BR (L:Nat)(w:List UInt8)(l:List Int)(hw:w.length≤100)(hl:l.length≤10)(hL:1000≤L)(h:∀ x ∈ l,bd x):WW L (w,l,())=some (w ++ argX l):=by
 rw [Zav]
 exact Zmg l (fun r s=>some (s ++ argX r)) (fun r s=>s.length + 22 * r.length≤1000) (by omega) w (by omega) (fun self s i x r hP hx hi mem e'=>by
  have a:=Wy (h x mem)
  rw [List.length_cons] at hP
  rw [Uc]
  simp only [Zi hi,cond_true,Zf,hx,ZG,UG (h x mem),wrap_succ hi (by omega)]
  rw [UB (by simp only [List.length_cons,List.length_nil]; omega),UB (by simp only [List.length_append,List.length_cons,List.length_nil]; omega),e' _ (by simp only [List.length_append,List.length_cons,List.length_nil]; omega)]
  simp [argX]) (fun self s hP=>by rw [Uc]; simp only [Zd,cond_false,argX,List.append_nil])
end Go.Proofs.YtleomfgijkapfaaGreatDoor
end
section
namespace Go.Proofs.YtleomfgijkapfaaGreatDoor
open Go Go.Proofs.YtleomfgijkapfaaGreatDoor.Abs Go.Proofs.YtleomfgijkapfaaGreatDoor.Tl
set_option maxRecDepth 100000
theorem ZnT (L:Nat)(d:ZX)(ok:QE d)(h:SizeOf.sizeOf d < L)(h1:1000≤L):Xa L (d,())=some (OU d):=by
 have oA:=ok.A; have oB:=ok.B; have oN:=ok.N
 rw [ZdW,NC L d ok h (by omega),ZG,Ya]
 unfold OU
 by_cases e0:XJ d=0
 rotate_left
 ·simp [e0]
 by_cases e1:d.Op=1
 ·simp only [e0,e1,Yb,decide_true,decide_false,Bool.not_true,cond_false,cond_true,ne_eq,not_true_eq_false,Bool.false_eq_true,if_false,if_true]
  rw [BR L _ _ (by decide) (by simp) h1 (by intro x hx; simp at hx; subst hx; exact oA)]; rfl
 by_cases e2:d.Op=2
 ·simp only [e0,e2,Yb,decide_true,decide_false,Bool.not_true,cond_false,cond_true,ne_eq,not_true_eq_false,Bool.false_eq_true,if_false,if_true,show decide ((2:Int)=1)=false from rfl]
  rw [BR L _ _ (by decide) (by simp) h1 (by intro x hx; simp at hx; rcases hx with rfl | rfl; exact oA; exact oB)]; rfl
 by_cases e4:d.Op=4
 ·simp only [e0,e4,Yb,decide_true,decide_false,Bool.not_true,cond_false,cond_true,ne_eq,not_true_eq_false,Bool.false_eq_true,if_false,if_true,show decide ((4:Int)=1)=false from rfl,show decide ((4:Int)=2)=false from rfl]
  rw [BR L _ _ (by decide) (by simp) h1 (by intro x hx; simp at hx; rcases hx with rfl | rfl | rfl; exact oN; exact oA; exact oB)]; rfl
 by_cases e5:d.Op=5
 ·simp only [e0,e5,Yb,decide_true,decide_false,Bool.not_true,cond_false,cond_true,ne_eq,not_true_eq_false,Bool.false_eq_true,if_false,if_true,show decide ((5:Int)=1)=false from rfl,show decide ((5:Int)=2)=false from rfl,show decide ((5:Int)=4)=false from rfl]
  rw [BR L _ _ (by decide) (by simp) h1 (by intro x hx; simp at hx; rcases hx with rfl | rfl; exact oA; exact oB)]; rfl
 obtain ⟨f1,f2⟩:=ZjA e0 e1 e2 e4 e5
 simp only [e0,e1,e2,e4,e5,Yb,decide_true,decide_false,Bool.not_true,cond_false,ne_eq,not_true_eq_false,Bool.false_eq_true,if_false]
 rw [I5 (by decide) (by decide)]
 have key:∀ (m i:Nat) (s:List UInt8),i≤d.Values.length→d.Values.length - i < m→s.length + 44 * (d.Values.length - i)≤2000→Zw (Qp d) m ((i:Int),s,())=some (s ++ Eg (d.Values.drop i) (d.Weights.drop i)):=by
  intro m
  induction m with
  | zero=>intro i s _ h; exact absurd h (Nat.not_lt_zero _)
  | succ m ih =>
   intro i s hi hm hs
   show Qp d (Zw (Qp d) m) ((i:Int),s,())=_
   rcases Nat.lt_or_ge i d.Values.length with hlt | hge
   ·have hx:=List.getElem?_eq_getElem hlt
    have hy:=List.getElem?_eq_getElem (show i < d.Weights.length by omega)
    rw [List.drop_eq_getElem_cons hlt,List.drop_eq_getElem_cons (show i < d.Weights.length by omega),Eg]
    have b1:=ok.Values.2 _ (List.getElem_mem hlt); have b2:=ok.Weights.2 _ (List.getElem_mem (show i < d.Weights.length by omega))
    generalize d.Values[i]=x at hx b1
    generalize d.Weights[i]=y at hy b2
    have a1:=Wy b1; have a2:=Wy b2
    rw [Qp]
    simp only [Zi hlt,cond_true,Zf,hx,hy,ZG,UG b1,UG b2,wrap_succ hlt (by omega)]
    rw [UB (by simp only [List.length_cons,List.length_nil]; omega),UB (by simp only [List.length_append,List.length_cons,List.length_nil]; omega),UB (by simp only [List.length_append,List.length_cons,List.length_nil]; omega),I5 (by simp only [List.length_append,List.length_cons,List.length_nil]; omega) (by simp only [List.length_append,List.length_cons,List.length_nil]; omega)]
    have:=ih (i + 1) (s ++ (([32] ++ Lib.itoa x ++ [58]) ++ Lib.itoa y)) hlt (by omega) (by simp only [List.length_append,List.length_cons,List.length_nil]; omega)
    refine (show _=Zw (Qp d) m (((i + 1:Nat):Int),_,()) from rfl).trans (this.trans ?_)
    simp
   ·have:i=d.Values.length:=by omega
    subst this
    rw [Qp,List.drop_length]; simp only [Zd,cond_false]
    rw [show Eg [] (d.Weights.drop d.Values.length)=[] by simp [Eg],List.append_nil]
 have:=key L 0 ([] ++ [116,97,98,108,101]) (Nat.zero_le _) (by omega) (by simp; omega)
 rw [List.drop_zero,List.drop_zero] at this
 exact this
theorem Zfd (d:ZX)(ok:QE d):(OU d).length≤1000:=by
 have oA:=ok.A; have oB:=ok.B; have oN:=ok.N
 have aA:=Wy oA; have aB:=Wy oB; have aN:=Wy oN
 unfold OU
 by_cases e0:XJ d=0
 rotate_left
 ·simp [e0]
 by_cases e1:d.Op=1
 ·simp [e0,e1,argX]; omega
 by_cases e2:d.Op=2
 ·simp [e0,e2,argX]; omega
 by_cases e4:d.Op=4
 ·simp [e0,e4,argX]; omega
 by_cases e5:d.Op=5
 ·simp [e0,e5,argX]; omega
 obtain ⟨f1,f2⟩:=ZjA e0 e1 e2 e4 e5
 have:=Zj9 d.Values d.Weights ok.Values.2 ok.Weights.2
 simp [e0,e1,e2,e4,e5]; omega
end Go.Proofs.YtleomfgijkapfaaGreatDoor
end
section
namespace Go.Proofs.YtleomfgijkapfaaGreatDoor
open Go Go.Proofs.YtleomfgijkapfaaGreatDoor.Abs Go.Proofs.YtleomfgijkapfaaGreatDoor.Tl
set_option maxRecDepth 100000
theorem AU (L:Nat)(op:Int)(h:1≤op∧op≤19):∃ f g gs,ZP Qb op=some f∧Oy L ()=some gs∧ZP gs op=some g∧Rel op f g∧g.Word=f.word∧f.word.length≤20:=by
 have:op=1∨op=2∨op=3∨op=4∨op=5∨op=6∨op=7∨op=8∨op=9∨op=10∨op=11∨op=12∨op=13∨op=14∨op=15∨op=16∨op=17∨op=18∨op=19:=by omega
 rcases this with rfl | rfl | rfl | rfl | rfl | rfl | rfl | rfl | rfl | rfl | rfl | rfl | rfl | rfl | rfl | rfl | rfl | rfl | rfl <;>
  exact ⟨_,_,_,rfl,NJ L,rfl,⟨rfl,rfl,rfl,rfl,rfl,rfl,rfl,by decide,by decide,by decide,by decide,by decide,by decide,by decide,by decide⟩,rfl,by decide⟩
def Md (op:Int):List UInt8:=if btw op 1 19=true then (match ZP Qb op with | some f=>f.word | none=>[]) else [63]
def esX (i:Zx):List Zg:=if btw i.Op 1 19=true then (match ZP Qb i.Op with | some f=>EF f i | none=>[]) else []
def ZcD (i:Zx):List UInt8:=if decide (i.Op=3)=true then 32 :: OU i.Dist else []
def UF (n:Int)(i:Zx):List UInt8:=Lib.itoa n ++ (32 :: (Md i.Op ++ (32 :: (Lib.itoa i.A ++ (32 :: (Lib.itoa i.B ++ (32 :: (Lib.itoa i.C ++ (32 :: (bif i.Flag then [49] else [48]))))))))))
def Tc (n:Int)(i:Zx):List UInt8:=UF n i ++ (ZW (esX i) ++ (ZcD i ++ [10]))
theorem ZlH (op:Int):(Md op).length≤20:=by
 unfold Md
 split
 ·rename_i h
  have h':1≤op∧op≤19:=by simpa [btw] using h
  obtain ⟨f,g,gs,h1,h2,h3,h4,h5,h6⟩:=AU 0 op h'
  rw [h1]; exact h6
 ·decide
theorem Zfn {n:Int}(i:Zx)(ok:Xp i)(hn:bd n):(UF n i).length≤200:=by
 have a1:=Wy hn; have a2:=Wy ok.A; have a3:=Wy ok.B; have a4:=Wy ok.C; have a5:=ZlH i.Op
 unfold UF
 cases i.Flag <;> simp only [List.length_append,List.length_cons,List.length_nil,cond_true,cond_false] <;> omega
theorem Zpb (i:Zx)(ok:Xp i):(esX i).length≤4611686018427387∧(esX i).length≤2 + i.Args.length∧∀ x ∈ esX i,ZL x∧SizeOf.sizeOf x < SizeOf.sizeOf i:=by
 unfold esX
 split
 ·split
  ·exact Zpc _ i ok
  ·exact ⟨by simp,by simp,fun x h=>by cases h⟩
 ·exact ⟨by simp,by simp,fun x h=>by cases h⟩
def VQ:Int→List Zx→List UInt8
 | _,[]=>[]
 | n,x :: r=>Tc n x ++ VQ (n + 1) r
theorem cl1:Rx=YX:=rfl
theorem cl2:Ry=YX:=rfl
theorem cl3:Rz=YX:=rfl
theorem Zg1 (L:Nat)(self:Int×List UInt8×PUnit→Option (List UInt8))(n:Nat)(hn:n < 4611686018427387904)(s0:List UInt8)(i:Zx)(ok:Xp i)(h:2 * SizeOf.sizeOf i < L)(h1:1000≤L)(s:List UInt8)(hs:s.length + (ZW (esX i)).length≤70368744177664):Zw (YX L self ((n:Int),s0,()) i (esX i)) L (0,s,())=self ((n:Int) + 1,s ++ (ZW (esX i) ++ (ZcD i ++ [10])),()):=by
 obtain ⟨k1,k2,k3⟩:=Zpb i ok
 have hz:=ZcC i; have hl:=Z7 i.Args
 have hd:=Zfd i.Dist ok.Dist
 have hw:IntKind.i64.wrap ((n:Int) + 1)=(n:Int) + 1:=wrap_in (by omega) (by omega)
 have:=Znw (f := YX L self ((n:Int),s0,()) i (esX i)) (esX i) (fun s k=>(k,s,())) (fun r s=>self ((n:Int) + 1,s ++ (ZW r ++ (ZcD i ++ [10])),())) (fun r s=>s.length + (ZW r).length≤70368744177664) (fun self1 s k x r hP hx hi mem e'=>by
  rw [ZW,List.length_cons,List.length_append] at hP
  have hm:=Ll mem
  have ih:=ZnR L x (k3 x mem).1 (by have:=(k3 x mem).2; omega) (by omega)
  rw [YX]
  simp only [Zi hi,cond_true,Zf,hx,ZG,ih,wrap_succ hi (by omega)]
  rw [UB (by simp only [List.length_cons,List.length_nil]; omega),I5 (by simp only [List.length_append,List.length_cons,List.length_nil]; omega) (by simp only [List.length_append,List.length_cons,List.length_nil]; omega),e' _ (by simp only [List.length_append,List.length_cons,List.length_nil]; omega),ZW]
  simp) (fun self1 s hP=>by
  rw [ZW] at hP
  rw [YX,ZW]
  simp only [Zd,cond_false,Yb,List.nil_append,hw]
  simp only [List.length_nil] at hP
  unfold ZcD
  by_cases e3:i.Op=3
  ·simp only [e3,decide_true,cond_true,if_true]
   rw [ZnT L i.Dist ok.Dist (by omega) h1,ZG,UB (by simp only [List.length_cons,List.length_nil]; omega),I5 (by simp only [List.length_append,List.length_cons,List.length_nil]; omega) (by simp only [List.length_append,List.length_cons,List.length_nil]; omega),I5 (by simp only [List.length_append,List.length_cons,List.length_nil]; omega) (by simp only [List.length_append,List.length_cons,List.length_nil]; omega)]
   simp
  ·simp only [e3,decide_false,cond_false,Bool.false_eq_true,if_false]
   rw [I5 (by simp only [List.length_append,List.length_cons,List.length_nil]; omega) (by simp only [List.length_append,List.length_cons,List.length_nil]; omega)]
   simp) L 0 s hs (Nat.zero_le _) (by omega)
 rw [List.drop_zero] at this
 exact this
end Go.Proofs.YtleomfgijkapfaaGreatDoor
end
section
namespace Go.Proofs.YtleomfgijkapfaaGreatDoor
open Go Go.Proofs.YtleomfgijkapfaaGreatDoor.Abs Go.Proofs.YtleomfgijkapfaaGreatDoor.Tl
set_option maxRecDepth 100000
theorem Zrg (a b c d e f:List UInt8):Lib.join [a,b,c,d,e,f] [32]=a ++ (32 :: (b ++ (32 :: (c ++ (32 :: (d ++ (32 :: (e ++ (32 :: f))))))))):=by rw [IL,IL,IL,IL,IL,Zmd]
theorem Zjc (L:Nat)(c:YO)(ok:LV c)(h:2 * SizeOf.sizeOf c < L)(h1:1000≤L)(hb:(VQ 0 c.Instrs).length≤70368744177664):J5 L (c,())=some (VQ 0 c.Instrs):=by
 have hz:=LJ c; have hl:=Z7 c.Instrs; have hI:=ok.Instrs.1
 rw [ZdT]
 have key:∀ (m i:Nat) (s:List UInt8),i≤c.Instrs.length→c.Instrs.length - i < m→s.length + (VQ i (c.Instrs.drop i)).length≤70368744177664→Zw (WP c L) m ((i:Int),s,())=some (s ++ VQ i (c.Instrs.drop i)):=by
  intro m
  induction m with
  | zero=>intro i s _ h; exact absurd h (Nat.not_lt_zero _)
  | succ m ih =>
   intro i s hi hm hs
   show WP c L (Zw (WP c L) m) ((i:Int),s,())=_
   rcases Nat.lt_or_ge i c.Instrs.length with hlt | hge
   ·have hx:=List.getElem?_eq_getElem hlt
    have mem:=List.getElem_mem hlt
    rw [List.drop_eq_getElem_cons hlt,VQ] at hs ⊢
    generalize c.Instrs[i]=x at hx hs mem
    rw [List.length_append] at hs
    have hsz:=List.sizeOf_lt_of_mem mem
    have oki:=ok.Instrs.2 x mem
    have bi:bd (i:Int):=⟨by omega,by omega⟩
    have hh:=Zfn x oki bi
    have hln:(Tc (i:Int) x).length=(UF (i:Int) x).length + ((ZW (esX x)).length + ((ZcD x).length + 1)):=by unfold Tc; simp only [List.length_append,List.length_cons,List.length_nil]
    have nx:=ih (i + 1) (s ++ Tc (i:Int) x) hlt (by omega) (by rw [List.length_append]; push_cast at hs ⊢; omega)
    have fin:∀ w f:List UInt8,Md x.Op=w→(bif x.Flag then [49] else [48])=f→bT (YH L ([Lib.itoa (i:Int),w,Lib.itoa x.A,Lib.itoa x.B,Lib.itoa x.C,f],())) (fun y=>bT (OL s y) fun y=>Zw (YX L (Zw (WP c L) m) ((i:Int),s,()) x (esX x)) L (0,y,()))=some (s ++ (Tc (i:Int) x ++ VQ ((i:Int) + 1) (c.Instrs.drop (i + 1)))):=by
     intro w f hw hf
     have ej:Lib.join [Lib.itoa (i:Int),w,Lib.itoa x.A,Lib.itoa x.B,Lib.itoa x.C,f] [32]=UF (i:Int) x:=by rw [Zrg,UF,hw,hf]
     have hp:0 < (UF (i:Int) x).length:=by unfold UF; simp only [List.length_append,List.length_cons]; omega
     rw [ZfB L (by simp only [List.length_cons,List.length_nil]; omega) (by rw [ej]; omega),ZG,ej,I5 (by omega) (by omega),Zg1 L _ i (by omega) s x oki (by omega) h1 _ (by rw [List.length_append]; omega)]
     refine (show _=Zw (WP c L) m (((i + 1:Nat):Int),s ++ Tc (i:Int) x,()) by rw [Tc,List.append_assoc]; rfl).trans (nx.trans ?_)
     rw [List.append_assoc]; rfl
    rw [WP,cl1,cl2,cl3]
    simp only [Zi hlt,cond_true,Zf,hx,ZG,Tn,UG bi,UG oki.A,UG oki.B,UG oki.C]
    cases hk:btw x.Op 1 19 with
    | true =>
     have h':1≤x.Op∧x.Op≤19:=by simpa [btw] using hk
     obtain ⟨f,g,gs,w1,w2,w3,w4,w5,w6⟩:=AU L x.Op h'
     have he:ZB L (x,())=some (esX x):=by rw [Zf9 L x oki hk f w1,esX,if_pos hk,w1]
     have hw:Md x.Op=f.word:=by rw [Md,if_pos hk,w1]
     rw [w1]
     simp only [ZG,cond_true,he]
     cases hf:x.Flag
     ·exact fin f.word [48] hw (by rw [hf]; rfl)
     ·exact fin f.word [49] hw (by rw [hf]; rfl)
    | false =>
     have he:ZB L (x,())=some (esX x):=by rw [JM,Tn,hk,esX,if_neg (by simp [hk])]; rfl
     have hw:Md x.Op=[63]:=by rw [Md,if_neg (by simp [hk])]
     simp only [ZG,cond_false,he]
     cases hf:x.Flag
     ·exact fin [63] [48] hw (by rw [hf]; rfl)
     ·exact fin [63] [49] hw (by rw [hf]; rfl)
   ·have:i=c.Instrs.length:=by omega
    subst this
    rw [WP,List.drop_length,VQ,List.append_nil]; simp only [Zd,cond_false]
 have:=key L 0 [] (Nat.zero_le _) (by omega) (by simpa using hb)
 rw [List.drop_zero] at this
 exact this
def Hw:Int→List Zx→List ZaO
 | _,[]=>[]
 | n,x :: r=>(if (decide (x.Op=4) || decide (x.Op=5))=true then [⟨n,x.A⟩] else []) ++ Hw (n + 1) r
theorem apJ {l m:List ZaO}(h:(l.length + m.length) * 16≤140737488355328):apT 16 l m=some (l ++ m):=by unfold apT; rw [if_pos h]
theorem Zlo (L:Nat)(c:YO)(ok:LV c)(h:SizeOf.sizeOf c < L):JS L (c,())=some (Hw 0 c.Instrs):=by
 have hz:=LJ c; have hl:=Z7 c.Instrs; have hI:=ok.Instrs.1
 rw [Zcm]
 have key:∀ (m i:Nat) (s:List ZaO),i≤c.Instrs.length→c.Instrs.length - i < m→s.length≤i→Zw (YW c) m (s,(i:Int),())=some (s ++ Hw i (c.Instrs.drop i)):=by
  intro m
  induction m with
  | zero=>intro i s _ h; exact absurd h (Nat.not_lt_zero _)
  | succ m ih =>
   intro i s hi hm hs
   show YW c (Zw (YW c) m) (s,(i:Int),())=_
   rcases Nat.lt_or_ge i c.Instrs.length with hlt | hge
   ·have hx:=List.getElem?_eq_getElem hlt
    rw [List.drop_eq_getElem_cons hlt,Hw]
    generalize c.Instrs[i]=x at hx
    rw [YW]
    simp only [Zi hlt,cond_true,Zf,hx,ZG,Yb,wrap_succ hlt (by omega)]
    cases hj:(decide (x.Op=4) || decide (x.Op=5)) with
    | true =>
     rw [cond_true,apJ (by simp only [List.length_cons,List.length_nil]; omega),ZG,if_pos rfl]
     refine (show _=Zw (YW c) m (s ++ [⟨(i:Int),x.A⟩],((i + 1:Nat):Int),()) from rfl).trans ((ih (i + 1) _ hlt (by omega) (by simp; omega)).trans ?_)
     rw [List.append_assoc]; rfl
    | false =>
     rw [cond_false,if_neg (by simp)]
     exact (show _=Zw (YW c) m (s,((i + 1:Nat):Int),()) from rfl).trans ((ih (i + 1) s hlt (by omega) (by omega)))
   ·have:i=c.Instrs.length:=by omega
    subst this
    rw [YW,List.drop_length,Hw,List.append_nil]; simp only [Zd,cond_false]
 have:=key L 0 [] (Nat.zero_le _) (by omega) (by simp)
 rw [List.drop_zero] at this
 exact this
theorem Zfu:∀ (n:Int) (l:List Zx),(Hw n l).length≤l.length
 | _,[]=>by simp [Hw]
 | n,x :: r=>by
  have:=Zfu (n + 1) r
  rw [Hw,List.length_append,List.length_cons]
  split <;> simp only [List.length_cons,List.length_nil] <;> omega
end Go.Proofs.YtleomfgijkapfaaGreatDoor
end
section
namespace Go.Proofs.YtleomfgijkapfaaGreatDoor
open Go Go.RowKit Go.Proofs.YtleomfgijkapfaaGreatDoor.Abs Go.Proofs.YtleomfgijkapfaaGreatDoor.Tl
set_option maxRecDepth 100000
mutual
def bkA:AV→Nat
 | .str s=>s.length + 1
 | .lst _ rows=>bkR rows + 1
 | _=>1
def bkL:List AV→Nat
 | []=>0
 | a :: l=>bkA a + bkL l
def bkR:List (List AV)→Nat
 | []=>0
 | r :: l=>bkL r + bkR l
end
theorem Zdc:∀ a b:List AV,bkL (a ++ b)=bkL a + bkL b
 | [],b=>by rw [bkL]; simp
 | x :: a,b=>by rw [List.cons_append,bkL,bkL,Zdc a b,Nat.add_assoc]
theorem ZeU {H:Type}:∀ (fs:List Field) (cs:List AV) (P:Program) (D:Nat→DataW H) (k o n:Nat),Ze6 P fs o n=true→cs.length=n→o≤n→(∀ (i:Nat) (f:Field),fs[i]? = some f→bkL ((cs.drop f.offset).take (P.cellsOf f.type))≤Rows.uptoBulk (D (k + i)))→bkL (cs.drop o)≤Rows.uptoBulkAll ((List.range fs.length).map fun i=>D (k + i))
 | [],cs,P,D,k,o,n,ht,hl,ho,h=>by
  have:o=n:=by simpa [Ze6] using ht
  subst this
  rw [← hl,List.drop_length]; simp [bkL,Rows.uptoBulkAll]
 | f :: fs,cs,P,D,k,o,n,ht,hl,ho,h=>by
  simp only [Ze6,Bool.and_eq_true,beq_iff_eq] at ht
  obtain ⟨rfl,ht⟩:=ht
  have hle:f.offset + P.cellsOf f.type≤n:=by
   have:∀ (fs:List Field) (o:Nat),Ze6 P fs o n=true→o≤n:=by
    intro fs
    induction fs with
    | nil =>
     intro o h; have:o=n:=by simpa [Ze6] using h
     omega
    | cons g fs ih =>
     intro o h
     simp only [Ze6,Bool.and_eq_true,beq_iff_eq] at h
     have:=ih _ h.2
     omega
   exact this fs _ ht
  have ih:=ZeU fs cs P D (k + 1) (f.offset + P.cellsOf f.type) n ht hl hle fun i g hg=>by
   have:=h (i + 1) g (by simpa using hg)
   rwa [show k + (i + 1)=k + 1 + i by omega] at this
  have h0:=h 0 f rfl
  rw [List.length_cons,List.range_succ_eq_map,List.map_cons,List.map_map,Rows.uptoBulkAll]
  have e:cs.drop f.offset=(cs.drop f.offset).take (P.cellsOf f.type) ++ cs.drop (f.offset + P.cellsOf f.type):=by rw [← List.drop_drop,List.take_append_drop]
  rw [e,Zdc]
  refine Nat.add_le_add h0 (Nat.le_trans ih (Nat.le_of_eq ?_))
  congr 1
  refine List.map_congr_left fun i _=>?_
  show D (k + 1 + i)=D (k + (i + 1))
  rw [show k + 1 + i=k + (i + 1) by omega]
theorem Zby {H:Type}:∀ (rows:List (List AV)) (D:Nat→DataW H) (k:Nat),(∀ (i:Nat) r,rows[i]? = some r→bkL r≤Rows.uptoBulk (D (k + i)))→bkR rows≤Rows.uptoBulkAll ((List.range rows.length).map fun i=>D (k + i))
 | [],_,_,_=>by simp [bkR]
 | r :: rows,D,k,h=>by
  have ih:=Zby rows D (k + 1) fun i g hg=>by
   have:=h (i + 1) g (by simpa using hg)
   rwa [show k + (i + 1)=k + 1 + i by omega] at this
  rw [List.length_cons,List.range_succ_eq_map,List.map_cons,List.map_map,Rows.uptoBulkAll,bkR]
  refine Nat.add_le_add (h 0 r rfl) (Nat.le_trans ih (Nat.le_of_eq ?_))
  congr 1
  refine List.map_congr_left fun i _=>?_
  show D (k + 1 + i)=D (k + (i + 1))
  rw [show k + 1 + i=k + (i + 1) by omega]
theorem ZfS {H:Type}{P:Program}{S:List TypeId}(hS:ZkZ P S=true){t:TypeId}{cs:List AV}{d:DataW H}(h:KL P t cs d):S.contains t=true→bkL cs≤Rows.uptoBulk d:=by
 induction h with
 | bool t b hu=>intro _; simp [bkL,bkA,Rows.uptoBulk]
 | int t k x hu hw=>intro _; simp [bkL,bkA,Rows.uptoBulk]
 | str t s hu hl=>intro _; simp [bkL,bkA,Rows.uptoBulk]
 | nil t e hu=>intro _; simp [bkL,bkA,bkR,Rows.uptoBulk]
 | slice t e rows D spare hu hl h ih =>
  intro ht
  have:=List.all_eq_true.1 hS t (List.contains_iff_mem.1 ht)
  rw [hu] at this
  simp only [Bool.and_eq_true] at this
  have hr:=Zby rows D 0 fun i r hr=>by rw [Nat.zero_add]; exact ih i r hr this.2
  simp only [Nat.zero_add] at hr
  simp only [bkL,bkA,Rows.uptoBulk,Nat.add_zero]
  have e:(List.range rows.length).map (fun i=>D i)=(List.range rows.length).map D:=rfl
  rw [e] at hr
  omega
 | struct t fs cs D hu hl h ih =>
  intro ht
  have:=List.all_eq_true.1 hS t (List.contains_iff_mem.1 ht)
  rw [hu] at this
  simp only [Bool.and_eq_true] at this
  have hr:=ZeU fs.toList cs P D 0 0 (P.cellsOf t) this.1 hl (Nat.zero_le _) fun i f hf=>by
   rw [Nat.zero_add]
   exact ih i f hf (List.all_eq_true.1 this.2 f (List.mem_of_getElem? hf))
  rw [List.drop_zero] at hr
  simp only [Nat.zero_add,Array.length_toList] at hr
  have e:(List.range fs.size).map (fun i=>D i)=(List.range fs.size).map D:=rfl
  rw [e] at hr
  simp only [Rows.uptoBulk]
  omega
theorem ZmH (e:Zg):bkL (X0 e)=e.Name.length + bkR (e.Kids.map X0) + 4:=by rw [Za5]; simp only [bkL,bkA]; omega
mutual
theorem Zd4:∀ e:Zg,ZL e→(Jq e).length + 1≤50 * bkL (X0 e)
 | ⟨o,a,n,ks⟩,ok=>by
  have h:=Zak ks ok.Kids.2
  have a1:(Lib.itoa o).length≤21:=Wy ok.Op; have a2:(Lib.itoa n).length≤21:=Wy ok.N
  rw [ZmH,Jq]
  simp only [List.length_cons,List.length_append,List.length_nil]
  omega
theorem Zak:∀ l:List Zg,(∀ x ∈ l,ZL x)→(ZW l).length≤50 * bkR (l.map X0)
 | [],_=>by simp [ZW]
 | e :: l,h=>by
  have h1:=Zd4 e (h e (List.mem_cons_self ..))
  have h2:=Zak l fun x hx=>h x (List.mem_cons_of_mem _ hx)
  rw [ZW,List.map_cons,bkR]
  simp only [List.length_cons,List.length_append]
  omega
end
theorem ZeS (i:Zx):bkL (X0 i.E) + bkL (X0 i.F) + bkR (i.Args.map X0) + 4≤bkL (Ux i):=by
 unfold Ux
 simp only [Zdc,bkL,bkA]; omega
theorem ZqO (i:Zx)(ok:Xp i):(ZW (esX i)).length≤50 * bkL (Ux i):=by
 have hb:=ZeS i
 have h1:=Zd4 i.E ok.E; have h2:=Zd4 i.F ok.F; have h3:=Zak i.Args ok.Args.2
 unfold esX
 split
 ·split
  ·rename_i f _
   unfold EF
   rw [Lj,Lj]
   cases f.e <;> cases f.f <;> cases f.args <;> simp only [cond_true,cond_false,ZW,List.length_append,List.length_nil,List.length_cons,List.append_nil] <;> omega
  ·simp [ZW]
 ·simp [ZW]
theorem Znt {n:Int}(i:Zx)(ok:Xp i)(hn:bd n):(Tc n i).length≤400 * bkL (Ux i):=by
 have h1:=Zfn i ok hn; have h2:=ZqO i ok; have h3:=Zfd i.Dist ok.Dist; have hb:=ZeS i
 have h4:(ZcD i).length≤1001:=by unfold ZcD; split <;> simp <;> omega
 unfold Tc
 simp only [List.length_append,List.length_cons,List.length_nil]
 omega
theorem ZjC:∀ (l:List Zx) (n:Int),(∀ x ∈ l,Xp x)→0≤n→n + l.length≤4611686018427387904→(VQ n l).length≤400 * bkR (l.map Ux)
 | [],_,_,_,_=>by simp [VQ]
 | x :: l,n,h,h0,h1=>by
  rw [List.length_cons] at h1
  have a:=Znt (n := n) x (h x (List.mem_cons_self ..)) ⟨by omega,by omega⟩
  have b:=ZjC l (n + 1) (fun y hy=>h y (List.mem_cons_of_mem _ hy)) (by omega) (by omega)
  rw [VQ,List.map_cons,bkR,List.length_append]
  omega
theorem ZhS (c:YO)(ok:LV c)(h:bkL (TA c)≤1048576):(VQ 0 c.Instrs).length≤70368744177664:=by
 have hI:=ok.Instrs.1
 have a:=ZjC c.Instrs 0 ok.Instrs.2 (Int.le_refl _) (by omega)
 have b:bkR (c.Instrs.map Ux)≤bkL (TA c):=by unfold TA; simp only [bkL,bkA]; omega
 omega
end Go.Proofs.YtleomfgijkapfaaGreatDoor
end
