import Derived.Lib.ItoaLen
import Derived.Test.YtbcfddaocfpckaaGreatDoorRows
import Derived.Test.YtbcfddaocfpckaaGreatDoorHSt15
set_option linter.all false
section
namespace Go.Proofs.YtbcfddaocfpckaaGreatDoor
open Go Go.Proofs.YtbcfddaocfpckaaGreatDoor.Abs Go.Proofs.YtbcfddaocfpckaaGreatDoor.Tl
set_option maxRecDepth 100000
theorem ZaK {α:Type}(nm:α→List UInt8)(s:List UInt8)(l:List α):decide (DT (fun x=>decide (nm x=s)) l 0 ≥ 0)=(l.map nm).contains s:=by
 rw [show decide (DT (fun x=>decide (nm x=s)) l 0 ≥ 0)=_ from Bi _ l 0 (Int.le_refl _),← Zb8,List.any_map]
 congr 1; funext x; exact decide_eq_decide.2 ⟨Eq.symm,Eq.symm⟩
theorem Du (d:Zq):SizeOf.sizeOf d.Name < SizeOf.sizeOf d∧SizeOf.sizeOf d.Vars < SizeOf.sizeOf d∧SizeOf.sizeOf d.Resources < SizeOf.sizeOf d∧SizeOf.sizeOf d.Stores < SizeOf.sizeOf d∧SizeOf.sizeOf d.Belts < SizeOf.sizeOf d∧SizeOf.sizeOf d.Queues < SizeOf.sizeOf d∧SizeOf.sizeOf d.Streams < SizeOf.sizeOf d∧SizeOf.sizeOf d.Tallies < SizeOf.sizeOf d∧SizeOf.sizeOf d.Levels < SizeOf.sizeOf d∧SizeOf.sizeOf d.Counts < SizeOf.sizeOf d∧SizeOf.sizeOf d.Routines < SizeOf.sizeOf d∧SizeOf.sizeOf d.Starts < SizeOf.sizeOf d∧SizeOf.sizeOf d.Laws < SizeOf.sizeOf d:=by
 cases d; simp; omega
structure Sh (L:Nat)(d:Zq):Prop where
 nm:d.Name.length < L
 vars:d.Vars.length < L
 res:d.Resources.length < L
 sto:d.Stores.length < L
 bel:d.Belts.length < L
 que:d.Queues.length < L
 str:d.Streams.length < L
 tal:d.Tallies.length < L
 lev:d.Levels.length < L
 cnt:d.Counts.length < L
 rou:d.Routines.length < L
 sta:d.Starts.length < L
 law:d.Laws.length < L
theorem Sh.of {L:Nat}{d:Zq}(h:SizeOf.sizeOf d≤L):Sh L d:=by
 have:=Du d
 constructor
 ·have:=Z4 d.Name; omega
 ·have:=Z4 d.Vars; omega
 ·have:=Z4 d.Resources; omega
 ·have:=Z4 d.Stores; omega
 ·have:=Z4 d.Belts; omega
 ·have:=Z4 d.Queues; omega
 ·have:=Z4 d.Streams; omega
 ·have:=Z4 d.Tallies; omega
 ·have:=Z4 d.Levels; omega
 ·have:=Z4 d.Counts; omega
 ·have:=Z4 d.Routines; omega
 ·have:=Z4 d.Starts; omega
 ·have:=Z4 d.Laws; omega
end Go.Proofs.YtbcfddaocfpckaaGreatDoor
end
section
namespace Go.Proofs.YtbcfddaocfpckaaGreatDoor
open Go Go.Proofs.YtbcfddaocfpckaaGreatDoor.Abs Go.Proofs.YtbcfddaocfpckaaGreatDoor.Tl
set_option maxRecDepth 100000
theorem Zf5 {l:List Qk}{x:Qk}(h:x ∈ l):x.Name.length < SizeOf.sizeOf l:=by
 have:=List.sizeOf_lt_of_mem h
 have h2:=Z4 x.Name
 have:SizeOf.sizeOf x.Name < SizeOf.sizeOf x:=by cases x; simp; omega
 omega
theorem ZeE (r:Yu):SizeOf.sizeOf r.Name < SizeOf.sizeOf r∧SizeOf.sizeOf r.Params < SizeOf.sizeOf r∧SizeOf.sizeOf r.Locals < SizeOf.sizeOf r∧SizeOf.sizeOf r.Body < SizeOf.sizeOf r:=by cases r; simp; omega
theorem ZeD {α:Type}[SizeOf α](g:α→List UInt8)(hg:∀ x,SizeOf.sizeOf (g x) < SizeOf.sizeOf x){l:List α}{x:α}(h:x ∈ l):(g x).length < SizeOf.sizeOf l∧SizeOf.sizeOf x < SizeOf.sizeOf l:=by
 have h1:=List.sizeOf_lt_of_mem h
 have h2:=Z4 (g x)
 have h3:=hg x
 omega
end Go.Proofs.YtbcfddaocfpckaaGreatDoor
end
section
namespace Go.Proofs.YtbcfddaocfpckaaGreatDoor
open Go Go.Proofs.YtbcfddaocfpckaaGreatDoor.Abs Go.Proofs.YtbcfddaocfpckaaGreatDoor.Tl
set_option maxRecDepth 100000
theorem XN (L:Nat)(a b c:Int):Ya L (a,b,c,())=some (btw a b c):=Nr L a b c
theorem He (L:Nat)(a b:Int):Yp L (a,b,())=some (WY a b):=by
 simp only [Zk,Zf,cond_true,cond_false,Zj,Zr,Zb,Zw,condC,Zl,Zm,Zx,ZR,Yb,ZQ,Ep,WY]; simp only [Yt,XF,if_true,if_false,Bool.false_eq_true,ne_eq,decide_not,gt_iff_lt,ge_iff_le]
theorem Vl (L:Nat)(a:Bool)(b:Int):ZJ L (a,b,())=some (Yk a b):=by
 simp only [Zk,Zf,cond_true,cond_false,Zj,Zr,Zb,Zw,condC,Zl,Zm,Zx,ZR,Yb,ZQ,Nq,Yk]; simp only [Yt,XF,if_true,if_false,Bool.false_eq_true,ne_eq,decide_not,gt_iff_lt,ge_iff_le]
theorem ZaX (L:Nat)(t:Int):Xn L (t,())=some (NP t):=Eo L t
theorem ZdZ (L:Nat)(t n:Int):JZ L (t,n,())=some (fitsT t n):=by
 simp only [Zk,Zf,cond_true,cond_false,Zj,Zr,Zb,Zw,condC,Zl,Zm,Zx,ZR,Yb,ZQ,Zad,Zek,XN,fitsT]; simp only [Yt,XF,if_true,if_false,Bool.false_eq_true,ne_eq,decide_not,gt_iff_lt,ge_iff_le]
theorem Au (s:List UInt8)(l:List (List UInt8)):decide (DT (fun k=>decide (k=s)) l 0 < 0)=!(l.contains s):=by
 have:=ZaK (fun x:List UInt8=>x) s l
 rw [List.map_id'] at this
 rw [← this,show decide (DT (fun k=>decide (k=s)) l 0 < 0)=!decide (DT (fun k=>decide (k=s)) l 0 ≥ 0) by rw [← decide_not]; congr 1; exact propext Int.not_le.symm]
theorem AL (L:Nat)(h1:100≤L)(s:List UInt8)(seen:Seen)(hs:Len s)(hsL:s.length < L)(hl:Len seen)(hL:seen.length < L):Xo L (s,seen,())=some (Ii s seen):=by
 simp only [Zk,Zf,cond_true,cond_false,Zj,Zr,Zb,Zw,condC,Zl,Zm,Zx,ZR,Yb,ZQ,Es,JV L s hs hsL h1,ZaV L seen s hl hL,Vl,He,Au,Ii]
theorem apS {l:List (List UInt8)}{a:List UInt8}(h:l.length≤8000000000000):apT 16 l [a]=some (l ++ [a]):=by unfold apT; rw [if_pos (by simp only [List.length_cons,List.length_nil]; omega)]
end Go.Proofs.YtbcfddaocfpckaaGreatDoor
end
section
namespace Go.Proofs.YtbcfddaocfpckaaGreatDoor
open Go Go.Proofs.YtbcfddaocfpckaaGreatDoor.Abs Go.Proofs.YtbcfddaocfpckaaGreatDoor.Tl
set_option maxRecDepth 100000
theorem ZdS {α τ:Type}{f:(τ→Option Int)→τ→Option Int}(pk:Seen→Int→τ)(l:List α)(step:α→Seen→Int×Seen)(c:Nat)(e:Seen→Option Int){m:Nat}(hm:l.length < m)
  (hst:∀ x s,(step x s).2.length≤s.length + 1)
  (h1:∀ self s (i:Nat) x,l[i]? = some x→i < l.length→x ∈ l→s.length≤c + i→f self (pk s i)=bif !decide ((step x s).1=0) then some (step x s).1 else self (pk (step x s).2 ((i:Int) + 1)))
  (h2:∀ self s,s.length≤c + l.length→f self (pk s (l.length:Nat))=e s) (s:Seen) (hs:s.length≤c):loopT f m (pk s 0)=if decide ((XU step l s).1≠0)=true then some (XU step l s).1 else e (XU step l s).2:=by
 have key:∀ (m i:Nat) (s:Seen),i≤l.length→l.length - i < m→s.length≤c + i→loopT f m (pk s i)=if decide ((XU step (l.drop i) s).1≠0)=true then some (XU step (l.drop i) s).1 else e (XU step (l.drop i) s).2:=by
  intro m
  induction m with
  | zero=>intro i s _ h; exact absurd h (Nat.not_lt_zero _)
  | succ m ih =>
   intro i s hi hm hsl
   show f (loopT f m) _=_
   rcases Nat.lt_or_ge i l.length with hlt | hge
   ·have hx:=List.getElem?_eq_getElem hlt
    have:=ih (i + 1) (step l[i] s).2 hlt (by omega) (by have:=hst l[i] s; omega)
    rw [h1 _ s i _ hx hlt (List.getElem_mem hlt) hsl,List.drop_eq_getElem_cons hlt,XU,show ((i:Int) + 1)=((i + 1:Nat):Int) from rfl,this]
    by_cases z:(step l[i] s).1=0 <;> simp [z]
   ·have:i=l.length:=by omega
    subst this
    rw [List.drop_length,h2 _ s hsl]; rfl
 exact key m 0 s (Nat.zero_le _) (by omega) (by omega)
theorem NQ (s:List UInt8)(r:Int)(seen:Seen):(VC s r seen).2.length≤seen.length + 1:=by
 have h:(Uj s seen).2.length≤seen.length + 1:=by
  unfold Uj
  split
  ·exact Nat.le_succ _
  ·split
   ·exact Nat.le_succ _
   ·simp
 unfold VC
 split <;> exact h
end Go.Proofs.YtbcfddaocfpckaaGreatDoor
end
section
namespace Go.Proofs.YtbcfddaocfpckaaGreatDoor
open Go Go.Proofs.YtbcfddaocfpckaaGreatDoor.Abs Go.Proofs.YtbcfddaocfpckaaGreatDoor.Tl
set_option maxRecDepth 100000
theorem NR {s:List UInt8}{r:Int}{seen:Seen}(h:(VC s r seen).1=0):(VC s r seen).2=seen ++ [s]:=(Zdy h).1
theorem CQ (L:Nat)(h1:100≤L)(r:Yu)(h:Kr r)(hL:SizeOf.sizeOf r≤L):QI L (r,())=some (Gg r):=by
 have hz:=ZeE r
 have hp:=h.p
 have hw:IntKind.i64.wrap ((r.Params.length:Int) + (r.Locals.length:Int))=(r.Params.length:Int) + (r.Locals.length:Int):=wrap_in (by omega) (by omega)
 rw [BV,hw,Gg]
 by_cases hc:6 < (r.Params.length:Int)∨16 < (r.Params.length:Int) + (r.Locals.length:Int)
 ·rw [if_pos (by simpa using hc),show (decide ((r.Params.length:Int) > 6) || decide ((r.Params.length:Int) + (r.Locals.length:Int) > 16))=true by simpa using hc]; rfl
 ·have hf:(decide ((r.Params.length:Int) > 6) || decide ((r.Params.length:Int) + (r.Locals.length:Int) > 16))=false:=by
   simp only [Bool.or_eq_false_iff,decide_eq_false_iff_not]; omega
  have hf':¬ ((decide (6 < (r.Params.length:Int)) || decide (16 < (r.Params.length:Int) + (r.Locals.length:Int)))=true):=by simpa using hc
  have hlen:(r.Params ++ r.Locals).length≤16:=by rw [List.length_append]; omega
  have p1:apT 24 [] r.Params=some r.Params:=by unfold apT; rw [if_pos (by simp only [List.length_nil]; omega)]; rfl
  have p2:apT 24 r.Params r.Locals=some (r.Params ++ r.Locals):=by unfold apT; rw [if_pos (by omega)]
  rw [if_neg hf',hf,cond_false,p1,Zr,p2,Zr]
  rw [ZdS (f := Qg r L (r.Params ++ r.Locals)) (fun s i=>(s,i,())) (r.Params ++ r.Locals) (fun f:Qk=>VC f.Name (P9 f)) 0 (fun _=>some (Ui r.Body)) (by omega) (fun x s=>NQ _ _ _) (fun self s i x hx hi mem hsl=>by
   have ok:NT x∧x.Name.length < L:=by
    rcases List.mem_append.1 mem with m | m
    ·exact ⟨h.Params.2 x m,by have:=Zf5 m; omega⟩
    ·exact ⟨h.Locals.2 x m,by have:=Zf5 m; omega⟩
   have hn:=AL L h1 x.Name s (by have:=ok.1.Name; unfold Len; omega) ok.2 (by unfold Len; omega) (by omega)
   rw [Qg]
   simp only [Zk,Zf,cond_true,cond_false,Zj,Zr,Zb,Zw,condC,Zl,Zm,Zx,ZR,Yb,ZQ,hi,hx,hn,ZaX,Vl,He,ZdH,apS (show s.length≤8000000000000 by omega),wrap_succ hi (by omega)]
   rw [← EW]
   by_cases c:(VC x.Name (P9 x) s).1=0
   ·rw [NR c]
   ·simp [c]) (fun self s hsl=>by
   rw [Qg]; simp only [Zk,Zf,cond_true,cond_false,Zj,Zr,Zb,Zw,condC,Zl,Zm,Zx,ZR,Yb,ZQ,PT L h1 r.Body h.p.2.2 (by omega)]) [] (Nat.le_refl _)]
  rw [XF]; rfl
theorem EF (L:Nat)(d:Zt)(h:YL d)(hL:d.Shift.length < L)(hc:IntKind.i64.wrap (d.Cycle - 1)=d.Cycle - 1):loopT (YT d L) L (0,())=some (Zd3 d.Cycle none d.Shift):=by
 have hl:=h.s
 refine ZbH (f := YT d L) d.Shift.length (fun i=>(i,())) (fun i=>some (Zd3 d.Cycle (CS d.Shift i) (d.Shift.drop i))) (fun self i hi e=>?_) (fun self=>?_) L 0 (Nat.zero_le _) (by omega)
 ·have hx:=List.getElem?_eq_getElem hi
  rw [List.drop_eq_getElem_cons hi,Zd3]
  rw [show CS d.Shift (i + 1)=some (d.Shift[i].At_) by rw [CS,hx]; rfl] at e
  rw [YT]
  simp only [Zk,Zf,cond_true,cond_false,Zj,Zr,Zb,Zw,condC,Zl,Zm,Zx,ZR,Yb,ZQ,hi,hx,XN,wrap_succ hi (by omega),e,hc,Zdq _ _ _ hi hl]; simp only [Yt,XF,if_true,if_false,Bool.false_eq_true,ne_eq,decide_not,gt_iff_lt,ge_iff_le]
 ·rw [YT]; simp only [Zk,Zf,cond_true,cond_false,Zj,Zr,Zb,Zw,condC,Zl,Zm,Zx,ZR,Yb,ZQ,List.drop_length,Zd3]
theorem SK (L:Nat)(d:Zt)(h:YL d)(hL:d.Shift.length < L):Qi L (d,())=some (Zdt d):=by
 simp only [Zk,Zf,cond_true,cond_false,Zj,Zr,Zb,Zw,condC,Zl,Zm,Zx,ZR,Yb,ZQ,Lt,XN,Vl,Zdt]
 by_cases hc:btw d.Cycle 1 1000000000=true
 ·have:=EF L d h hL (by simp only [btw,Bool.and_eq_true,decide_eq_true_eq] at hc; exact wrap_in (by omega) (by omega))
  rw [this]; simp only [Yt,XF,if_true,if_false,Bool.false_eq_true,ne_eq,decide_not,gt_iff_lt,ge_iff_le,Yk]
  by_cases a:d.Cycle=0 <;> simp [a]
 ·rw [Bool.not_eq_true] at hc
  simp only [Yt,XF,if_true,if_false,Bool.false_eq_true,ne_eq,decide_not,gt_iff_lt,ge_iff_le,hc,Bool.not_false,Yk]
  by_cases a:d.Cycle=0 <;> simp [a]
theorem CP (L:Nat)(h1:100≤L)(d:Zq)(h:YM d)(hs:Sh L d)(x:Zt)(ok:YL x)(hx:SizeOf.sizeOf x≤L):Qj L (d,x,())=some (Ze9 d x):=by
 have hx2:SizeOf.sizeOf x.Fault < SizeOf.sizeOf x∧SizeOf.sizeOf x.Shift < SizeOf.sizeOf x∧SizeOf.sizeOf x.Fault.Up < SizeOf.sizeOf x.Fault∧SizeOf.sizeOf x.Fault.Down < SizeOf.sizeOf x.Fault:=by
  obtain ⟨a,b,c,d,⟨e,f,g⟩⟩:=x; simp; omega
 have hsh:=Z4 x.Shift
 have hst:=h.st
 rw [← Zdr]
 simp only [Zk,Zf,cond_true,cond_false,Zj,Zr,Zb,Zw,condC,Zl,Zm,Zx,ZR,Yb,ZQ,Lu,XN,Vl,He,SK L x ok (by omega),BD L x.Fault.Up _ ok.Fault.Up (by omega),BD L x.Fault.Down _ ok.Fault.Down (by omega),GZ,ZaV L d.Streams x.Fault.Stream (by unfold Len; omega) hs.str,JU L x.Fault.Up ok.Fault.Up (by omega),JU L x.Fault.Down ok.Fault.Down (by omega),Au,Zfw]; simp only [Yt,XF,if_true,if_false,Bool.false_eq_true,ne_eq,decide_not,gt_iff_lt,ge_iff_le]
theorem Zeb (L:Nat)(d:Zq)(j:Nat)(x:VO)(hx:d.Vars[j]? = some x):ZY L (d,0,(j:Int),())=some (F8 x):=by
 rw [YN]; simp only [Zk,Zf,cond_true,cond_false,Zj,Zr,Zb,Zw,condC,Zl,Zm,Zx,ZR,Yb,ZQ,hx,Int.reduceEq,decide_true,decide_false,ZaX,Vl,ZdZ,He,valueR]
theorem Zec (L:Nat)(h1:100≤L)(d:Zq)(h:YM d)(hL:SizeOf.sizeOf d≤L)(j:Nat)(x:Zt)(hx:d.Resources[j]? = some x):ZY L (d,1,(j:Int),())=some (Ze9 d x):=by
 have hz:=Du d
 have mem:=List.mem_of_getElem? hx
 have hm:=List.sizeOf_lt_of_mem mem
 rw [YN]; simp only [Zk,Zf,cond_true,cond_false,Zj,Zr,Zb,Zw,condC,Zl,Zm,Zx,ZR,Yb,ZQ,hx,Int.reduceEq,decide_true,decide_false,CP L h1 d h (Sh.of hL) x (h.Resources.2 x mem) (by omega)]
theorem Zed (L:Nat)(d:Zq)(j:Nat)(x:Yx)(hx:d.Stores[j]? = some x):ZY L (d,2,(j:Int),())=some (Fp x):=by
 rw [YN]; simp only [Zk,Zf,cond_true,cond_false,Zj,Zr,Zb,Zw,condC,Zl,Zm,Zx,ZR,Yb,ZQ,hx,Int.reduceEq,decide_true,decide_false,XN,Vl,He,ge_iff_le,ZeC]
theorem Zee (L:Nat)(d:Zq)(j:Nat)(x:YS)(hx:d.Belts[j]? = some x):ZY L (d,3,(j:Int),())=some (Zb6 x):=by
 rw [YN]; simp only [Zk,Zf,cond_true,cond_false,Zj,Zr,Zb,Zw,condC,Zl,Zm,Zx,ZR,Yb,ZQ,hx,Int.reduceEq,decide_true,decide_false,XN,Vl,ZeU]
theorem Zef (L:Nat)(h1:100≤L)(d:Zq)(h:YM d)(hL:SizeOf.sizeOf d≤L)(j:Nat)(x:Yu)(hx:d.Routines[j]? = some x):ZY L (d,9,(j:Int),())=some (Gg x):=by
 have hz:=Du d
 have mem:=List.mem_of_getElem? hx
 have hm:=List.sizeOf_lt_of_mem mem
 have e:=CQ L h1 x (h.Routines.2 x mem) (by omega)
 generalize Gg x=z at e ⊢
 rw [YN,show ((9:Int) == 0)=false from rfl,show ((9:Int) == 1)=false from rfl,show ((9:Int) == 2)=false from rfl,show ((9:Int) == 3)=false from rfl,show ((9:Int) == 9)=true from rfl,cond_false,cond_false,cond_false,cond_false,cond_true,Zj,hx,Zr,e,Zr]
theorem PQ (L:Nat)(d:Zq)(k j:Int)(h:k=4∨k=5∨k=6∨k=7∨k=8):ZY L (d,k,j,())=some 0:=by
 rw [YN]; rcases h with rfl | rfl | rfl | rfl | rfl <;> simp only [Zk,Zf,cond_true,cond_false,Zj,Zr,Zb,Zw,condC,Zl,Zm,Zx,ZR,Yb,ZQ,Int.reduceEq,decide_true,decide_false]
end Go.Proofs.YtbcfddaocfpckaaGreatDoor
end
section
namespace Go.Proofs.YtbcfddaocfpckaaGreatDoor
open Go Go.Proofs.YtbcfddaocfpckaaGreatDoor.Abs Go.Proofs.YtbcfddaocfpckaaGreatDoor.Tl
set_option maxRecDepth 100000
theorem CJ (L:Nat)(h1:100≤L)(d:Zq)(h:YM d)(hL:SizeOf.sizeOf d≤L)(k:Nat)(p:Int×List (List UInt8×Int))(hp:(Qz d)[k]? = some p)(j:Nat)(q:List UInt8×Int)(hq:p.2[j]? = some q):ZY L (d,(k:Int),(j:Int),())=some q.2:=by
 rcases k with _ | _ | _ | _ | _ | _ | _ | _ | _ | _ | k
 ·obtain rfl:=Option.some.inj hp; obtain ⟨x,hx,rfl⟩:=XH hq; exact Zeb L d j x hx
 ·obtain rfl:=Option.some.inj hp; obtain ⟨x,hx,rfl⟩:=XH hq; exact Zec L h1 d h hL j x hx
 ·obtain rfl:=Option.some.inj hp; obtain ⟨x,hx,rfl⟩:=XH hq; exact Zed L d j x hx
 ·obtain rfl:=Option.some.inj hp; obtain ⟨x,hx,rfl⟩:=XH hq; exact Zee L d j x hx
 ·obtain rfl:=Option.some.inj hp; obtain ⟨x,hx,rfl⟩:=XH hq; exact PQ L d 4 j (by simp)
 ·obtain rfl:=Option.some.inj hp; obtain ⟨x,hx,rfl⟩:=XH hq; exact PQ L d 5 j (by simp)
 ·obtain rfl:=Option.some.inj hp; obtain ⟨x,hx,rfl⟩:=XH hq; exact PQ L d 6 j (by simp)
 ·obtain rfl:=Option.some.inj hp; obtain ⟨x,hx,rfl⟩:=XH hq; exact PQ L d 7 j (by simp)
 ·obtain rfl:=Option.some.inj hp; obtain ⟨x,hx,rfl⟩:=XH hq; exact PQ L d 8 j (by simp)
 ·obtain rfl:=Option.some.inj hp; obtain ⟨x,hx,rfl⟩:=XH hq; exact Zef L h1 d h hL j x hx
 ·exact absurd hp (by simp [Qz])
theorem Cj (L:Nat)(d:Zq)(h:YM d)(hL:SizeOf.sizeOf d≤L):∀ p ∈ Qz d,∀ q ∈ p.2,Len q.1∧q.1.length < L:=by
 have hz:=Du d
 intro p hp q hq
 simp only [Qz,List.mem_cons,List.not_mem_nil,or_false] at hp
 unfold Len
 rcases hp with rfl | rfl | rfl | rfl | rfl | rfl | rfl | rfl | rfl | rfl <;> obtain ⟨x,mem,rfl⟩:=List.mem_map.1 hq
 ·have:=ZeD (fun v:VO=>v.Name) (fun x=>by cases x; simp; omega) mem; have:=(h.Vars.2 x mem).Name; simp only; omega
 ·have:=ZeD (fun v:Zt=>v.Name) (fun x=>by cases x; simp; omega) mem; have:=(h.Resources.2 x mem).Name; simp only; omega
 ·have:=ZeD (fun v:Yx=>v.Name) (fun x=>by cases x; simp; omega) mem; have:=(h.Stores.2 x mem).Name; simp only; omega
 ·have:=ZeD (fun v:YS=>v.Name) (fun x=>by cases x; simp; omega) mem; have:=(h.Belts.2 x mem).Name; simp only; omega
 ·have:=List.sizeOf_lt_of_mem mem; have:=Z4 x; have:=h.Queues.2 x mem; simp only; omega
 ·have:=List.sizeOf_lt_of_mem mem; have:=Z4 x; have:=h.Streams.2 x mem; simp only; omega
 ·have:=List.sizeOf_lt_of_mem mem; have:=Z4 x; have:=h.Tallies.2 x mem; simp only; omega
 ·have:=List.sizeOf_lt_of_mem mem; have:=Z4 x; have:=h.Levels.2 x mem; simp only; omega
 ·have:=List.sizeOf_lt_of_mem mem; have:=Z4 x; have:=h.Counts.2 x mem; simp only; omega
 ·have:=ZeD (fun v:Yu=>v.Name) (fun x=>by cases x; simp; omega) mem; have:=(h.Routines.2 x mem).Name; simp only; omega
theorem inner (L:Nat)(h1:1000≤L)(d:Zq)(h:YM d)(hL:SizeOf.sizeOf d≤L)(k:Nat)(p:Int×List (List UInt8×Int))(hp:(Qz d)[k]? = some p)(hl:p.2.length≤32)(hk:k < 10)(self:Int×List (List UInt8)×Int×PUnit→Option Int)(s0 s:Seen)(hs:s.length≤32 * k) :
  loopT (Xd d L ((Qz d).map PN) self (0,s0,(k:Int),())) L (0,s,0,())=if decide ((XU Hl p.2 s).1≠0)=true then some (XU Hl p.2 s).1 else self (0,(XU Hl p.2 s).2,(k:Int) + 1,()):=by
 have hg:getT ((Qz d).map PN) (k:Int)=some (PN p):=by rw [Zj,List.getElem?_map,hp]; rfl
 have hlen:(PN p).length=p.2.length:=by simp [PN]
 refine ZdS (f := Xd d L ((Qz d).map PN) self (0,s0,(k:Int),())) (fun s i=>(0,s,i,())) p.2 Hl (32 * k) (fun s=>self (0,s,(k:Int) + 1,())) (by omega) (fun x s=>NQ _ _ _) (fun self1 s i x hx hi mem hsl=>?_) (fun self1 s hsl=>?_) s hs
 ·have hq:(PN p)[i]? = some x.1:=by unfold PN; rw [List.getElem?_map,hx]; rfl
  have hi':i < (PN p).length:=by omega
  have hnl:=Cj L d h hL p (List.mem_of_getElem? hp) x mem
  have hn:=AL L (by omega) x.1 s hnl.1 hnl.2 (by unfold Len; omega) (by omega)
  have hd:=CJ L (by omega) d h hL k p hp i x hx
  rw [Xd]
  simp only [hg,Zr]
  simp only [Zk,Zf,cond_true,cond_false,Zj,Zr,Zb,Zw,condC,Zl,Zm,Zx,ZR,Yb,ZQ,hi',hq,hn,hd,He,apS (show s.length≤8000000000000 by omega),wrap_in (show -9223372036854775808≤(i:Int) + 1 by omega) (by omega)]
  rw [← EW]
  show _=bif !decide ((VC x.1 x.2 s).1=0) then some (VC x.1 x.2 s).1 else self1 (0,(VC x.1 x.2 s).2,(i:Int) + 1,())
  by_cases c:(VC x.1 x.2 s).1=0
  ·rw [NR c]
  ·simp [c]
 ·rw [Xd,← hlen]
  simp only [hg,Zr]
  simp only [Zk,Zf,cond_true,cond_false,Zj,Zr,Zb,Zw,condC,Zl,Zm,Zx,ZR,Yb,ZQ,wrap_in (show -9223372036854775808≤(k:Int) + 1 by omega) (by omega)]
theorem outer (L:Nat)(h1:1000≤L)(d:Zq)(h:YM d)(hL:SizeOf.sizeOf d≤L)(E:Option Int)(hE:(bif decide ((d.Starts.length:Int) > 32) then some (6:Int) else loopT (Tt d L) L (0,0,()))=E):∀ (m k:Nat) (s:Seen),k≤10→10 - k < m→s.length≤32 * k →
  loopT (Xe d L ((Qz d).map PN)) m (0,s,(k:Int),())=if decide ((ZeA (((Qz d).drop k).map stepD) s).1≠0)=true then some (ZeA (((Qz d).drop k).map stepD) s).1 else E
 | 0,_,_,_,h,_=>absurd h (Nat.not_lt_zero _)
 | m + 1,k,s,hk,hm,hs=>by
  show Xe d L ((Qz d).map PN) (loopT (Xe d L ((Qz d).map PN)) m) (0,s,(k:Int),())=_
  have hlen:(Qz d).length=10:=rfl
  have hlm:((Qz d).map PN).length=10:=by rw [List.length_map,hlen]
  rcases Nat.lt_or_ge k 10 with hlt | hge
  ·have hp:=List.getElem?_eq_getElem (show k < (Qz d).length by omega)
   generalize (Qz d)[k]=p at hp
   have hg:getT ((Qz d).map PN) (k:Int)=some (PN p):=by rw [Zj,List.getElem?_map,hp]; rfl
   have hnl:(PN p).length=p.2.length:=by simp [PN]
   have hmost:=Ci d k p hp
   have hdrop:(Qz d).drop k=p :: (Qz d).drop (k + 1):=by
    rw [List.drop_eq_getElem_cons (show k < (Qz d).length by omega)]
    congr 1
    exact Option.some.inj ((List.getElem?_eq_getElem (show k < (Qz d).length by omega)).symm.trans hp)
   have hguard:(decide ((p.2.length:Int) > 32) || (decide ((k:Int)=9) && decide ((p.2.length:Int) > 16)))=decide (p.1 < (p.2.length:Int)):=by
    rw [hmost]
    by_cases c:k=9
    ·subst c; simp; omega
    ·rw [if_neg c,show decide ((k:Int)=9)=false by simp only [decide_eq_false_iff_not]; omega]; simp
   rw [Xe,hdrop,List.map_cons,ZeA]
   simp only [hlm,show decide ((k:Int) < ((10:Nat):Int))=true by simp only [decide_eq_true_eq]; omega,cond_true,hg,Zr,hnl]
   simp only [Zk,Zf,cond_true,cond_false,Zj,Zr,Zb,Zw,condC,Zl,Zm,Zx,ZR,Yb,ZQ,hguard]
   by_cases c:p.1 < (p.2.length:Int)
   ·have e:stepD p s=(6,s):=by unfold stepD ZcN; rw [if_pos (by simpa using c)]
    simp [c,e]
   ·have e:stepD p s=XU Hl p.2 s:=by unfold stepD ZcN; rw [if_neg (by simpa using c)]
    have hpl:p.2.length≤32:=by rw [hmost] at c; split at c <;> omega
    rw [show decide (p.1 < (p.2.length:Int))=false by simpa using c,cond_false,inner L h1 d h hL k p hp hpl hlt,e]
    have hsl:(XU Hl p.2 s).2.length≤32 * (k + 1):=by have:=Fg p.2 s; omega
    have ih:=outer L h1 d h hL E hE m (k + 1) (XU Hl p.2 s).2 hlt (by omega) hsl
    by_cases z:(XU Hl p.2 s).1=0
    ·simp only [z,ne_eq,not_true_eq_false,decide_false,Bool.false_eq_true,if_false]
     exact ih
    ·simp [z]
    exact hs
  ·have:k=10:=by omega
   subst this
   rw [Xe,hlm,show (Qz d).drop 10=[] from rfl]
   simp only [Zk,Zf,cond_true,cond_false,Zj,Zr,Zb,Zw,condC,Zl,Zm,Zx,ZR,Yb,ZQ,show decide (((10:Nat):Int) < ((10:Nat):Int))=false from rfl,hE]
   simp [ZeA]
end Go.Proofs.YtbcfddaocfpckaaGreatDoor
end
section
namespace Go.Proofs.YtbcfddaocfpckaaGreatDoor
open Go Go.Proofs.YtbcfddaocfpckaaGreatDoor.Abs Go.Proofs.YtbcfddaocfpckaaGreatDoor.Tl
set_option maxRecDepth 100000
abbrev bd (n:Int):Prop:=-9223372036854775808≤n∧n≤9223372036854775807
theorem Zo {β:Type}{a b:List UInt8}{k:List UInt8→Option β}(h:a.length + b.length≤4611686018427387904):bT (catS a b) k=k (a ++ b):=by unfold catS; rw [if_pos h]; rfl
theorem NW {β:Type}{a b:List UInt8}{k:List UInt8→Option β}(h:a.length + b.length≤140737488355328)(h2:0 < a.length + b.length):bT (catB a b) k=k (a ++ b):=by
 unfold catB
 rw [if_pos ⟨h,fun e=>by have:=congrArg List.length e; rw [List.length_append,List.length_nil] at this; omega⟩]; rfl
theorem Wy {n:Int}(h:bd n):XG n=some (Lib.itoa n):=if_pos h
theorem Ym {n:Int}(h:bd n):(Lib.itoa n).length≤21:=Lib.itoa_length_le n h.1 h.2
theorem ZdA {α:Type}{b:Nat}{l m:List α}{β:Type}{k:List α→Option β}(h:(l.length + m.length) * b≤140737488355328):bT (apT b l m) k=k (l ++ m):=by unfold apT; rw [if_pos h]; rfl
theorem ZaN {l:List (List UInt8)}{s:List UInt8}(h1:l.length≤140737488355328)(h2:(Lib.join l s).length≤140737488355328):CG l s=some (Lib.join l s):=if_pos ⟨h1,h2⟩
theorem loopK {τ α σ ρ:Type}{f:(τ→Option ρ)→τ→Option ρ}(l:List α)(pk:σ→Int→τ)(P:Nat→σ→Prop)(A:Option ρ)
  (h1:∀ self s (i:Nat) x,P i s→l[i]? = some x→i < l.length→x ∈ l→(∀ s',P (i + 1) s'→self (pk s' ((i:Int) + 1))=A)→f self (pk s i)=A)
  (h2:∀ self s,P l.length s→f self (pk s (l.length:Nat))=A):∀ (m i:Nat) (s:σ),P i s→i≤l.length→l.length - i < m→loopT f m (pk s i)=A
 | 0,_,_,_,_,h=>absurd h (Nat.not_lt_zero _)
 | m + 1,i,s,hP,hi,hm=>by
  show f (loopT f m) (pk s i)=_
  rcases Nat.lt_or_ge i l.length with hlt | hge
  ·exact h1 _ s i _ hP (List.getElem?_eq_getElem hlt) hlt (List.getElem_mem hlt) fun s' hP'=>loopK l pk P A h1 h2 m (i + 1) s' hP' hlt (by omega)
  ·have:i=l.length:=by omega
   subst this
   exact h2 _ s hP
theorem LZ {α σ ρ:Type}{f:(σ×Int×PUnit→Option ρ)→σ×Int×PUnit→Option ρ}(l:List α)(P:Nat→σ→Prop)(A:Option ρ){m:Nat}(hm:l.length < m)(s:σ)(hP:P 0 s)
  (h1:∀ self s (i:Nat) x,P i s→l[i]? = some x→i < l.length→x ∈ l→(∀ s',P (i + 1) s'→self (s',(i:Int) + 1,())=A)→f self (s,(i:Int),())=A)
  (h2:∀ self s,P l.length s→f self (s,(l.length:Int),())=A):loopT f m (s,0,())=A :=
 loopK l (fun s i=>(s,i,())) P A h1 h2 m 0 s hP (Nat.zero_le _) (by omega)
theorem take_succ' {α:Type}{l:List α}{i:Nat}{x:α}(h:l[i]? = some x):l.take (i + 1)=l.take i ++ [x]:=by
 rw [List.take_succ,h]; rfl
theorem Sz (sep x:List UInt8):∀ a:List (List UInt8),Lib.join (a ++ [x]) sep=if a=[] then x else Lib.join a sep ++ (sep ++ x)
 | []=>by simp [Lib.join,List.intercalate]
 | [y]=>by simp [Lib.join,List.intercalate]
 | y :: z :: a=>by
  have:=Sz sep x (z :: a)
  rw [if_neg (by simp)] at this ⊢
  simp only [Lib.join,List.cons_append] at this ⊢
  rw [List.intercalate_cons_cons,List.intercalate_cons_cons,this]
  simp
theorem U3 (sep x y:List UInt8)(a:List (List UInt8)):Lib.join (x :: y :: a) sep=x ++ (sep ++ Lib.join (y :: a) sep):=by
 simp [Lib.join,List.intercalate_cons_cons]
theorem ZaL:∀ (a:List (List UInt8)) (p q:UInt8),2 * a.length≤(Lib.join a [p,q]).length + 2
 | [],_,_=>by simp
 | [x],_,_=>by simp [Lib.join,List.intercalate]
 | x :: y :: a,p,q=>by
  have:=ZaL (y :: a) p q
  rw [U3]
  simp only [List.length_cons,List.length_append,List.length_nil] at this ⊢
  omega
theorem ZaM (sep:List UInt8):∀ (a:List (List UInt8)) (i:Nat),(Lib.join (a.take i) sep).length≤(Lib.join a sep).length
 | _,0=>by simp [Lib.join,List.intercalate]
 | [],i + 1=>by simp
 | [x],i + 1=>by simp
 | x :: y :: a,1=>by rw [U3]; simp [Lib.join,List.intercalate]
 | x :: y :: a,i + 2=>by
  have:=ZaM sep (y :: a) (i + 1)
  rw [List.take_succ_cons,List.take_succ_cons] at *
  rw [U3,U3]
  simp only [List.length_append]
  omega
theorem PI (sep:List UInt8):∀ {a:List (List UInt8)} {x:List UInt8},x ∈ a→x.length≤(Lib.join a sep).length
 | [y],x,h=>by simp at h; subst h; simp [Lib.join,List.intercalate]
 | y :: z :: a,x,h=>by
  rw [U3]
  rcases List.mem_cons.1 h with rfl | h
  ·simp only [List.length_append]; omega
  ·have:=PI sep h
   simp only [List.length_append]; omega
def sgX (o:Int):List UInt8:=if decide (o=19)=true then [111,114] else if decide (o=18)=true then [97,110,100] else if decide (o=14)=true then [61] else if decide (o=15)=true then [33,61] else if decide (o=16)=true then [60] else if decide (o=17)=true then [60,61] else if decide (o=9)=true then [43] else if decide (o=10)=true then [45] else if decide (o=11)=true then [42] else if decide (o=12)=true then [47] else if decide (o=13)=true then [37] else []
def lvX (o:Int):Int:=if decide (o=19)=true then 1 else if decide (o=18)=true then 2 else if decide (o=6)=true then 3 else if decide (o=14)=true then 4 else if decide (o=15)=true then 4 else if decide (o=16)=true then 4 else if decide (o=17)=true then 4 else if decide (o=9)=true then 5 else if decide (o=10)=true then 5 else if decide (o=11)=true then 6 else if decide (o=12)=true then 6 else if decide (o=13)=true then 6 else if decide (o=5)=true then 7 else 8
def ZeJ (l least:Int)(s:List UInt8):List UInt8:=if l < least then 40 :: (s ++ [41]) else s
def OY (least:Int)(k:Int×List UInt8):List UInt8:=ZeJ k.1 least k.2
def Vg (w:List UInt8)(ts:List (List UInt8)):List UInt8:=w ++ 40 :: (Lib.join ts [44,32] ++ [41])
def k0 (ks:List (Int×List UInt8)):Int×List UInt8:=ks.getD 0 (0,[])
def k1 (ks:List (Int×List UInt8)):Int×List UInt8:=ks.getD 1 (0,[])
def Q9 (o:Int)(nm:List UInt8)(n:Int)(ks:List (Int×List UInt8)):List UInt8 :=
 if o=1 then (if n < 0 then 40 :: (Lib.itoa n ++ [41]) else Lib.itoa n)
 else if o=2 then (if n=1 then [116,114,117,101] else [102,97,108,115,101])
 else if o=3 then nm
 else if o=4 then [110,111,119]
 else if o=7 then Vg [100,117,114] (ks.map (·.2))
 else if o=8 then Vg [116,105,99,107,115] (ks.map (·.2))
 else if o=20 then Vg [109,105,110] (ks.map (·.2))
 else if o=21 then Vg [109,97,120] (ks.map (·.2))
 else if o=22 then [102,114,101,101,40] ++ (nm ++ [41])
 else if o=23 then [115,105,122,101,40] ++ (nm ++ [41])
 else if o=24 then [119,97,105,116,105,110,103,40] ++ (nm ++ [41])
 else if o=6 then [110,111,116,32] ++ OY 3 (k0 ks)
 else if o=5 then 45 :: OY 7 (k0 ks)
 else OY (if lvX o=4 then 5 else lvX o) (k0 ks) ++ 32 :: (sgX o ++ 32 :: OY (lvX o + 1) (k1 ks))
mutual
def txX:Zi→List UInt8
 | ⟨o,a,n,ks⟩=>Q9 o a n (Zbp ks)
def Zbp:List Zi→List (Int×List UInt8)
 | []=>[]
 | e :: l=>(lvX e.Op,txX e) :: Zbp l
end
theorem EU:∀ l:List Zi,Zbp l=l.map fun e=>(lvX e.Op,txX e)
 | []=>by rw [Zbp]; rfl
 | e :: l=>by rw [Zbp,EU l]; rfl
theorem Q5 (e:Zi):txX e=Q9 e.Op e.Name e.N (e.Kids.map fun e=>(lvX e.Op,txX e)):=by cases e; rw [txX,EU]
theorem OU {e:Zi}(h:Yj false e=0):KT false e=0∧∀ x ∈ e.Kids,Yj false x=0:=by
 rw [OW] at h
 by_cases c:KT false e=0
 ·rw [if_neg (by simp [c])] at h
  refine ⟨c,?_⟩
  generalize e.Kids=l at h
  induction l with
  | nil=>intro x hx; cases hx
  | cons y l ih =>
   rw [XM] at h
   by_cases c2:Yj false y=0
   ·rw [if_neg (by simp [c2])] at h
    intro x hx
    rcases List.mem_cons.1 hx with rfl | hx
    ·exact c2
    ·exact ih h x hx
   ·rw [if_pos (by simp [c2])] at h; exact absurd h c2
 ·rw [if_pos (by simp [c])] at h; exact absurd h c
theorem Rf {e:Zi}(h:KT false e=0):1≤e.Op∧e.Op≤24∧(e.Kids.length:Int)=U4 e.Op∧(e.Op=2→e.N=0∨e.N=1):=by
 unfold KT at h
 split at h
 ·cases h
 rename_i h1
 simp only [Bool.or_eq_true,Bool.not_eq_true',decide_eq_true_eq,not_or,Bool.not_eq_false,ne_eq,Decidable.not_not] at h1
 obtain ⟨⟨k1,k2⟩,k3⟩:=h1
 have hr:1≤e.Op∧e.Op≤24:=by
  unfold OV U4 at k1
  simp only [Bool.not_false] at k1
  by_cases c1:e.Op=25
  ·simp [c1] at k1
  by_cases c2:e.Op=26
  ·simp [c2] at k1
  repeat' split at k1
  all_goals simp_all
  all_goals omega
 refine ⟨hr.1,hr.2,k2,fun e2=>?_⟩
 rw [e2] at h
 simp only [Zb1,decide_true,if_true,Bool.not_true,Bool.false_and,Bool.true_and] at h
 by_cases c:e.N=0∨e.N=1
 ·exact c
 ·rw [if_neg (by decide),if_neg (by decide),if_pos (by simp only [Bool.or_eq_true,decide_eq_true_eq]; omega)] at h
  cases h
end Go.Proofs.YtbcfddaocfpckaaGreatDoor
end
section
namespace Go.Proofs.YtbcfddaocfpckaaGreatDoor
open Go Go.Proofs.YtbcfddaocfpckaaGreatDoor.Abs Go.Proofs.YtbcfddaocfpckaaGreatDoor.Tl
set_option maxRecDepth 100000
def lv0 (o:Int):Int:=if decide (o=19)=true then 1 else if decide (o=18)=true then 2 else if decide (o=14)=true then 4 else if decide (o=15)=true then 4 else if decide (o=16)=true then 4 else if decide (o=17)=true then 4 else if decide (o=9)=true then 5 else if decide (o=10)=true then 5 else if decide (o=11)=true then 6 else if decide (o=12)=true then 6 else if decide (o=13)=true then 6 else 8
theorem AC (L:Nat)(e:Zi):Xp L (e,())=some (lvX e.Op):=by
 rw [Et]; simp only [Zk,Zf,cond_true,cond_false,Zj,Zr,Zb,Zw,condC,Zl,Zm,Zx,ZR,Yb,ZQ]; simp only [Yt,XF,if_true,if_false,Bool.false_eq_true,ne_eq,decide_not,gt_iff_lt,ge_iff_le]; rfl
theorem Zdn (L:Nat)(o:Int):XW L (o,())=some (sgX o):=by
 rw [Zah]; simp only [Zk,Zf,cond_true,cond_false,Zj,Zr,Zb,Zw,condC,Zl,Zm,Zx,ZR,Yb,ZQ]; simp only [Yt,XF,if_true,if_false,Bool.false_eq_true,ne_eq,decide_not,gt_iff_lt,ge_iff_le]; rfl
theorem Zc2 (L:Nat)(o:Int):∃ b,YK L (o,())=some (sgX o,lv0 o,b,()):=by
 rw [IV]
 unfold sgX lv0
 simp only [ZR]
 by_cases c19:o=19
 ·exact ⟨true,by simp [c19]⟩
 by_cases c18:o=18
 ·exact ⟨true,by simp [c18]⟩
 by_cases c14:o=14
 ·exact ⟨true,by simp [c14]⟩
 by_cases c15:o=15
 ·exact ⟨true,by simp [c15]⟩
 by_cases c16:o=16
 ·exact ⟨true,by simp [c16]⟩
 by_cases c17:o=17
 ·exact ⟨true,by simp [c17]⟩
 by_cases c9:o=9
 ·exact ⟨true,by simp [c9]⟩
 by_cases c10:o=10
 ·exact ⟨true,by simp [c10]⟩
 by_cases c11:o=11
 ·exact ⟨true,by simp [c11]⟩
 by_cases c12:o=12
 ·exact ⟨true,by simp [c12]⟩
 by_cases c13:o=13
 ·exact ⟨true,by simp [c13]⟩
 exact ⟨false,by simp [c19,c18,c14,c15,c16,c17,c9,c10,c11,c12,c13]⟩
theorem Zcx {o:Int}(h5:o≠5)(h6:o≠6):lv0 o=lvX o:=by
 unfold lv0 lvX
 rw [if_neg (c := decide (o=6)=true) (by simp [h6]),if_neg (c := decide (o=5)=true) (by simp [h5])]
theorem Zdj (L:Nat)(e:Zi):QG L (e,())=some (lvX e.Op):=by
 rw [BP]
 obtain ⟨b,hb⟩:=Zc2 L e.Op
 by_cases c6:e.Op=6
 ·simp [c6,lvX]
 by_cases c5:e.Op=5
 ·simp [c5,lvX]
 rw [show (e.1 == 6)=false by simpa using c6,show (e.1 == 5)=false by simpa using c5,cond_false,cond_false,hb,Zr]
 exact congrArg some (Zcx c5 c6)
theorem ZbQ {L m:Nat}{e:Zi}(least:Int)(h:ZP L m (e,())=some (txX e))(hb:(txX e).length≤2199023255552):ZU L (m + 1) (e,least,())=some (OY least (lvX e.Op,txX e)):=by
 rw [Tq,Zdj,Zr,h]
 unfold OY ZeJ
 simp only [Zr]
 by_cases c:lvX e.Op < least
 ·rw [show decide (lvX e.Op < least)=true by simpa using c,cond_true,if_pos c]
  (simp (disch := (((try simp only [List.length_append,List.length_cons,List.length_nil] at *); omega))) only [Zo,Zr]); rfl
 ·rw [show decide (lvX e.Op < least)=false by simpa using c,cond_false,if_neg c]
theorem AO {L m:Nat}{e:Zi}(least:Int)(h:ZW L m (e,())=some (txX e))(hb:(txX e).length≤2199023255552):Ye L (m + 1) (e,least,())=some (OY least (lvX e.Op,txX e)):=by
 rw [BX,AC,Zr,h]
 unfold OY ZeJ
 simp only [Zr]
 by_cases c:lvX e.Op < least
 ·rw [show decide (lvX e.Op < least)=true by simpa using c,cond_true,if_pos c]
  (simp (disch := (((try simp only [List.length_append,List.length_cons,List.length_nil] at *); omega))) only [Zo,Zr]); rfl
 ·rw [show decide (lvX e.Op < least)=false by simpa using c,cond_false,if_neg c]
theorem Wi (least:Int)(k:Int×List UInt8):k.2.length≤(OY least k).length∧(OY least k).length≤k.2.length + 2:=by
 unfold OY ZeJ; split <;> simp <;> omega
theorem ZaY {L:Nat}{ρ:Type}{f:(List (List UInt8)×Int×PUnit→Option ρ)→List (List UInt8)×Int×PUnit→Option ρ}(g:Zi→Option (List UInt8))(k:List UInt8→Option ρ)(l:List Zi)
  (h0:∀ x ∈ l,g x=some (txX x)) (hL:l.length < L) (hb:(Lib.join (l.map txX) [44,32]).length≤2199023255552)
  (hf:∀ self acc,f self acc=bif decide (acc.2.1 < (l.length:Int)) then bT (getT l acc.2.1) fun y=>bT (g y) fun y=>bT (apT 16 acc.1 [y]) fun y=>self (y,IntKind.i64.wrap (acc.2.1 + 1),()) else bT (CG acc.1 [44,32]) k) :
  loopT f L ([],0,())=k (Lib.join (l.map txX) [44,32]):=by
 have hn:=ZaL (l.map txX) 44 32
 rw [List.length_map] at hn
 refine LZ l (fun i s=>s=(l.take i).map txX) _ hL [] rfl (fun self s i x hP hx hi mem e'=>?_) (fun self s hP=>?_)
 ·subst hP
  rw [hf]
  simp only [Zk hi,cond_true,Zj,hx,Zr,h0 x mem,wrap_succ hi (by omega)]
  rw [ZdA (by simp only [List.length_map,List.length_take,List.length_cons,List.length_nil]; omega)]
  exact e' _ (by rw [take_succ' hx]; simp)
 ·rw [List.take_length] at hP
  subst hP
  rw [hf]
  simp only [Zf,cond_false]
  rw [ZaN (by simp only [List.length_map]; omega) (by omega),Zr]
theorem ZbS {L:Nat}{f:(List UInt8×Int×PUnit→Option (List UInt8))→List UInt8×Int×PUnit→Option (List UInt8)}(g:Zi→Option (List UInt8))(l:List Zi)
  (h0:∀ x ∈ l,g x=some (txX x)) (hL:l.length < L) (hb:(Lib.join (l.map txX) [44,32]).length≤2199023255552)
  (hf:∀ self acc,f self acc=bif decide (acc.2.1 < (l.length:Int)) then bif decide (acc.2.1 > 0) then bT (catS acc.1 [44,32]) fun y=>bT (getT l acc.2.1) fun y_1=>bT (g y_1) fun y_2=>bT (catS y y_2) fun y=>self (y,IntKind.i64.wrap (acc.2.1 + 1),()) else bT (getT l acc.2.1) fun y=>bT (g y) fun y=>bT (catS acc.1 y) fun y=>self (y,IntKind.i64.wrap (acc.2.1 + 1),()) else bT (catS [40] acc.1) fun y=>bT (catS y [41]) fun y=>some y) :
  loopT f L ([],0,())=some (40 :: (Lib.join (l.map txX) [44,32] ++ [41])):=by
 have hn:=ZaL (l.map txX) 44 32
 rw [List.length_map] at hn
 refine LZ l (fun i s=>s=Lib.join ((l.map txX).take i) [44,32]) _ hL [] rfl (fun self s i x hP hx hi mem e'=>?_) (fun self s hP=>?_)
 ·subst hP
  have b1:=ZaM [44,32] (l.map txX) i
  have b2:=PI [44,32] (List.mem_map_of_mem (f := txX) mem)
  rw [hf]
  have hx':(l.map txX)[i]? = some (txX x):=by rw [List.getElem?_map,hx]; rfl
  have hs:=take_succ' hx'
  by_cases c:i=0
  ·subst c
   simp only [show decide (((0:Nat):Int) < (l.length:Int))=true from Zk hi,cond_true,show decide (((0:Nat):Int) > 0)=false from rfl,cond_false,Zj,hx,Zr,h0 x mem,wrap_succ hi (by omega)]
   rw [Zo (by simp [Lib.join,List.intercalate]; omega)]
   refine e' _ ?_
   rw [hs,Sz,if_pos (by simp)]
   simp [Lib.join,List.intercalate]
  ·simp only [Zk hi,cond_true,show decide ((i:Int) > 0)=true by simp; omega,Zj,hx,Zr,h0 x mem,wrap_succ hi (by omega)]
   rw [Zo (by simp only [List.length_cons,List.length_nil]; omega),Zo (by simp only [List.length_append,List.length_cons,List.length_nil]; omega)]
   refine e' _ ?_
   rw [hs,Sz,if_neg (by
    intro e
    have:=congrArg List.length e
    rw [List.length_take,List.length_map] at this
    simp only [List.length_nil] at this
    omega)]
   simp
 ·have e:(l.map txX).take l.length=l.map txX:=by rw [← List.length_map (f := txX),List.take_length]
  rw [e] at hP
  subst hP
  rw [hf]
  simp only [Zf,cond_false]
  (simp (disch := (((try simp only [List.length_append,List.length_cons,List.length_nil] at *); omega))) only [Zo,Zr])
  simp
end Go.Proofs.YtbcfddaocfpckaaGreatDoor
end
section
namespace Go.Proofs.YtbcfddaocfpckaaGreatDoor
open Go Go.Proofs.YtbcfddaocfpckaaGreatDoor.Abs Go.Proofs.YtbcfddaocfpckaaGreatDoor.Tl
set_option maxRecDepth 100000
theorem Zf2 {l:List Zi}(h:(l.length:Int)=1):∃ a,l=[a]:=by
 match l,h with
 | [a],_=>exact ⟨a,rfl⟩
 | [],h=>simp at h
 | _ :: _ :: _,h=>simp only [List.length_cons] at h; omega
theorem Zf3 {l:List Zi}(h:(l.length:Int)=2):∃ a b,l=[a,b]:=by
 match l,h with
 | [a,b],_=>exact ⟨a,b,rfl⟩
 | [],h=>simp at h
 | [_],h=>simp at h
 | _ :: _ :: _ :: _,h=>simp only [List.length_cons] at h; omega
theorem Zf9 {l:List Zi}(h:(l.length:Int)=0):l=[]:=List.eq_nil_of_length_eq_zero (by omega)
inductive RS:Zi→Prop
 | int (a n ks):RS ⟨1,a,n,ks⟩
 | bool (a n ks) (h:n=0∨n=1):RS ⟨2,a,n,ks⟩
 | name (a n ks):RS ⟨3,a,n,ks⟩
 | now (a n ks):RS ⟨4,a,n,ks⟩
 | call (o a n x ks) (h:o=7∨o=8∨o=20∨o=21):RS ⟨o,a,n,x :: ks⟩
 | obj (o a n) (h:o=22∨o=23∨o=24):RS ⟨o,a,n,[]⟩
 | un (o a n x) (h:o=5∨o=6):RS ⟨o,a,n,[x]⟩
 | bi (o a n x y) (h:9≤o∧o≤19):RS ⟨o,a,n,[x,y]⟩
theorem ZeB {e:Zi}(h:KT false e=0):RS e:=by
 obtain ⟨h1,h2,h3,h4⟩:=Rf h
 obtain ⟨o,a,n,ks⟩:=e
 simp only at h1 h2 h3 h4
 have cs:o=1∨o=2∨o=3∨o=4∨(o=7∨o=8)∨(o=20∨o=21)∨(o=22∨o=23∨o=24)∨(o=5∨o=6)∨(9≤o∧o≤19):=by omega
 rcases cs with rfl | rfl | rfl | rfl | c | c | c | c | c
 ·exact .int ..
 ·exact .bool _ _ _ (h4 rfl)
 ·exact .name ..
 ·exact .now ..
 ·have:U4 o=1:=by rcases c with rfl | rfl <;> rfl
  rw [this] at h3
  obtain ⟨x,rfl⟩:=Zf2 h3
  exact .call _ _ _ _ _ (by omega)
 ·have:U4 o=2:=by rcases c with rfl | rfl <;> rfl
  rw [this] at h3
  obtain ⟨x,y,rfl⟩:=Zf3 h3
  exact .call _ _ _ _ _ (by omega)
 ·have:U4 o=0:=by rcases c with rfl | rfl | rfl <;> rfl
  rw [this] at h3
  obtain rfl:=Zf9 h3
  exact .obj _ _ _ c
 ·have:U4 o=1:=by rcases c with rfl | rfl <;> rfl
  rw [this] at h3
  obtain ⟨x,rfl⟩:=Zf2 h3
  exact .un _ _ _ _ c
 ·have:U4 o=2:=by
   unfold U4
   rw [if_neg (by simp; omega),if_neg (by simp; omega),if_pos (by simp; omega)]
  rw [this] at h3
  obtain ⟨x,y,rfl⟩:=Zf3 h3
  exact .bi _ _ _ _ _ c
theorem ZbJ (l:List Zi):(Zbp l).map (·.2)=l.map txX:=by rw [EU,List.map_map]; rfl
theorem Jt (l:List Zi):(l.map fun e=>(lvX e.Op,txX e)).map (·.2)=l.map txX:=by rw [List.map_map]; rfl
theorem ZdC {o:Int}(h:9≤o∧o≤19):o≠1∧o≠2∧o≠3∧o≠4∧o≠7∧o≠8∧o≠20∧o≠21∧o≠22∧o≠23∧o≠24∧o≠6∧o≠5:=by omega
theorem ZdT {o:Int}(h:9≤o∧o≤19):1≤lvX o∧lvX o≤6∧lvX o≠3:=by
 have:o=9∨o=10∨o=11∨o=12∨o=13∨o=14∨o=15∨o=16∨o=17∨o=18∨o=19:=by omega
 rcases this with rfl | rfl | rfl | rfl | rfl | rfl | rfl | rfl | rfl | rfl | rfl <;> decide
theorem Zbl (o:Int):(sgX o).length≤3:=by
 unfold sgX
 repeat' split
 all_goals simp
theorem ZaQ {o:Int}(h:9≤o∧o≤19)(a:List UInt8)(n:Int)(p q:Int×List UInt8):Q9 o a n [p,q]=OY (if lvX o=4 then 5 else lvX o) p ++ 32 :: (sgX o ++ 32 :: OY (lvX o + 1) q):=by
 obtain ⟨h1,h2,h3,h4,h7,h8,h20,h21,h22,h23,h24,h6,h5⟩:=ZdC h
 unfold Q9
 simp only [h1,h2,h3,h4,h7,h8,h20,h21,h22,h23,h24,h6,h5,if_false]
 rfl
theorem Zbw {o:Int}(h:1≤lvX o∧lvX o≤6):IntKind.i64.wrap (lvX o + 1)=lvX o + 1:=Zbv (by omega) (by omega)
theorem Zea {L m:Nat}(w:List UInt8)(hw:w.length≤100)(o:Int)(a:List UInt8)(n:Int)(x:Zi)(ks:List Zi)(h0:∀ y ∈ x :: ks,ZP L m (y,())=some (txX y))(hL:(x :: ks).length < L)(hb:(Vg w ((x :: ks).map txX)).length≤2199023255552) :
  Yd L (m + 1) (w,⟨o,a,n,x :: ks⟩,())=some (Vg w ((x :: ks).map txX)):=by
 unfold Vg at hb ⊢
 simp only [List.length_append,List.length_cons,List.length_nil] at hb
 rw [Ij,show ((((x :: ks:List Zi).length:Nat):Int) == 0)=false by simp; omega,cond_false]
 rw [ZaY (fun y=>ZP L m (y,())) (fun y=>some y) (x :: ks) h0 hL (by omega) (fun self acc=>by rw [KW])]
 simp only [Zr]
 (simp (disch := (((try simp only [List.length_append,List.length_cons,List.length_nil] at *); omega))) only [Zo,Zr])
 simp
theorem Zba {L m:Nat}(l:List Zi)(h0:∀ y ∈ l,ZW L m (y,())=some (txX y))(hL:l.length < L)(hb:(Lib.join (l.map txX) [44,32]).length≤2199023255552) :
  WC L (m + 1) (l,())=some (40 :: (Lib.join (l.map txX) [44,32] ++ [41])):=by
 rw [Zag]
 exact ZbS (fun y=>ZW L m (y,())) l h0 hL hb fun self acc=>by rw [Tu]
theorem S9 {ks:List Zi}{x:Zi}(h:x ∈ ks):(txX x).length≤(Lib.join (ks.map txX) [44,32]).length:=PI _ (List.mem_map_of_mem h)
theorem Zbf (L:Nat):∀ (m:Nat) (e:Zi),ZA e→Yj false e=0→(txX e).length≤2199023255552→2 * SizeOf.sizeOf e≤m→m≤L→ZP L m (e,())=some (txX e)
 | 0,e,_,_,_,h,_=>absurd h (by have:=VX e; omega)
 | 1,e,_,_,_,h,_=>absurd h (by have:=VX e; omega)
 | m + 2,e,ok,hg,hb,hs,hm=>by
  obtain ⟨h1,hk⟩:=OU hg
  have ih:∀ x ∈ e.Kids,(txX x).length≤2199023255552→ZP L m (x,())=some (txX x):=fun x hx hb' =>
   Zbf L m x (ok.Kids.2 x hx) (hk x hx) hb' (by have:=Uk hx; omega) (by omega)
  have hks:=Z4 e.Kids; have hz:=Zb3 e
  rw [Nh]
  cases ZeB h1 with
  | int a n ks =>
   have hN:=ok.N
   have hl:=Ym hN
   simp only [Int.reduceBEq,cond_true,cond_false,Wy hN,Zr,txX,Q9,if_true,BEq.rfl]
   by_cases c:n < 0
   ·rw [show decide (n < 0)=true by simpa using c,cond_true,if_pos c]
    simp only at hl
    (simp (disch := (((try simp only [List.length_append,List.length_cons,List.length_nil] at *); omega))) only [Zo,Zr]); rfl
   ·rw [show decide (n < 0)=false by simpa using c,cond_false,if_neg c]
  | bool a n ks h =>
   simp only [BQ,txX,Q9]
   rcases h with rfl | rfl <;> rfl
  | name a n ks=>rfl
  | now a n ks=>rfl
  | call o a n x ks h =>
   have hb2:(Vg [] ((x :: ks).map txX)).length≤(txX ⟨o,a,n,x :: ks⟩).length:=by
    rw [Q5]
    rcases h with rfl | rfl | rfl | rfl <;> simp [Q9,Vg,Function.comp_def]
   have ih':∀ y ∈ x :: ks,ZP L m (y,())=some (txX y):=fun y hy=>ih y hy (by
    have:=S9 hy
    simp only [Vg,List.nil_append,List.length_append,List.length_cons] at hb2
    simp only [List.map_cons] at this hb2
    omega)
   have hL:(x :: ks).length < L:=by simp only at hks hz; omega
   rcases h with rfl | rfl | rfl | rfl
   all_goals
    simp only [Int.reduceBEq,cond_true,cond_false]
    rw [Q5] at hb ⊢
    simp only [Q9,Jt,Int.reduceEq,if_true,if_false] at hb ⊢
    rw [Zea _ (by simp) _ _ _ _ _ ih' hL hb]; rfl
  | obj o a n h =>
   have hN:=ok.nl
   rcases h with rfl | rfl | rfl
   all_goals
    rw [Q5] at hb ⊢
    simp only [Q9,Int.reduceEq,if_true,if_false,Int.reduceBEq,cond_true,cond_false] at hb ⊢
    rw [Ij]
    simp only [List.length_nil,show (((0:Nat):Int) == 0)=true from rfl,cond_true]
    simp only [List.length_append,List.length_cons,List.length_nil] at hb
    (simp (disch := (((try simp only [List.length_append,List.length_cons,List.length_nil] at *); omega))) only [Zo,Zr])
    simp
  | un o a n x h =>
   have hb2:(txX x).length≤(txX ⟨o,a,n,[x]⟩).length:=by
    rw [Q5 ⟨o,a,n,[x]⟩]
    have l1:=(Wi 3 (lvX x.Op,txX x)).1; have l2:=(Wi 7 (lvX x.Op,txX x)).1
    simp only at l1 l2
    rcases h with rfl | rfl <;> simp [Q9,k0] <;> omega
   have ihx:=ih x (by simp) (by omega)
   have e3:=ZbQ 3 ihx (by omega); have e7:=ZbQ 7 ihx (by omega)
   have l1:=(Wi 3 (lvX x.Op,txX x)).2; have l2:=(Wi 7 (lvX x.Op,txX x)).2
   simp only at l1 l2
   rcases h with rfl | rfl
   all_goals
    rw [Q5]
    simp only [Q9,Int.reduceEq,if_true,if_false,Int.reduceBEq,cond_true,cond_false,OT,List.getElem?_cons_zero,Zr,e3,e7]
    (simp (disch := (((try simp only [List.length_append,List.length_cons,List.length_nil] at *); omega))) only [Zo,Zr])
    simp [k0]
  | bi o a n x y h =>
   obtain ⟨h1',h2,h3,h4,h7,h8,h20,h21,h22,h23,h24,h6,h5⟩:=ZdC h
   obtain ⟨v1,v2,v3⟩:=ZdT h
   obtain ⟨b,hop⟩:=Zc2 L o
   rw [Zcx h5 h6] at hop
   have et:txX ⟨o,a,n,[x,y]⟩=OY (if lvX o=4 then 5 else lvX o) (lvX x.Op,txX x) ++ 32 :: (sgX o ++ 32 :: OY (lvX o + 1) (lvX y.Op,txX y)):=by
    rw [Q5]; exact ZaQ h a n _ _
   rw [et] at hb ⊢
   have l1:=(Wi (if lvX o=4 then 5 else lvX o) (lvX x.Op,txX x)).1; have l2:=(Wi (lvX o + 1) (lvX y.Op,txX y)).1
   have l3:=Zbl o
   simp only [List.length_append,List.length_cons] at hb l1 l2
   have ex:=ZbQ (if lvX o=4 then 5 else lvX o) (ih x (by simp) (by omega)) (by omega)
   have ey:=ZbQ (lvX o + 1) (ih y (by simp) (by omega)) (by omega)
   simp only [ZR,h1',h2,h3,h4,h7,h8,h20,h21,h22,h23,h24,h6,h5,decide_false,cond_false,hop,Zr,Zbw ⟨v1,v2⟩,OT,Zcu,List.getElem?_cons_zero,List.getElem?_cons_succ]
   by_cases c:lvX o=4
   ·simp only [c,if_true] at ex hb ⊢
    simp only [c] at ey
    rw [show (5:Int)=4 + 1 from rfl] at ex
    simp only [decide_true,cond_true,ex,ey,Zr,show ((5:Int)=4 + 1)=True from by simp]
    rw [show (5:Int)=4 + 1 from rfl] at hb ⊢
    (simp (disch := (((try simp only [List.length_append,List.length_cons,List.length_nil] at *); omega))) only [Zo,Zr])
    simp
   ·simp only [c,if_false] at ex hb ⊢
    simp only [decide_false,cond_false,ex,ey,Zr]
    (simp (disch := (((try simp only [List.length_append,List.length_cons,List.length_nil] at *); omega))) only [Zo,Zr])
    simp
end Go.Proofs.YtbcfddaocfpckaaGreatDoor
end
section
namespace Go.Proofs.YtbcfddaocfpckaaGreatDoor
open Go Go.Proofs.YtbcfddaocfpckaaGreatDoor.Abs Go.Proofs.YtbcfddaocfpckaaGreatDoor.Tl
set_option maxRecDepth 100000
theorem IX (L:Nat):∀ (m:Nat) (e:Zi),ZA e→Yj false e=0→(txX e).length≤2199023255552→3 * SizeOf.sizeOf e≤m→m≤L→ZW L m (e,())=some (txX e)
 | 0,e,_,_,_,h,_=>absurd h (by have:=VX e; omega)
 | 1,e,_,_,_,h,_=>absurd h (by have:=VX e; omega)
 | 2,e,_,_,_,h,_=>absurd h (by have:=VX e; omega)
 | m + 3,e,ok,hg,hb,hs,hm=>by
  obtain ⟨h1,hk⟩:=OU hg
  have ih:∀ x ∈ e.Kids,(txX x).length≤2199023255552→ZW L m (x,())=some (txX x):=fun x hx hb' =>
   IX L m x (ok.Kids.2 x hx) (hk x hx) hb' (by have:=Uk hx; omega) (by omega)
  have ih1:∀ x ∈ e.Kids,(txX x).length≤2199023255552→ZW L (m + 1) (x,())=some (txX x):=fun x hx hb' =>
   IX L (m + 1) x (ok.Kids.2 x hx) (hk x hx) hb' (by have:=Uk hx; omega) (by omega)
  have hks:=Z4 e.Kids; have hz:=Zb3 e
  rw [Zae,AC,Zr]
  cases ZeB h1 with
  | int a n ks =>
   have hN:=ok.N
   have hl:=Ym hN
   rw [show ((lvX (1:Int)) == 8)=true from rfl,cond_true,YX]
   simp only [Int.reduceBEq,cond_true,cond_false,Wy hN,Zr,txX,Q9,if_true,BEq.rfl]
   by_cases c:n < 0
   ·rw [show decide (n < 0)=true by simpa using c,cond_true,if_pos c]
    simp only at hl
    (simp (disch := (((try simp only [List.length_append,List.length_cons,List.length_nil] at *); omega))) only [Zo,Zr]); rfl
   ·rw [show decide (n < 0)=false by simpa using c,cond_false,if_neg c]; rfl
  | bool a n ks h =>
   rw [show ((lvX (2:Int)) == 8)=true from rfl,cond_true,YX]
   simp only [Int.reduceBEq,cond_true,cond_false,txX,Q9,Zb]
   rcases h with rfl | rfl <;> rfl
  | name a n ks=>rw [show ((lvX (3:Int)) == 8)=true from rfl,cond_true,YX]; rfl
  | now a n ks=>rw [show ((lvX (4:Int)) == 8)=true from rfl,cond_true,YX]; rfl
  | call o a n x ks h =>
   have hb2:(Vg [] ((x :: ks).map txX)).length≤(txX ⟨o,a,n,x :: ks⟩).length:=by
    rw [Q5]
    rcases h with rfl | rfl | rfl | rfl <;> simp [Q9,Vg,Function.comp_def]
   have ih':∀ y ∈ x :: ks,ZW L m (y,())=some (txX y):=fun y hy=>ih y hy (by
    have:=S9 hy
    simp only [Vg,List.nil_append,List.length_append,List.length_cons] at hb2
    simp only [List.map_cons] at this hb2
    omega)
   have hL:(x :: ks).length < L:=by simp only at hks hz; omega
   simp only [Vg,List.nil_append,List.length_append,List.length_cons,List.length_nil] at hb2
   have hl:=Zba (x :: ks) ih' hL (by omega)
   rcases h with rfl | rfl | rfl | rfl
   ·rw [show ((lvX (7:Int)) == 8)=true from rfl,cond_true,YX,Q5]
    simp only [Int.reduceBEq,cond_true,cond_false,Q9,Jt,Int.reduceEq,if_true,if_false,Vg,hl,Zr]
    (simp (disch := (((try simp only [List.length_append,List.length_cons,List.length_nil] at *); omega))) only [Zo,Zr])
   ·rw [show ((lvX (8:Int)) == 8)=true from rfl,cond_true,YX,Q5]
    simp only [Int.reduceBEq,cond_true,cond_false,Q9,Jt,Int.reduceEq,if_true,if_false,Vg,hl,Zr]
    (simp (disch := (((try simp only [List.length_append,List.length_cons,List.length_nil] at *); omega))) only [Zo,Zr])
   ·rw [show ((lvX (20:Int)) == 8)=true from rfl,cond_true,YX,Q5]
    simp only [Int.reduceBEq,cond_true,cond_false,Q9,Jt,Int.reduceEq,if_true,if_false,Vg,hl,Zr]
    (simp (disch := (((try simp only [List.length_append,List.length_cons,List.length_nil] at *); omega))) only [Zo,Zr])
   ·rw [show ((lvX (21:Int)) == 8)=true from rfl,cond_true,YX,Q5]
    simp only [Int.reduceBEq,cond_true,cond_false,Q9,Jt,Int.reduceEq,if_true,if_false,Vg,hl,Zr]
    (simp (disch := (((try simp only [List.length_append,List.length_cons,List.length_nil] at *); omega))) only [Zo,Zr])
  | obj o a n h =>
   have hN:=ok.nl
   have e8:(lvX o == 8)=true:=by rcases h with rfl | rfl | rfl <;> rfl
   simp only [e8,cond_true,YX]
   rcases h with rfl | rfl | rfl
   all_goals
    rw [Q5] at hb ⊢
    simp only [Q9,Int.reduceEq,if_true,if_false,Int.reduceBEq,cond_true,cond_false] at hb ⊢
    simp only [List.length_append,List.length_cons,List.length_nil] at hb
    (simp (disch := (((try simp only [List.length_append,List.length_cons,List.length_nil] at *); omega))) only [Zo,Zr])
    simp
  | un o a n x h =>
   have hb2:(txX x).length≤(txX ⟨o,a,n,[x]⟩).length:=by
    rw [Q5 ⟨o,a,n,[x]⟩]
    have l1:=(Wi 3 (lvX x.Op,txX x)).1; have l2:=(Wi 7 (lvX x.Op,txX x)).1
    simp only at l1 l2
    rcases h with rfl | rfl <;> simp [Q9,k0] <;> omega
   have ihx:=ih1 x (by simp) (by omega)
   have e3:=AO 3 ihx (by omega); have e7:=AO 7 ihx (by omega)
   have l1:=(Wi 3 (lvX x.Op,txX x)).2; have l2:=(Wi 7 (lvX x.Op,txX x)).2
   simp only at l1 l2
   rcases h with rfl | rfl
   ·simp only [show (lvX (5:Int) == 8)=false from rfl,show (lvX (5:Int) == 7)=true from rfl,cond_true,cond_false]
    rw [Q5]
    simp only [Q9,Int.reduceEq,if_true,if_false,Int.reduceBEq,cond_true,cond_false,OT,List.getElem?_cons_zero,Zr,e3,e7]
    (simp (disch := (((try simp only [List.length_append,List.length_cons,List.length_nil] at *); omega))) only [Zo,Zr])
    simp [k0]
   ·simp only [show (lvX (6:Int) == 8)=false from rfl,show (lvX (6:Int) == 7)=false from rfl,show (lvX (6:Int) == 3)=true from rfl,cond_true,cond_false]
    rw [Q5]
    simp only [Q9,Int.reduceEq,if_true,if_false,Int.reduceBEq,cond_true,cond_false,OT,List.getElem?_cons_zero,Zr,e3,e7]
    (simp (disch := (((try simp only [List.length_append,List.length_cons,List.length_nil] at *); omega))) only [Zo,Zr])
    simp [k0]
  | bi o a n x y h =>
   obtain ⟨v1,v2,v3⟩:=ZdT h
   have et:txX ⟨o,a,n,[x,y]⟩=OY (if lvX o=4 then 5 else lvX o) (lvX x.Op,txX x) ++ 32 :: (sgX o ++ 32 :: OY (lvX o + 1) (lvX y.Op,txX y)):=by
    rw [Q5]; exact ZaQ h a n _ _
   rw [et] at hb ⊢
   have l1:=(Wi (if lvX o=4 then 5 else lvX o) (lvX x.Op,txX x)).1; have l2:=(Wi (lvX o + 1) (lvX y.Op,txX y)).1
   have l3:=Zbl o
   simp only [List.length_append,List.length_cons] at hb l1 l2
   have ex:=AO (if lvX o=4 then 5 else lvX o) (ih1 x (by simp) (by omega)) (by omega)
   have ey:=AO (lvX o + 1) (ih1 y (by simp) (by omega)) (by omega)
   simp only [ZR,show ¬ lvX o=8 by omega,show ¬ lvX o=7 by omega,v3,decide_false,cond_false,Zdn,Zr,Zbw ⟨v1,v2⟩,OT,Zcu,List.getElem?_cons_zero,List.getElem?_cons_succ]
   by_cases c:lvX o=4
   ·simp only [c,if_true] at ex hb ⊢
    simp only [c] at ey
    rw [show (4:Int) + 1=5 from rfl] at ey hb ⊢
    simp only [decide_true,cond_true,ex,ey,Zr]
    (simp (disch := (((try simp only [List.length_append,List.length_cons,List.length_nil] at *); omega))) only [Zo,Zr])
    simp
   ·simp only [c,if_false] at ex hb ⊢
    simp only [decide_false,cond_false,ex,ey,Zr]
    (simp (disch := (((try simp only [List.length_append,List.length_cons,List.length_nil] at *); omega))) only [Zo,Zr])
    simp
theorem AP (L:Nat)(e:Zi)(ok:ZA e)(hg:Yj false e=0)(hb:(txX e).length≤2199023255552)(h:3 * SizeOf.sizeOf e≤L):Zz L (e,())=some (txX e):=Zbf L L e ok hg hb (by omega) (Nat.le_refl _)
theorem SL (L:Nat)(e:Zi)(ok:ZA e)(hg:Yj false e=0)(hb:(txX e).length≤2199023255552)(h:3 * SizeOf.sizeOf e≤L):YO L (e,())=some (txX e):=IX L L e ok hg hb h (Nat.le_refl _)
theorem U1 {e:Zi}(h:Y1 false e=0):Yj false e=0:=by
 unfold Y1 at h
 split at h
 ·cases h
 split at h
 ·cases h
 exact h
end Go.Proofs.YtbcfddaocfpckaaGreatDoor
end
section
namespace Go.Proofs.YtbcfddaocfpckaaGreatDoor
open Go Go.Proofs.YtbcfddaocfpckaaGreatDoor.Abs Go.Proofs.YtbcfddaocfpckaaGreatDoor.Tl
set_option maxRecDepth 100000
def nsX:List Int→List UInt8
 | []=>[]
 | n :: l=>32 :: (Lib.itoa n ++ nsX l)
def tbX:List Int→List Int→List UInt8
 | v :: vs,w :: ws=>32 :: (Lib.itoa v ++ 58 :: (Lib.itoa w ++ tbX vs ws))
 | _,_=>[]
def dtX (d:ZF):List UInt8 :=
 if d.Op=1 then [99,111,110,115,116] ++ nsX [d.A]
 else if d.Op=2 then [117,110,105,102,111,114,109] ++ nsX [d.A,d.B]
 else if d.Op=4 then [115,117,109] ++ nsX [d.N,d.A,d.B]
 else if d.Op=5 then [103,101,111,109] ++ nsX [d.A,d.B]
 else [116,97,98,108,101] ++ tbX d.Values d.Weights
theorem SE:∀ (l:List Int),(∀ n ∈ l,bd n)→(nsX l).length≤22 * l.length
 | [],_=>by simp [nsX]
 | n :: l,h=>by
  have h1:=Ym (h n (by simp)); have h2:=SE l fun x hx=>h x (List.mem_cons_of_mem _ hx)
  simp only [nsX,List.length_cons,List.length_append]; omega
theorem ZaS:∀ l m:List Int,nsX (l ++ m)=nsX l ++ nsX m
 | [],m=>rfl
 | n :: l,m=>by rw [List.cons_append,nsX,nsX,ZaS l m]; simp
theorem Dv:∀ (l m:List Int),(∀ n ∈ l,bd n)→(∀ n ∈ m,bd n)→(tbX l m).length≤44 * l.length
 | [],_,_,_=>by simp [tbX]
 | v :: vs,[],_,_=>by simp [tbX]
 | v :: vs,w :: ws,h,h'=>by
  have h1:=Ym (h v (by simp)); have h2:=Ym (h' w (by simp))
  have h3:=Dv vs ws (fun x hx=>h x (List.mem_cons_of_mem _ hx)) (fun x hx=>h' x (List.mem_cons_of_mem _ hx))
  simp only [tbX,List.length_cons,List.length_append]; omega
theorem Dw:∀ (l m:List Int) (v w:Int),l.length=m.length→tbX (l ++ [v]) (m ++ [w])=tbX l m ++ 32 :: (Lib.itoa v ++ 58 :: Lib.itoa w)
 | [],[],v,w,_=>by simp [tbX]
 | a :: l,b :: m,v,w,h=>by
  have:=Dw l m v w (by simpa using h)
  simp only [List.cons_append,tbX,this]
  simp
theorem BA (L:Nat)(w:List UInt8)(l:List Int)(hl:l.length≤1000)(hn:∀ n ∈ l,bd n)(hw:w.length≤1000)(hL:1000 < L):YG L (w,l,())=some (w ++ nsX l):=by
 rw [BI]
 have hb:=SE l hn
 refine LZ l (fun i s=>s=w ++ nsX (l.take i)) _ (by omega) w (by simp [nsX]) (fun self s i x hP hx hi mem e'=>?_) (fun self s hP=>?_)
 ·subst hP
  have h1:=Ym (hn x mem)
  have h2:=SE (l.take i) fun n hn'=>hn n (List.mem_of_mem_take hn')
  rw [List.length_take] at h2
  rw [XE]
  simp only [Zk hi,cond_true,Zj,hx,Zr,Wy (hn x mem),wrap_succ hi (by omega)]
  rw [Zo (by simp only [List.length_cons,List.length_nil]; omega),Zo (by simp only [List.length_append,List.length_cons,List.length_nil]; omega)]
  refine e' _ ?_
  rw [take_succ' hx,ZaS]
  simp [nsX]
 ·rw [List.take_length] at hP
  subst hP
  rw [XE]
  simp only [Zf,cond_false]
theorem P7 {d:ZF}(h:Vh d=0):(d.Op=1∨d.Op=2∨d.Op=3∨d.Op=4∨d.Op=5)∧(d.Op=3→d.Values.length=d.Weights.length∧d.Values.length≤20):=by
 unfold Vh at h
 split at h
 ·cases h
 split at h
 ·rename_i c; simp only [decide_eq_true_eq] at c; exact ⟨by omega,fun e=>by omega⟩
 split at h
 ·rename_i c; simp only [decide_eq_true_eq] at c; exact ⟨by omega,fun e=>by omega⟩
 split at h
 ·rename_i c; simp only [decide_eq_true_eq] at c; exact ⟨by omega,fun e=>by omega⟩
 split at h
 ·rename_i c; simp only [decide_eq_true_eq] at c; exact ⟨by omega,fun e=>by omega⟩
 split at h
 ·rename_i c; simp only [decide_eq_true_eq] at c
  refine ⟨by omega,fun _=>?_⟩
  split at h
  ·cases h
  rename_i c1
  split at h
  ·cases h
  split at h
  ·cases h
  rename_i c2
  simp only [decide_eq_true_eq,ne_eq,Decidable.not_not] at c1 c2
  omega
 ·cases h
theorem Zeg (L:Nat)(h1:1001≤L)(d:ZF)(ok:WE d)(hL:SizeOf.sizeOf d < L)(h:Vh d=0):Xk L (d,())=some (dtX d):=by
 obtain ⟨ho,h3⟩:=P7 h
 have hA:bd d.A:=ok.A; have hB:bd d.B:=ok.B; have hN:bd d.N:=ok.N
 rw [SV,OZ L d ok hL (by omega),Zr,h]
 have hb1:∀ n ∈ [d.A],bd n:=by simp only [List.mem_cons,List.not_mem_nil,or_false]; rintro n rfl; exact hA
 have hb2:∀ n ∈ [d.A,d.B],bd n:=by simp only [List.mem_cons,List.not_mem_nil,or_false]; rintro n (rfl | rfl); exact hA; exact hB
 have hb3:∀ n ∈ [d.N,d.A,d.B],bd n:=by simp only [List.mem_cons,List.not_mem_nil,or_false]; rintro n (rfl | rfl | rfl); exact hN; exact hA; exact hB
 unfold dtX
 rcases ho with c | c | c | c | c
 ·simp only [c,ZQ,ZR,decide_true,Bool.not_true,cond_false,cond_true,if_true]
  rw [BA L _ _ (by simp) hb1 (by simp) (by omega)]; rfl
 ·simp only [c,ZQ,ZR,decide_true,Bool.not_true,cond_false,cond_true,if_true,Int.reduceEq,decide_false,if_false]
  rw [BA L _ _ (by simp) hb2 (by simp) (by omega)]; rfl
 ·simp only [c,ZQ,ZR,decide_true,Bool.not_true,cond_false,cond_true,if_true,Int.reduceEq,decide_false,if_false]
  obtain ⟨e1,e2⟩:=h3 c
  have hV:=ok.Values.2; have hW:=ok.Weights.2
  rw [NW (by simp) (by simp)]
  refine loopK (f := Xx d) d.Values (fun (s:List UInt8) i=>(i,s,())) (fun i s=>s=[116,97,98,108,101] ++ tbX (d.Values.take i) (d.Weights.take i)) _ (fun self s i x hP hx hi mem e'=>?_) (fun self s hP=>?_) L 0 _ (by simp [tbX]) (Nat.zero_le _) (by omega)
  ·subst hP
   obtain ⟨w,hw⟩:∃ w,d.Weights[i]? = some w:=⟨_,List.getElem?_eq_getElem (by omega)⟩
   have hwm:=List.mem_of_getElem? hw
   have l1:=Ym (hV x mem); have l2:=Ym (hW w hwm)
   have l3:=Dv (d.Values.take i) (d.Weights.take i) (fun n hn=>hV n (List.mem_of_mem_take hn)) (fun n hn=>hW n (List.mem_of_mem_take hn))
   rw [List.length_take] at l3
   rw [Xx]
   simp only [Zk hi,cond_true,Zj,hx,hw,Zr,Wy (hV x mem),Wy (hW w hwm),wrap_succ hi (by omega)]
   rw [Zo (by simp only [List.length_cons,List.length_nil]; omega),Zo (by simp only [List.length_append,List.length_cons,List.length_nil]; omega),Zo (by simp only [List.length_append,List.length_cons,List.length_nil]; omega),NW (by simp only [List.length_append,List.length_cons,List.length_nil]; omega) (by simp only [List.length_append,List.length_cons,List.length_nil]; omega)]
   refine e' _ ?_
   rw [take_succ' hx,take_succ' hw,Dw _ _ _ _ (by rw [List.length_take,List.length_take]; omega)]
   simp
  ·have:d.Weights.take d.Values.length=d.Weights:=by rw [e1,List.take_length]
   rw [List.take_length,this] at hP
   subst hP
   rw [Xx]
   simp only [Zf,cond_false]
 ·simp only [c,ZQ,ZR,decide_true,Bool.not_true,cond_false,cond_true,if_true,Int.reduceEq,decide_false,if_false]
  rw [BA L _ _ (by simp) hb3 (by simp) (by omega)]; rfl
 ·simp only [c,ZQ,ZR,decide_true,Bool.not_true,cond_false,cond_true,if_true,Int.reduceEq,decide_false,if_false]
  rw [BA L _ _ (by simp) hb2 (by simp) (by omega)]; rfl
theorem Zdm (L:Nat)(h1:1001≤L)(d:ZF)(ok:WE d)(hL:SizeOf.sizeOf d < L)(h:Vh d=0):QP L (d,())=some (dtX d):=by
 obtain ⟨ho,h3⟩:=P7 h
 have hA:bd d.A:=ok.A; have hB:bd d.B:=ok.B; have hN:bd d.N:=ok.N
 have lA:=Ym hA; have lB:=Ym hB; have lN:=Ym hN
 rw [CV,JU L d ok hL,Zr,h]
 unfold dtX
 rcases ho with c | c | c | c | c
 ·simp only [c,ZQ,ZR,decide_true,Bool.not_true,cond_false,cond_true,if_true,Wy hA,Zr]
  rw [Zo (by simp only [List.length_cons,List.length_nil]; omega)]
  simp [nsX]
 ·simp only [c,ZQ,ZR,decide_true,Bool.not_true,cond_false,cond_true,if_true,Int.reduceEq,decide_false,if_false,Wy hA,Wy hB,Zr]
  (simp (disch := (((try simp only [List.length_append,List.length_cons,List.length_nil] at *); omega))) only [Zo,Zr])
  simp [nsX]
 ·simp only [c,ZQ,ZR,decide_true,Bool.not_true,cond_false,cond_true,if_true,Int.reduceEq,decide_false,if_false]
  obtain ⟨e1,e2⟩:=h3 c
  have hV:=ok.Values.2; have hW:=ok.Weights.2
  refine LZ (f := Vo d) d.Values (fun i s=>s=[116,97,98,108,101] ++ tbX (d.Values.take i) (d.Weights.take i)) _ (by omega) _ (by simp [tbX]) (fun self s i x hP hx hi mem e'=>?_) (fun self s hP=>?_)
  ·subst hP
   obtain ⟨w,hw⟩:∃ w,d.Weights[i]? = some w:=⟨_,List.getElem?_eq_getElem (by omega)⟩
   have hwm:=List.mem_of_getElem? hw
   have l1:=Ym (hV x mem); have l2:=Ym (hW w hwm)
   have l3:=Dv (d.Values.take i) (d.Weights.take i) (fun n hn=>hV n (List.mem_of_mem_take hn)) (fun n hn=>hW n (List.mem_of_mem_take hn))
   rw [List.length_take] at l3
   rw [Vo]
   simp only [Zk hi,cond_true,Zj,hx,hw,Zr,Wy (hV x mem),Wy (hW w hwm),wrap_succ hi (by omega)]
   rw [Zo (by simp only [List.length_append,List.length_cons,List.length_nil]; omega),Zo (by simp only [List.length_append,List.length_cons,List.length_nil]; omega),Zo (by simp only [List.length_append,List.length_cons,List.length_nil]; omega),Zo (by simp only [List.length_append,List.length_cons,List.length_nil]; omega)]
   refine e' _ ?_
   rw [take_succ' hx,take_succ' hw,Dw _ _ _ _ (by rw [List.length_take,List.length_take]; omega)]
   simp
  ·have:d.Weights.take d.Values.length=d.Weights:=by rw [e1,List.take_length]
   rw [List.take_length,this] at hP
   subst hP
   rw [Vo]
   simp only [Zf,cond_false]
 ·simp only [c,ZQ,ZR,decide_true,Bool.not_true,cond_false,cond_true,if_true,Int.reduceEq,decide_false,if_false,Wy hA,Wy hB,Wy hN,Zr]
  (simp (disch := (((try simp only [List.length_append,List.length_cons,List.length_nil] at *); omega))) only [Zo,Zr])
  simp [nsX]
 ·simp only [c,ZQ,ZR,decide_true,Bool.not_true,cond_false,cond_true,if_true,Int.reduceEq,decide_false,if_false,Wy hA,Wy hB,Zr]
  (simp (disch := (((try simp only [List.length_append,List.length_cons,List.length_nil] at *); omega))) only [Zo,Zr])
  simp [nsX]
def ZI (d:Nat)(s:List UInt8):List UInt8:=List.replicate d 32 ++ (s ++ [10])
theorem ZM (d:Nat)(s:List UInt8):(ZI d s).length=d + (s.length + 1):=by simp [ZI]
theorem Ze8 {d:Nat}(h:d≤140737488355328):ZeL [32] (d:Int)=some (List.replicate d 32):=by
 unfold ZeL
 rw [if_pos ⟨by omega,by omega,by simp; omega⟩,Int.toNat_natCast,show ([32]:List UInt8)=List.replicate 1 32 from rfl,Lib.repeatL_replicate,Nat.mul_one]
theorem Ws (L:Nat)(ws:List (List UInt8))(b:List UInt8)(d:Nat)(hw:ws.length≤140737488355328)(hb:b.length + (ZI d (Lib.join ws [32])).length≤4398046511104) :
  Zc L (ws,()) (b,(d:Int))=some ((),(b ++ ZI d (Lib.join ws [32]),(d:Int))):=by
 rw [ZM] at hb
 rw [Vm]
 simp only [Ze8 (show d≤140737488355328 by omega),ZaN (l := ws) (s := [32]) hw (by omega),Zr]
 rw [Zo (by simp only [List.length_replicate]; omega),Zo (by simp only [List.length_append,List.length_replicate,List.length_cons,List.length_nil]; omega),NW (by simp only [List.length_append,List.length_replicate,List.length_cons,List.length_nil]; omega) (by simp only [List.length_append,List.length_replicate,List.length_cons,List.length_nil]; omega)]
 simp [ZI,Zr]
theorem BF (L:Nat)(d:Nat)(s:List UInt8)(hd:d < L)(hb:(ZI d s).length≤4398046511104):Yf L ((d:Int),s,())=some (ZI d s):=by
 rw [ZM] at hb
 rw [Zaf]
 have hl:(List.replicate d ()).length=d:=List.length_replicate
 refine LZ (f := Vs (d:Int)) (List.replicate d ()) (fun i t=>t=List.replicate i 32 ++ s) _ (by omega) s rfl (fun self t i x hP hx hi mem e'=>?_) (fun self t hP=>?_)
 ·subst hP
  rw [hl] at hi
  rw [Vs]
  simp only [show decide ((i:Int) < (d:Int))=true by simpa using hi,cond_true,Zbv (n := (i:Int) + 1) (by omega) (by omega)]
  rw [Zo (by simp only [List.length_append,List.length_replicate,List.length_cons,List.length_nil]; omega)]
  exact e' _ (by rw [List.replicate_succ]; rfl)
 ·subst hP
  rw [hl,Vs]
  simp only [Zf,cond_false]
  rw [Zo (by simp only [List.length_append,List.length_replicate,List.length_cons,List.length_nil]; omega)]
  simp [ZI]
end Go.Proofs.YtbcfddaocfpckaaGreatDoor
end
section
namespace Go.Proofs.YtbcfddaocfpckaaGreatDoor
open Go Go.Proofs.YtbcfddaocfpckaaGreatDoor.Abs Go.Proofs.YtbcfddaocfpckaaGreatDoor.Tl
set_option maxRecDepth 100000
def Jq (l:List Zi):List UInt8:=40 :: (Lib.join (l.map txX) [44,32] ++ [41])
def Zp (s:Zd):List (List UInt8) :=
 if s.Op=1 then [[115,101,116],s.Name,[61],txX s.E]
 else if s.Op=2 then [[100,114,97,119],s.Name,[102,114,111,109],s.Of,dtX s.Dist]
 else if s.Op=5 then [[104,111,108,100],txX s.E]
 else if s.Op=6 then (if s.Flag=true then [[115,101,105,122,101],s.Name,txX s.E,[112,114,105,111],txX s.F,[112,114,101,101,109,112,116]] else [[115,101,105,122,101],s.Name,txX s.E,[112,114,105,111],txX s.F])
 else if s.Op=7 then [[114,101,108,101,97,115,101],s.Name,txX s.E]
 else if s.Op=8 then [[112,117,116],txX s.E,[105,110,116,111],s.Name]
 else if s.Op=9 then [[103,101,116],s.Of,[102,114,111,109],s.Name]
 else if s.Op=10 then [[114,105,100,101],s.Name]
 else if s.Op=11 then [[119,97,105,116],s.Name]
 else if s.Op=12 then [[115,105,103,110,97,108],s.Name,txX s.E]
 else if s.Op=13 then [[115,101,110,100],s.Of ++ (46 :: s.Name),Jq s.Args,[97,102,116,101,114],txX s.E]
 else if s.Op=14 then [[115,112,97,119,110],s.Name,Jq s.Args,[97,102,116,101,114],txX s.E]
 else if s.Op=15 then [[111,98,115,101,114,118,101],s.Name,txX s.E]
 else if s.Op=16 then [[108,101,118,101,108],s.Name,txX s.E]
 else if s.Op=17 then [[97,100,100],s.Name,txX s.E]
 else [[115,116,111,112]]
theorem jn1 (s a:List UInt8):Lib.join [a] s=a:=by simp [Lib.join,List.intercalate]
theorem DU (s a b:List UInt8)(l:List (List UInt8)):Lib.join (a :: b :: l) s=a ++ (s ++ Lib.join (b :: l) s):=U3 s a b l
structure Good (s:Zd):Prop where
 op:1≤s.Op∧s.Op≤18
 e:(Q4 s.Op).1.e=true→Yj false s.E=0
 f:(Q4 s.Op).1.f=true→Yj false s.F=0
 e0:(Q4 s.Op).1.e=false→s.E.Op=0
 args:∀ x ∈ s.Args,Yj false x=0
 few:s.Args.length≤6
 dist:(Q4 s.Op).1.dist=true→Vh s.Dist=0
 other:(Q4 s.Op).1.other=false→s.Else=[]
theorem ZeG {n:Int}(h:(Q4 n).2=true):1≤n∧n≤18:=by
 by_cases c:1≤n∧n≤18
 ·exact c
 ·exfalso
  have hn:∀ k:Int,1≤k→k≤18→decide (n=k)=false:=fun k h1 h2=>by simp; omega
  unfold Q4 at h
  simp only [hn 1 (by decide) (by decide),hn 2 (by decide) (by decide),hn 3 (by decide) (by decide),hn 4 (by decide) (by decide),hn 5 (by decide) (by decide),hn 6 (by decide) (by decide),hn 7 (by decide) (by decide),hn 8 (by decide) (by decide),hn 9 (by decide) (by decide),hn 10 (by decide) (by decide),hn 11 (by decide) (by decide),hn 12 (by decide) (by decide),hn 13 (by decide) (by decide),hn 14 (by decide) (by decide),hn 15 (by decide) (by decide),hn 16 (by decide) (by decide),hn 17 (by decide) (by decide),hn 18 (by decide) (by decide),Bool.false_eq_true,if_false] at h
theorem Pm (s:Zd)(u:QL):∀ l:List Zi,KL s u l=0→(∀ x ∈ l,Yj false x=0)∧(u.dist=true→Vh s.Dist=0)
 | [],h=>by
  rw [KL] at h
  exact ⟨fun x hx=>(by cases hx),fun hd=>by rw [if_pos hd] at h; exact h⟩
 | x :: r,h=>by
  rw [KL] at h
  by_cases c:Y1 false x=0
  ·rw [if_neg (by simp [c])] at h
   obtain ⟨h1,h2⟩:=Pm s u r h
   exact ⟨fun y hy=>by rcases List.mem_cons.1 hy with rfl | hy; exact U1 c; exact h1 y hy,h2⟩
  ·rw [if_pos (by simp [c])] at h; exact absurd h c
theorem ZaG {s:Zd}(h:PO s=0):Good s:=by
 unfold PO at h
 split at h
 ·cases h
 rename_i c
 simp only [Bool.or_eq_true,Bool.not_eq_true',not_or,Bool.not_eq_false] at c
 obtain ⟨hu,hf⟩:=c
 generalize hU:(Q4 s.Op).1=u at h hf
 have hn:Rl s u=0:=by
  unfold Ro at h
  rcases KQ s.Name with e1 | e1 <;> rcases KQ s.Of with e2 | e2 <;> cases hn:u.name <;> cases ho:u.of <;> simp [e1,e2,hn,ho] at h <;> exact h
 have he:(u.e=true→Yj false s.E=0)∧Rn s u=0:=by
  unfold Rl at hn
  cases hE:u.e with
  | false=>rw [hE] at hn; exact ⟨fun h=>(by cases h),by simpa using hn⟩
  | true =>
   rw [hE] at hn
   by_cases c:Y1 false s.E=0
   ·exact ⟨fun _=>U1 c,by simpa [c] using hn⟩
   ·exact absurd (by simpa [c] using hn) c
 have hF:(u.f=true→Yj false s.F=0)∧Rk s u=0:=by
  have hn:=he.2
  unfold Rn at hn
  cases hE:u.f with
  | false=>rw [hE] at hn; exact ⟨fun h=>(by cases h),by simpa using hn⟩
  | true =>
   rw [hE] at hn
   by_cases c:Y1 false s.F=0
   ·exact ⟨fun _=>U1 c,by simpa [c] using hn⟩
   ·exact absurd (by simpa [c] using hn) c
 have hA:s.Args.length≤6∧KL s u s.Args=0:=by
  have hn:=hF.2
  unfold Rk at hn
  split at hn
  ·cases hn
  ·rename_i c
   simp only [decide_eq_true_eq] at c
   exact ⟨by omega,hn⟩
 obtain ⟨a1,a2⟩:=Pm s u s.Args hA.2
 unfold PE at hf
 simp only [Bool.and_eq_true,Bool.or_eq_true,decide_eq_true_eq] at hf
 obtain ⟨⟨⟨⟨⟨⟨⟨⟨f1,f2⟩,f3⟩,f4⟩,f5⟩,f6⟩,f7⟩,f8⟩,f9⟩:=hf
 refine ⟨ZeG hu,by rw [hU]; exact he.1,by rw [hU]; exact hF.1,fun h0=>?_,a1,hA.1,by rw [hU]; exact a2,fun h0=>?_⟩
 ·rw [hU] at h0
  rcases f3 with f3 | f3
  ·rw [h0] at f3; cases f3
  ·unfold ML at f3
   simp only [Bool.and_eq_true,decide_eq_true_eq] at f3
   exact f3.1.1.1
 ·rw [hU] at h0
  rcases f9 with f9 | f9
  ·rw [h0] at f9; cases f9
  ·exact List.eq_nil_of_length_eq_zero (by omega)
theorem VQ {e:Zi}(h:Yj false e=0):(e.Op != 0)=true:=by
 have:=(Rf (OU h).1).1
 simp; omega
structure Txt (L:Nat)(s:Zd):Prop where
 ok:ZB s
 g:Good s
 L0:3 * SizeOf.sizeOf s≤L
 L1:1001≤L
 b:(Lib.join (Zp s) [32]).length≤2199023255552
theorem Txt.pe {L:Nat}{s:Zd}(h:Txt L s)(hu:(Q4 s.Op).1.e=true)(hb:(txX s.E).length≤2199023255552):Zz L (s.E,())=some (txX s.E)∧YO L (s.E,())=some (txX s.E):=by
 have:=(Fv s).1; have:=h.L0
 exact ⟨AP L s.E h.ok.E (h.g.e hu) hb (by omega),SL L s.E h.ok.E (h.g.e hu) hb (by omega)⟩
theorem Txt.pf {L:Nat}{s:Zd}(h:Txt L s)(hu:(Q4 s.Op).1.f=true)(hb:(txX s.F).length≤2199023255552):Zz L (s.F,())=some (txX s.F)∧YO L (s.F,())=some (txX s.F):=by
 have:=(Fv s).2.1; have:=h.L0
 exact ⟨AP L s.F h.ok.F (h.g.f hu) hb (by omega),SL L s.F h.ok.F (h.g.f hu) hb (by omega)⟩
theorem Txt.pd {L:Nat}{s:Zd}(h:Txt L s)(hu:(Q4 s.Op).1.dist=true):Xk L (s.Dist,())=some (dtX s.Dist)∧QP L (s.Dist,())=some (dtX s.Dist):=by
 have:=(TN s).1; have:=h.L0
 exact ⟨Zeg L h.L1 s.Dist h.ok.Dist (by omega) (h.g.dist hu),Zdm L h.L1 s.Dist h.ok.Dist (by omega) (h.g.dist hu)⟩
theorem Txt.pa {L:Nat}{s:Zd}(h:Txt L s)(hb:(Jq s.Args).length≤2199023255552):Qs L (s.Args,())=some (Jq s.Args)∧QR L (s.Args,())=some (Jq s.Args):=by
 have hz:=(Fv s).2.2.1; have:=h.L0; have hl:=Z4 s.Args; have:=h.L1
 unfold Jq at hb ⊢
 simp only [List.length_cons,List.length_append,List.length_nil] at hb
 have h0:∀ x ∈ s.Args,(txX x).length≤2199023255552:=fun x hx=>by have:=S9 hx; omega
 have hs:∀ x ∈ s.Args,3 * SizeOf.sizeOf x + 2≤L:=fun x hx=>by have:=ZeN hx; omega
 constructor
 ·rw [Nc,ZaY (fun y=>Zz L (y,())) (fun y=>some y) s.Args (fun x hx=>AP L x (h.ok.Args.2 x hx) (h.g.args x hx) (h0 x hx) (by have:=hs x hx; omega)) (by omega) (by omega) (fun self acc=>by rw [KU])]
  simp only [Zr]
  (simp (disch := (((try simp only [List.length_append,List.length_cons,List.length_nil] at *); omega))) only [Zo,Zr])
  simp
 ·obtain ⟨m,rfl⟩:∃ m,L=m + 1:=⟨L - 1,by omega⟩
  exact Zba s.Args (fun x hx=>IX (m + 1) m x (h.ok.Args.2 x hx) (h.g.args x hx) (h0 x hx) (by have:=hs x hx; omega) (by omega)) (by omega) (by omega)
theorem ZC {l:List (List UInt8)}{x:List UInt8}(h:x ∈ l)(hb:(Lib.join l [32]).length≤2199023255552):x.length≤2199023255552:=Nat.le_trans (PI _ h) hb
end Go.Proofs.YtbcfddaocfpckaaGreatDoor
end
section
namespace Go.Proofs.YtbcfddaocfpckaaGreatDoor
open Go Go.Proofs.YtbcfddaocfpckaaGreatDoor.Abs Go.Proofs.YtbcfddaocfpckaaGreatDoor.Tl
set_option maxRecDepth 100000
theorem EX {s:Zd}(c:s.Op=1):Zp s=[[115,101,116],s.Name,[61],txX s.E]:=by simp [Zp,c]
theorem Zfq {L:Nat}{s:Zd}(h:Txt L s)(c:s.Op=1):Zy L (s,())=some (Lib.join (Zp s) [32]):=by
 have hb:=h.b
 rw [EX c] at hb ⊢
 have mN:=ZC (x := s.Name) (by simp) hb
 have mE:=ZC (x := txX s.E) (by simp) hb
 obtain ⟨pe,re⟩:=h.pe (by rw [c]; rfl) mE
 have hz:(s.E.1 != 0)=true:=VQ (h.g.e (by rw [c]; rfl))
 rw [Z7]
 simp only [hz,c,re,Int.reduceBEq,cond_true,cond_false,Zr,BEq.rfl]
 clear h hb hz c
 (simp (disch := (((try simp only [List.length_append,List.length_cons,List.length_nil] at *); omega))) only [Zo,Zr])
 simp [DU,jn1]
theorem Zfj {L m:Nat}{s:Zd}{b:List UInt8}{d:Nat}(h:Txt L s)(c:s.Op=1)(hbb:b.length + (ZI d (Lib.join (Zp s) [32])).length≤4398046511104):Ze L (m + 1) (s,()) (b,(d:Int))=some ((),(b ++ ZI d (Lib.join (Zp s) [32]),(d:Int))):=by
 have hb:=h.b
 rw [EX c] at hb ⊢
 rw [EX c] at hbb
 have mN:=ZC (x := s.Name) (by simp) hb
 have mE:=ZC (x := txX s.E) (by simp) hb
 obtain ⟨pe,re⟩:=h.pe (by rw [c]; rfl) mE
 rw [Zh]
 simp only [c,pe,Int.reduceBEq,cond_true,cond_false,Zr,BEq.rfl]
 erw [Ws L [[115,101,116],s.Name,[61],txX s.E] b d (by simp) hbb]
 rfl
theorem EY {s:Zd}(c:s.Op=2):Zp s=[[100,114,97,119],s.Name,[102,114,111,109],s.Of,dtX s.Dist]:=by simp [Zp,c]
theorem Zfr {L:Nat}{s:Zd}(h:Txt L s)(c:s.Op=2):Zy L (s,())=some (Lib.join (Zp s) [32]):=by
 have hb:=h.b
 rw [EY c] at hb ⊢
 have mN:=ZC (x := s.Name) (by simp) hb
 have mO:=ZC (x := s.Of) (by simp) hb
 have hz:(s.E.1 != 0)=false:=by simp [h.g.e0 (by rw [c]; rfl)]
 have mD:=ZC (x := dtX s.Dist) (by simp) hb
 obtain ⟨pd,rd⟩:=h.pd (by rw [c]; rfl)
 rw [Z7]
 simp only [hz,c,rd,Int.reduceBEq,cond_true,cond_false,Zr,BEq.rfl]
 clear h hb hz c
 (simp (disch := (((try simp only [List.length_append,List.length_cons,List.length_nil] at *); omega))) only [Zo,Zr])
 simp [DU,jn1]
theorem Zfk {L m:Nat}{s:Zd}{b:List UInt8}{d:Nat}(h:Txt L s)(c:s.Op=2)(hbb:b.length + (ZI d (Lib.join (Zp s) [32])).length≤4398046511104):Ze L (m + 1) (s,()) (b,(d:Int))=some ((),(b ++ ZI d (Lib.join (Zp s) [32]),(d:Int))):=by
 have hb:=h.b
 rw [EY c] at hb ⊢
 rw [EY c] at hbb
 have mN:=ZC (x := s.Name) (by simp) hb
 have mO:=ZC (x := s.Of) (by simp) hb
 have mD:=ZC (x := dtX s.Dist) (by simp) hb
 obtain ⟨pd,rd⟩:=h.pd (by rw [c]; rfl)
 rw [Zh]
 simp only [c,pd,Int.reduceBEq,cond_true,cond_false,Zr,BEq.rfl]
 erw [Ws L [[100,114,97,119],s.Name,[102,114,111,109],s.Of,dtX s.Dist] b d (by simp) hbb]
 rfl
theorem EZ {s:Zd}(c:s.Op=5):Zp s=[[104,111,108,100],txX s.E]:=by simp [Zp,c]
theorem Zfs {L:Nat}{s:Zd}(h:Txt L s)(c:s.Op=5):Zy L (s,())=some (Lib.join (Zp s) [32]):=by
 have hb:=h.b
 rw [EZ c] at hb ⊢
 have mE:=ZC (x := txX s.E) (by simp) hb
 obtain ⟨pe,re⟩:=h.pe (by rw [c]; rfl) mE
 have hz:(s.E.1 != 0)=true:=VQ (h.g.e (by rw [c]; rfl))
 rw [Z7]
 simp only [hz,c,re,Int.reduceBEq,cond_true,cond_false,Zr,BEq.rfl]
 clear h hb hz c
 (simp (disch := (((try simp only [List.length_append,List.length_cons,List.length_nil] at *); omega))) only [Zo,Zr])
 simp [DU,jn1]
theorem Zfl {L m:Nat}{s:Zd}{b:List UInt8}{d:Nat}(h:Txt L s)(c:s.Op=5)(hbb:b.length + (ZI d (Lib.join (Zp s) [32])).length≤4398046511104):Ze L (m + 1) (s,()) (b,(d:Int))=some ((),(b ++ ZI d (Lib.join (Zp s) [32]),(d:Int))):=by
 have hb:=h.b
 rw [EZ c] at hb ⊢
 rw [EZ c] at hbb
 have mE:=ZC (x := txX s.E) (by simp) hb
 obtain ⟨pe,re⟩:=h.pe (by rw [c]; rfl) mE
 rw [Zh]
 simp only [c,pe,Int.reduceBEq,cond_true,cond_false,Zr,BEq.rfl]
 erw [Ws L [[104,111,108,100],txX s.E] b d (by simp) hbb]
 rfl
theorem DL {s:Zd}(c:s.Op=6)(hf:s.Flag=true):Zp s=[[115,101,105,122,101],s.Name,txX s.E,[112,114,105,111],txX s.F,[112,114,101,101,109,112,116]]:=by simp [Zp,c,hf]
theorem Ze6 {L:Nat}{s:Zd}(h:Txt L s)(c:s.Op=6)(hf:s.Flag=true):Zy L (s,())=some (Lib.join (Zp s) [32]):=by
 have hb:=h.b
 rw [DL c hf] at hb ⊢
 have mN:=ZC (x := s.Name) (by simp) hb
 have mE:=ZC (x := txX s.E) (by simp) hb
 obtain ⟨pe,re⟩:=h.pe (by rw [c]; rfl) mE
 have hz:(s.E.1 != 0)=true:=VQ (h.g.e (by rw [c]; rfl))
 have mF:=ZC (x := txX s.F) (by simp) hb
 obtain ⟨pf,rf⟩:=h.pf (by rw [c]; rfl) mF
 rw [Z7]
 simp only [hz,c,re,rf,hf,Int.reduceBEq,cond_true,cond_false,Zr,BEq.rfl]
 clear h hb hz c
 (simp (disch := (((try simp only [List.length_append,List.length_cons,List.length_nil] at *); omega))) only [Zo,Zr])
 simp [DU,jn1]
theorem Zeu {L m:Nat}{s:Zd}{b:List UInt8}{d:Nat}(h:Txt L s)(c:s.Op=6)(hf:s.Flag=true)(hbb:b.length + (ZI d (Lib.join (Zp s) [32])).length≤4398046511104):Ze L (m + 1) (s,()) (b,(d:Int))=some ((),(b ++ ZI d (Lib.join (Zp s) [32]),(d:Int))):=by
 have hb:=h.b
 rw [DL c hf] at hb ⊢
 rw [DL c hf] at hbb
 have mN:=ZC (x := s.Name) (by simp) hb
 have mE:=ZC (x := txX s.E) (by simp) hb
 obtain ⟨pe,re⟩:=h.pe (by rw [c]; rfl) mE
 have mF:=ZC (x := txX s.F) (by simp) hb
 obtain ⟨pf,rf⟩:=h.pf (by rw [c]; rfl) mF
 rw [Zh]
 simp only [c,pe,pf,hf,Int.reduceBEq,cond_true,cond_false,Zr,BEq.rfl]
 rw [ZdA (by simp)]
 erw [Ws L [[115,101,105,122,101],s.Name,txX s.E,[112,114,105,111],txX s.F,[112,114,101,101,109,112,116]] b d (by simp) hbb]
 rfl
theorem DN {s:Zd}(c:s.Op=6)(hf:s.Flag=false):Zp s=[[115,101,105,122,101],s.Name,txX s.E,[112,114,105,111],txX s.F]:=by simp [Zp,c,hf]
theorem Ze7 {L:Nat}{s:Zd}(h:Txt L s)(c:s.Op=6)(hf:s.Flag=false):Zy L (s,())=some (Lib.join (Zp s) [32]):=by
 have hb:=h.b
 rw [DN c hf] at hb ⊢
 have mN:=ZC (x := s.Name) (by simp) hb
 have mE:=ZC (x := txX s.E) (by simp) hb
 obtain ⟨pe,re⟩:=h.pe (by rw [c]; rfl) mE
 have hz:(s.E.1 != 0)=true:=VQ (h.g.e (by rw [c]; rfl))
 have mF:=ZC (x := txX s.F) (by simp) hb
 obtain ⟨pf,rf⟩:=h.pf (by rw [c]; rfl) mF
 rw [Z7]
 simp only [hz,c,re,rf,hf,Int.reduceBEq,cond_true,cond_false,Zr,BEq.rfl]
 clear h hb hz c
 (simp (disch := (((try simp only [List.length_append,List.length_cons,List.length_nil] at *); omega))) only [Zo,Zr])
 simp [DU,jn1]
theorem Zev {L m:Nat}{s:Zd}{b:List UInt8}{d:Nat}(h:Txt L s)(c:s.Op=6)(hf:s.Flag=false)(hbb:b.length + (ZI d (Lib.join (Zp s) [32])).length≤4398046511104):Ze L (m + 1) (s,()) (b,(d:Int))=some ((),(b ++ ZI d (Lib.join (Zp s) [32]),(d:Int))):=by
 have hb:=h.b
 rw [DN c hf] at hb ⊢
 rw [DN c hf] at hbb
 have mN:=ZC (x := s.Name) (by simp) hb
 have mE:=ZC (x := txX s.E) (by simp) hb
 obtain ⟨pe,re⟩:=h.pe (by rw [c]; rfl) mE
 have mF:=ZC (x := txX s.F) (by simp) hb
 obtain ⟨pf,rf⟩:=h.pf (by rw [c]; rfl) mF
 rw [Zh]
 simp only [c,pe,pf,hf,Int.reduceBEq,cond_true,cond_false,Zr,BEq.rfl]
 erw [Ws L [[115,101,105,122,101],s.Name,txX s.E,[112,114,105,111],txX s.F] b d (by simp) hbb]
 rfl
theorem Aa {s:Zd}(c:s.Op=7):Zp s=[[114,101,108,101,97,115,101],s.Name,txX s.E]:=by simp [Zp,c]
theorem Zft {L:Nat}{s:Zd}(h:Txt L s)(c:s.Op=7):Zy L (s,())=some (Lib.join (Zp s) [32]):=by
 have hb:=h.b
 rw [Aa c] at hb ⊢
 have mN:=ZC (x := s.Name) (by simp) hb
 have mE:=ZC (x := txX s.E) (by simp) hb
 obtain ⟨pe,re⟩:=h.pe (by rw [c]; rfl) mE
 have hz:(s.E.1 != 0)=true:=VQ (h.g.e (by rw [c]; rfl))
 rw [Z7]
 simp only [hz,c,re,Int.reduceBEq,cond_true,cond_false,Zr,BEq.rfl]
 clear h hb hz c
 (simp (disch := (((try simp only [List.length_append,List.length_cons,List.length_nil] at *); omega))) only [Zo,Zr])
 simp [DU,jn1]
theorem Zfm {L m:Nat}{s:Zd}{b:List UInt8}{d:Nat}(h:Txt L s)(c:s.Op=7)(hbb:b.length + (ZI d (Lib.join (Zp s) [32])).length≤4398046511104):Ze L (m + 1) (s,()) (b,(d:Int))=some ((),(b ++ ZI d (Lib.join (Zp s) [32]),(d:Int))):=by
 have hb:=h.b
 rw [Aa c] at hb ⊢
 rw [Aa c] at hbb
 have mN:=ZC (x := s.Name) (by simp) hb
 have mE:=ZC (x := txX s.E) (by simp) hb
 obtain ⟨pe,re⟩:=h.pe (by rw [c]; rfl) mE
 rw [Zh]
 simp only [c,pe,Int.reduceBEq,cond_true,cond_false,Zr,BEq.rfl]
 erw [Ws L [[114,101,108,101,97,115,101],s.Name,txX s.E] b d (by simp) hbb]
 rfl
theorem Ac {s:Zd}(c:s.Op=8):Zp s=[[112,117,116],txX s.E,[105,110,116,111],s.Name]:=by simp [Zp,c]
theorem Zfu {L:Nat}{s:Zd}(h:Txt L s)(c:s.Op=8):Zy L (s,())=some (Lib.join (Zp s) [32]):=by
 have hb:=h.b
 rw [Ac c] at hb ⊢
 have mN:=ZC (x := s.Name) (by simp) hb
 have mE:=ZC (x := txX s.E) (by simp) hb
 obtain ⟨pe,re⟩:=h.pe (by rw [c]; rfl) mE
 have hz:(s.E.1 != 0)=true:=VQ (h.g.e (by rw [c]; rfl))
 rw [Z7]
 simp only [hz,c,re,Int.reduceBEq,cond_true,cond_false,Zr,BEq.rfl]
 clear h hb hz c
 (simp (disch := (((try simp only [List.length_append,List.length_cons,List.length_nil] at *); omega))) only [Zo,Zr])
 simp [DU,jn1]
theorem Zfn {L m:Nat}{s:Zd}{b:List UInt8}{d:Nat}(h:Txt L s)(c:s.Op=8)(hbb:b.length + (ZI d (Lib.join (Zp s) [32])).length≤4398046511104):Ze L (m + 1) (s,()) (b,(d:Int))=some ((),(b ++ ZI d (Lib.join (Zp s) [32]),(d:Int))):=by
 have hb:=h.b
 rw [Ac c] at hb ⊢
 rw [Ac c] at hbb
 have mN:=ZC (x := s.Name) (by simp) hb
 have mE:=ZC (x := txX s.E) (by simp) hb
 obtain ⟨pe,re⟩:=h.pe (by rw [c]; rfl) mE
 rw [Zh]
 simp only [c,pe,Int.reduceBEq,cond_true,cond_false,Zr,BEq.rfl]
 erw [Ws L [[112,117,116],txX s.E,[105,110,116,111],s.Name] b d (by simp) hbb]
 rfl
theorem Ad {s:Zd}(c:s.Op=9):Zp s=[[103,101,116],s.Of,[102,114,111,109],s.Name]:=by simp [Zp,c]
theorem Zfv {L:Nat}{s:Zd}(h:Txt L s)(c:s.Op=9):Zy L (s,())=some (Lib.join (Zp s) [32]):=by
 have hb:=h.b
 rw [Ad c] at hb ⊢
 have mO:=ZC (x := s.Of) (by simp) hb
 have mN:=ZC (x := s.Name) (by simp) hb
 have hz:(s.E.1 != 0)=false:=by simp [h.g.e0 (by rw [c]; rfl)]
 rw [Z7]
 simp only [hz,c,Int.reduceBEq,cond_true,cond_false,Zr,BEq.rfl]
 clear h hb hz c
 (simp (disch := (((try simp only [List.length_append,List.length_cons,List.length_nil] at *); omega))) only [Zo,Zr])
 simp [DU,jn1]
theorem Zfo {L m:Nat}{s:Zd}{b:List UInt8}{d:Nat}(h:Txt L s)(c:s.Op=9)(hbb:b.length + (ZI d (Lib.join (Zp s) [32])).length≤4398046511104):Ze L (m + 1) (s,()) (b,(d:Int))=some ((),(b ++ ZI d (Lib.join (Zp s) [32]),(d:Int))):=by
 have hb:=h.b
 rw [Ad c] at hb ⊢
 rw [Ad c] at hbb
 have mO:=ZC (x := s.Of) (by simp) hb
 have mN:=ZC (x := s.Name) (by simp) hb
 rw [Zh]
 simp only [c,Int.reduceBEq,cond_true,cond_false,Zr,BEq.rfl]
 erw [Ws L [[103,101,116],s.Of,[102,114,111,109],s.Name] b d (by simp) hbb]
 rfl
theorem D6 {s:Zd}(c:s.Op=10):Zp s=[[114,105,100,101],s.Name]:=by simp [Zp,c]
theorem Zex {L:Nat}{s:Zd}(h:Txt L s)(c:s.Op=10):Zy L (s,())=some (Lib.join (Zp s) [32]):=by
 have hb:=h.b
 rw [D6 c] at hb ⊢
 have mN:=ZC (x := s.Name) (by simp) hb
 have hz:(s.E.1 != 0)=false:=by simp [h.g.e0 (by rw [c]; rfl)]
 rw [Z7]
 simp only [hz,c,Int.reduceBEq,cond_true,cond_false,Zr,BEq.rfl]
 clear h hb hz c
 (simp (disch := (((try simp only [List.length_append,List.length_cons,List.length_nil] at *); omega))) only [Zo,Zr])
 simp [DU,jn1]
theorem Zel {L m:Nat}{s:Zd}{b:List UInt8}{d:Nat}(h:Txt L s)(c:s.Op=10)(hbb:b.length + (ZI d (Lib.join (Zp s) [32])).length≤4398046511104):Ze L (m + 1) (s,()) (b,(d:Int))=some ((),(b ++ ZI d (Lib.join (Zp s) [32]),(d:Int))):=by
 have hb:=h.b
 rw [D6 c] at hb ⊢
 rw [D6 c] at hbb
 have mN:=ZC (x := s.Name) (by simp) hb
 rw [Zh]
 simp only [c,Int.reduceBEq,cond_true,cond_false,Zr,BEq.rfl]
 erw [Ws L [[114,105,100,101],s.Name] b d (by simp) hbb]
 rfl
theorem D7 {s:Zd}(c:s.Op=11):Zp s=[[119,97,105,116],s.Name]:=by simp [Zp,c]
theorem Zey {L:Nat}{s:Zd}(h:Txt L s)(c:s.Op=11):Zy L (s,())=some (Lib.join (Zp s) [32]):=by
 have hb:=h.b
 rw [D7 c] at hb ⊢
 have mN:=ZC (x := s.Name) (by simp) hb
 have hz:(s.E.1 != 0)=false:=by simp [h.g.e0 (by rw [c]; rfl)]
 rw [Z7]
 simp only [hz,c,Int.reduceBEq,cond_true,cond_false,Zr,BEq.rfl]
 clear h hb hz c
 (simp (disch := (((try simp only [List.length_append,List.length_cons,List.length_nil] at *); omega))) only [Zo,Zr])
 simp [DU,jn1]
theorem Zem {L m:Nat}{s:Zd}{b:List UInt8}{d:Nat}(h:Txt L s)(c:s.Op=11)(hbb:b.length + (ZI d (Lib.join (Zp s) [32])).length≤4398046511104):Ze L (m + 1) (s,()) (b,(d:Int))=some ((),(b ++ ZI d (Lib.join (Zp s) [32]),(d:Int))):=by
 have hb:=h.b
 rw [D7 c] at hb ⊢
 rw [D7 c] at hbb
 have mN:=ZC (x := s.Name) (by simp) hb
 rw [Zh]
 simp only [c,Int.reduceBEq,cond_true,cond_false,Zr,BEq.rfl]
 erw [Ws L [[119,97,105,116],s.Name] b d (by simp) hbb]
 rfl
theorem D8 {s:Zd}(c:s.Op=12):Zp s=[[115,105,103,110,97,108],s.Name,txX s.E]:=by simp [Zp,c]
theorem Zez {L:Nat}{s:Zd}(h:Txt L s)(c:s.Op=12):Zy L (s,())=some (Lib.join (Zp s) [32]):=by
 have hb:=h.b
 rw [D8 c] at hb ⊢
 have mN:=ZC (x := s.Name) (by simp) hb
 have mE:=ZC (x := txX s.E) (by simp) hb
 obtain ⟨pe,re⟩:=h.pe (by rw [c]; rfl) mE
 have hz:(s.E.1 != 0)=true:=VQ (h.g.e (by rw [c]; rfl))
 rw [Z7]
 simp only [hz,c,re,Int.reduceBEq,cond_true,cond_false,Zr,BEq.rfl]
 clear h hb hz c
 (simp (disch := (((try simp only [List.length_append,List.length_cons,List.length_nil] at *); omega))) only [Zo,Zr])
 simp [DU,jn1]
theorem Zen {L m:Nat}{s:Zd}{b:List UInt8}{d:Nat}(h:Txt L s)(c:s.Op=12)(hbb:b.length + (ZI d (Lib.join (Zp s) [32])).length≤4398046511104):Ze L (m + 1) (s,()) (b,(d:Int))=some ((),(b ++ ZI d (Lib.join (Zp s) [32]),(d:Int))):=by
 have hb:=h.b
 rw [D8 c] at hb ⊢
 rw [D8 c] at hbb
 have mN:=ZC (x := s.Name) (by simp) hb
 have mE:=ZC (x := txX s.E) (by simp) hb
 obtain ⟨pe,re⟩:=h.pe (by rw [c]; rfl) mE
 rw [Zh]
 simp only [c,pe,Int.reduceBEq,cond_true,cond_false,Zr,BEq.rfl]
 erw [Ws L [[115,105,103,110,97,108],s.Name,txX s.E] b d (by simp) hbb]
 rfl
theorem D9 {s:Zd}(c:s.Op=13):Zp s=[[115,101,110,100],s.Of ++ (46 :: s.Name),Jq s.Args,[97,102,116,101,114],txX s.E]:=by simp [Zp,c]
theorem Ze0 {L:Nat}{s:Zd}(h:Txt L s)(c:s.Op=13):Zy L (s,())=some (Lib.join (Zp s) [32]):=by
 have hb:=h.b
 rw [D9 c] at hb ⊢
 have mON:=ZC (x := s.Of ++ (46 :: s.Name)) (by simp) hb
 have mE:=ZC (x := txX s.E) (by simp) hb
 obtain ⟨pe,re⟩:=h.pe (by rw [c]; rfl) mE
 have hz:(s.E.1 != 0)=true:=VQ (h.g.e (by rw [c]; rfl))
 have mA:=ZC (x := Jq s.Args) (by simp) hb
 obtain ⟨pa,ra⟩:=h.pa mA
 simp only [List.length_append,List.length_cons] at mON
 rw [Z7]
 simp only [hz,c,re,ra,Int.reduceBEq,cond_true,cond_false,Zr,BEq.rfl]
 clear h hb hz c
 (simp (disch := (((try simp only [List.length_append,List.length_cons,List.length_nil] at *); omega))) only [Zo,Zr])
 simp [DU,jn1]
theorem Zeo {L m:Nat}{s:Zd}{b:List UInt8}{d:Nat}(h:Txt L s)(c:s.Op=13)(hbb:b.length + (ZI d (Lib.join (Zp s) [32])).length≤4398046511104):Ze L (m + 1) (s,()) (b,(d:Int))=some ((),(b ++ ZI d (Lib.join (Zp s) [32]),(d:Int))):=by
 have hb:=h.b
 rw [D9 c] at hb ⊢
 rw [D9 c] at hbb
 have mON:=ZC (x := s.Of ++ (46 :: s.Name)) (by simp) hb
 have mE:=ZC (x := txX s.E) (by simp) hb
 obtain ⟨pe,re⟩:=h.pe (by rw [c]; rfl) mE
 have mA:=ZC (x := Jq s.Args) (by simp) hb
 obtain ⟨pa,ra⟩:=h.pa mA
 simp only [List.length_append,List.length_cons] at mON
 rw [Zh]
 simp only [c,pe,pa,Int.reduceBEq,cond_true,cond_false,Zr,BEq.rfl]
 rw [Zo (by simp; omega),Zo (by simp; omega)]
 simp only [Zr,List.append_assoc,List.singleton_append,List.cons_append,List.nil_append]
 erw [Ws L [[115,101,110,100],s.Of ++ (46 :: s.Name),Jq s.Args,[97,102,116,101,114],txX s.E] b d (by simp) hbb]
 rfl
theorem DC {s:Zd}(c:s.Op=14):Zp s=[[115,112,97,119,110],s.Name,Jq s.Args,[97,102,116,101,114],txX s.E]:=by simp [Zp,c]
theorem Ze1 {L:Nat}{s:Zd}(h:Txt L s)(c:s.Op=14):Zy L (s,())=some (Lib.join (Zp s) [32]):=by
 have hb:=h.b
 rw [DC c] at hb ⊢
 have mN:=ZC (x := s.Name) (by simp) hb
 have mE:=ZC (x := txX s.E) (by simp) hb
 obtain ⟨pe,re⟩:=h.pe (by rw [c]; rfl) mE
 have hz:(s.E.1 != 0)=true:=VQ (h.g.e (by rw [c]; rfl))
 have mA:=ZC (x := Jq s.Args) (by simp) hb
 obtain ⟨pa,ra⟩:=h.pa mA
 rw [Z7]
 simp only [hz,c,re,ra,Int.reduceBEq,cond_true,cond_false,Zr,BEq.rfl]
 clear h hb hz c
 (simp (disch := (((try simp only [List.length_append,List.length_cons,List.length_nil] at *); omega))) only [Zo,Zr])
 simp [DU,jn1]
theorem Zep {L m:Nat}{s:Zd}{b:List UInt8}{d:Nat}(h:Txt L s)(c:s.Op=14)(hbb:b.length + (ZI d (Lib.join (Zp s) [32])).length≤4398046511104):Ze L (m + 1) (s,()) (b,(d:Int))=some ((),(b ++ ZI d (Lib.join (Zp s) [32]),(d:Int))):=by
 have hb:=h.b
 rw [DC c] at hb ⊢
 rw [DC c] at hbb
 have mN:=ZC (x := s.Name) (by simp) hb
 have mE:=ZC (x := txX s.E) (by simp) hb
 obtain ⟨pe,re⟩:=h.pe (by rw [c]; rfl) mE
 have mA:=ZC (x := Jq s.Args) (by simp) hb
 obtain ⟨pa,ra⟩:=h.pa mA
 rw [Zh]
 simp only [c,pe,pa,Int.reduceBEq,cond_true,cond_false,Zr,BEq.rfl]
 erw [Ws L [[115,112,97,119,110],s.Name,Jq s.Args,[97,102,116,101,114],txX s.E] b d (by simp) hbb]
 rfl
theorem DD {s:Zd}(c:s.Op=15):Zp s=[[111,98,115,101,114,118,101],s.Name,txX s.E]:=by simp [Zp,c]
theorem Ze2 {L:Nat}{s:Zd}(h:Txt L s)(c:s.Op=15):Zy L (s,())=some (Lib.join (Zp s) [32]):=by
 have hb:=h.b
 rw [DD c] at hb ⊢
 have mN:=ZC (x := s.Name) (by simp) hb
 have mE:=ZC (x := txX s.E) (by simp) hb
 obtain ⟨pe,re⟩:=h.pe (by rw [c]; rfl) mE
 have hz:(s.E.1 != 0)=true:=VQ (h.g.e (by rw [c]; rfl))
 rw [Z7]
 simp only [hz,c,re,Int.reduceBEq,cond_true,cond_false,Zr,BEq.rfl]
 clear h hb hz c
 (simp (disch := (((try simp only [List.length_append,List.length_cons,List.length_nil] at *); omega))) only [Zo,Zr])
 simp [DU,jn1]
theorem Zeq {L m:Nat}{s:Zd}{b:List UInt8}{d:Nat}(h:Txt L s)(c:s.Op=15)(hbb:b.length + (ZI d (Lib.join (Zp s) [32])).length≤4398046511104):Ze L (m + 1) (s,()) (b,(d:Int))=some ((),(b ++ ZI d (Lib.join (Zp s) [32]),(d:Int))):=by
 have hb:=h.b
 rw [DD c] at hb ⊢
 rw [DD c] at hbb
 have mN:=ZC (x := s.Name) (by simp) hb
 have mE:=ZC (x := txX s.E) (by simp) hb
 obtain ⟨pe,re⟩:=h.pe (by rw [c]; rfl) mE
 rw [Zh]
 simp only [c,pe,Int.reduceBEq,cond_true,cond_false,Zr,BEq.rfl]
 erw [Ws L [[111,98,115,101,114,118,101],s.Name,txX s.E] b d (by simp) hbb]
 rfl
theorem DF {s:Zd}(c:s.Op=16):Zp s=[[108,101,118,101,108],s.Name,txX s.E]:=by simp [Zp,c]
theorem Ze3 {L:Nat}{s:Zd}(h:Txt L s)(c:s.Op=16):Zy L (s,())=some (Lib.join (Zp s) [32]):=by
 have hb:=h.b
 rw [DF c] at hb ⊢
 have mN:=ZC (x := s.Name) (by simp) hb
 have mE:=ZC (x := txX s.E) (by simp) hb
 obtain ⟨pe,re⟩:=h.pe (by rw [c]; rfl) mE
 have hz:(s.E.1 != 0)=true:=VQ (h.g.e (by rw [c]; rfl))
 rw [Z7]
 simp only [hz,c,re,Int.reduceBEq,cond_true,cond_false,Zr,BEq.rfl]
 clear h hb hz c
 (simp (disch := (((try simp only [List.length_append,List.length_cons,List.length_nil] at *); omega))) only [Zo,Zr])
 simp [DU,jn1]
theorem Zer {L m:Nat}{s:Zd}{b:List UInt8}{d:Nat}(h:Txt L s)(c:s.Op=16)(hbb:b.length + (ZI d (Lib.join (Zp s) [32])).length≤4398046511104):Ze L (m + 1) (s,()) (b,(d:Int))=some ((),(b ++ ZI d (Lib.join (Zp s) [32]),(d:Int))):=by
 have hb:=h.b
 rw [DF c] at hb ⊢
 rw [DF c] at hbb
 have mN:=ZC (x := s.Name) (by simp) hb
 have mE:=ZC (x := txX s.E) (by simp) hb
 obtain ⟨pe,re⟩:=h.pe (by rw [c]; rfl) mE
 rw [Zh]
 simp only [c,pe,Int.reduceBEq,cond_true,cond_false,Zr,BEq.rfl]
 erw [Ws L [[108,101,118,101,108],s.Name,txX s.E] b d (by simp) hbb]
 rfl
theorem DI {s:Zd}(c:s.Op=17):Zp s=[[97,100,100],s.Name,txX s.E]:=by simp [Zp,c]
theorem Ze4 {L:Nat}{s:Zd}(h:Txt L s)(c:s.Op=17):Zy L (s,())=some (Lib.join (Zp s) [32]):=by
 have hb:=h.b
 rw [DI c] at hb ⊢
 have mN:=ZC (x := s.Name) (by simp) hb
 have mE:=ZC (x := txX s.E) (by simp) hb
 obtain ⟨pe,re⟩:=h.pe (by rw [c]; rfl) mE
 have hz:(s.E.1 != 0)=true:=VQ (h.g.e (by rw [c]; rfl))
 rw [Z7]
 simp only [hz,c,re,Int.reduceBEq,cond_true,cond_false,Zr,BEq.rfl]
 clear h hb hz c
 (simp (disch := (((try simp only [List.length_append,List.length_cons,List.length_nil] at *); omega))) only [Zo,Zr])
 simp [DU,jn1]
theorem Zes {L m:Nat}{s:Zd}{b:List UInt8}{d:Nat}(h:Txt L s)(c:s.Op=17)(hbb:b.length + (ZI d (Lib.join (Zp s) [32])).length≤4398046511104):Ze L (m + 1) (s,()) (b,(d:Int))=some ((),(b ++ ZI d (Lib.join (Zp s) [32]),(d:Int))):=by
 have hb:=h.b
 rw [DI c] at hb ⊢
 rw [DI c] at hbb
 have mN:=ZC (x := s.Name) (by simp) hb
 have mE:=ZC (x := txX s.E) (by simp) hb
 obtain ⟨pe,re⟩:=h.pe (by rw [c]; rfl) mE
 rw [Zh]
 simp only [c,pe,Int.reduceBEq,cond_true,cond_false,Zr,BEq.rfl]
 erw [Ws L [[97,100,100],s.Name,txX s.E] b d (by simp) hbb]
 rfl
theorem DJ {s:Zd}(c:s.Op=18):Zp s=[[115,116,111,112]]:=by simp [Zp,c]
theorem Ze5 {L:Nat}{s:Zd}(h:Txt L s)(c:s.Op=18):Zy L (s,())=some (Lib.join (Zp s) [32]):=by
 have hb:=h.b
 rw [DJ c] at hb ⊢
 have hz:(s.E.1 != 0)=false:=by simp [h.g.e0 (by rw [c]; rfl)]
 rw [Z7]
 simp only [hz,c,Int.reduceBEq,cond_true,cond_false,Zr,BEq.rfl]
 clear h hb hz c
 simp [jn1]
theorem Zet {L m:Nat}{s:Zd}{b:List UInt8}{d:Nat}(h:Txt L s)(c:s.Op=18)(hbb:b.length + (ZI d (Lib.join (Zp s) [32])).length≤4398046511104):Ze L (m + 1) (s,()) (b,(d:Int))=some ((),(b ++ ZI d (Lib.join (Zp s) [32]),(d:Int))):=by
 have hb:=h.b
 rw [DJ c] at hb ⊢
 rw [DJ c] at hbb
 rw [Zh]
 simp only [c,Int.reduceBEq,cond_true,cond_false,Zr,BEq.rfl]
 erw [Ws L [[115,116,111,112]] b d (by simp) hbb]
 rfl
theorem Zcc {L:Nat}{s:Zd}(h:Txt L s)(h3:s.Op≠3)(h4:s.Op≠4):Zy L (s,())=some (Lib.join (Zp s) [32]):=by
 have ho:=h.g.op
 have cs:s.Op=1∨s.Op=2∨s.Op=5∨s.Op=6∨s.Op=7∨s.Op=8∨s.Op=9∨s.Op=10∨s.Op=11∨s.Op=12∨s.Op=13∨s.Op=14∨s.Op=15∨s.Op=16∨s.Op=17∨s.Op=18:=by omega
 rcases cs with c | c | c | c | c | c | c | c | c | c | c | c | c | c | c | c
 ·exact Zfq h c
 ·exact Zfr h c
 ·exact Zfs h c
 ·cases hf:s.Flag with
  | true=>exact Ze6 h c hf
  | false=>exact Ze7 h c hf
 ·exact Zft h c
 ·exact Zfu h c
 ·exact Zfv h c
 ·exact Zex h c
 ·exact Zey h c
 ·exact Zez h c
 ·exact Ze0 h c
 ·exact Ze1 h c
 ·exact Ze2 h c
 ·exact Ze3 h c
 ·exact Ze4 h c
 ·exact Ze5 h c
theorem ZbU {L m:Nat}{s:Zd}{b:List UInt8}{d:Nat}(h:Txt L s)(h3:s.Op≠3)(h4:s.Op≠4)(hbb:b.length + (ZI d (Lib.join (Zp s) [32])).length≤4398046511104):Ze L (m + 1) (s,()) (b,(d:Int))=some ((),(b ++ ZI d (Lib.join (Zp s) [32]),(d:Int))):=by
 have ho:=h.g.op
 have cs:s.Op=1∨s.Op=2∨s.Op=5∨s.Op=6∨s.Op=7∨s.Op=8∨s.Op=9∨s.Op=10∨s.Op=11∨s.Op=12∨s.Op=13∨s.Op=14∨s.Op=15∨s.Op=16∨s.Op=17∨s.Op=18:=by omega
 rcases cs with c | c | c | c | c | c | c | c | c | c | c | c | c | c | c | c
 ·exact Zfj h c hbb
 ·exact Zfk h c hbb
 ·exact Zfl h c hbb
 ·cases hf:s.Flag with
  | true=>exact Zeu h c hf hbb
  | false=>exact Zev h c hf hbb
 ·exact Zfm h c hbb
 ·exact Zfn h c hbb
 ·exact Zfo h c hbb
 ·exact Zel h c hbb
 ·exact Zem h c hbb
 ·exact Zen h c hbb
 ·exact Zeo h c hbb
 ·exact Zep h c hbb
 ·exact Zeq h c hbb
 ·exact Zer h c hbb
 ·exact Zes h c hbb
 ·exact Zet h c hbb
end Go.Proofs.YtbcfddaocfpckaaGreatDoor
end
section
namespace Go.Proofs.YtbcfddaocfpckaaGreatDoor
open Go Go.Proofs.YtbcfddaocfpckaaGreatDoor.Abs Go.Proofs.YtbcfddaocfpckaaGreatDoor.Tl
set_option maxRecDepth 100000
def Be (w:List UInt8)(e:Zi)(tb:List UInt8)(eb:Bool)(te:List UInt8)(d:Nat):List UInt8 :=
 ZI d (Lib.join [w,txX e] [32]) ++ (tb ++ (if eb=true then ZI d [101,110,100] else ZI d [101,108,115,101] ++ (te ++ ZI d [101,110,100])))
mutual
def stX:Zd→Nat→List UInt8
 | ⟨op,nm,of,e,f,args,dist,flag,body,els⟩,d =>
  if op=3 then Be [105,102] e (YI body (d + 1)) els.isEmpty (YI els (d + 1)) d
  else if op=4 then Be [119,104,105,108,101] e (YI body (d + 1)) els.isEmpty (YI els (d + 1)) d
  else ZI d (Lib.join (Zp ⟨op,nm,of,e,f,args,dist,flag,body,els⟩) [32])
def YI:List Zd→Nat→List UInt8
 | [],_=>[]
 | x :: l,d=>stX x d ++ YI l d
end
theorem Zc4 (s:Zd)(d:Nat):stX s d=if s.Op=3 then Be [105,102] s.E (YI s.Body (d + 1)) s.Else.isEmpty (YI s.Else (d + 1)) d else if s.Op=4 then Be [119,104,105,108,101] s.E (YI s.Body (d + 1)) s.Else.isEmpty (YI s.Else (d + 1)) d else ZI d (Lib.join (Zp s) [32]):=by cases s; rw [stX]
theorem Dt (d:Nat):∀ l m:List Zd,YI (l ++ m) d=YI l d ++ YI m d
 | [],m=>by rw [YI]; rfl
 | x :: l,m=>by rw [List.cons_append,YI,YI,Dt d l m]; simp
theorem Fj {d:Nat}:∀ {l:List Zd} {x:Zd},x ∈ l→(stX x d).length≤(YI l d).length
 | y :: l,x,h=>by
  rw [YI,List.length_append]
  rcases List.mem_cons.1 h with rfl | h
  ·omega
  ·have:=Fj (d := d) h; omega
theorem Gm (d:Nat){l:List Zd}{i:Nat}{x:Zd}(h:l[i]? = some x):YI (l.take (i + 1)) d=YI (l.take i) d ++ stX x d:=by
 rw [take_succ' h,Dt]; simp [YI]
theorem Fh (d:Nat)(l:List Zd)(i:Nat):(YI (l.take i) d).length≤(YI l d).length:=by
 have:=congrArg List.length (congrArg (fun l=>YI l d) (List.take_append_drop i l))
 simp only [Dt,List.length_append] at this
 omega
theorem Za4 {s:Zd}(h:ZcK s=0):PO s=0∧Y5 s.Body=0∧Y5 s.Else=0:=by
 rw [Sm] at h
 by_cases c:PO s=0
 ·rw [if_neg (by simp [c])] at h
  by_cases c2:Y5 s.Body=0
  ·rw [if_neg (by simp [c2])] at h
   exact ⟨c,c2,h⟩
  ·rw [if_pos (by simp [c2])] at h; exact absurd h c2
 ·rw [if_pos (by simp [c])] at h; exact absurd h c
theorem Sr:∀ {l:List Zd},Y5 l=0→∀ x ∈ l,ZcK x=0
 | y :: l,h,x,hx=>by
  rw [Y5] at h
  by_cases c:ZcK y=0
  ·rw [if_neg (by simp [c])] at h
   rcases List.mem_cons.1 hx with rfl | hx
   ·exact c
   ·exact Sr h x hx
  ·rw [if_pos (by simp [c])] at h; exact absurd h c
theorem Zcp {d:Nat}(h:d≤4398046511104):IntKind.i64.wrap ((d:Int) + 1)=((d + 1:Nat):Int):=by rw [Zbv (by omega) (by omega)]; rfl
theorem ZeI {d:Nat}(h:d≤4398046511104):IntKind.i64.wrap (((d + 1:Nat):Int) - 1)=(d:Int):=by rw [Zbv (by omega) (by omega)]; omega
theorem P8 {α:Type}(l:List α):decide ((l.length:Int) > 0)=!l.isEmpty:=by cases l <;> simp
theorem Zde {L m:Nat}{s:Zd}{w b:List UInt8}{d:Nat}(he:Zz L (s.E,())=some (txX s.E))
  (hB:∀ b':List UInt8,b'.length + (YI s.Body (d + 1)).length≤4398046511104→Z5 L m (s.Body,()) (b',((d + 1:Nat):Int))=some ((),(b' ++ YI s.Body (d + 1),((d + 1:Nat):Int))))
  (hE:s.Else.isEmpty=false→∀ b':List UInt8,b'.length + (YI s.Else (d + 1)).length≤4398046511104→Z5 L m (s.Else,()) (b',((d + 1:Nat):Int))=some ((),(b' ++ YI s.Else (d + 1),((d + 1:Nat):Int))))
  (hbb:b.length + (Be w s.E (YI s.Body (d + 1)) s.Else.isEmpty (YI s.Else (d + 1)) d).length≤4398046511104) :
  ZG L (m + 1) (w,s,()) (b,(d:Int))=some ((),(b ++ Be w s.E (YI s.Body (d + 1)) s.Else.isEmpty (YI s.Else (d + 1)) d,(d:Int))):=by
 unfold Be at hbb ⊢
 rw [List.length_append,List.length_append] at hbb
 have hl0:=ZM d (Lib.join [w,txX s.E] [32])
 have hl1:=ZM d [101,110,100]; have hl2:=ZM d [101,108,115,101]
 simp only [List.length_cons,List.length_nil] at hl1 hl2
 have hd:d≤4398046511104:=by omega
 rw [XO]
 simp only [he,Zr]
 rw [Ws L [w,txX s.E] b d (by simp) (by omega)]
 simp only [Zr,Zcp hd]
 rw [hB _ (by rw [List.length_append]; omega)]
 simp only [Zr,ZeI hd,P8]
 cases hem:s.Else.isEmpty with
 | true =>
  simp only [hem,if_true] at hbb
  have e1:=Ws L [[101,110,100]] (b ++ ZI d (Lib.join [w,txX s.E] [32]) ++ YI s.Body (d + 1)) d (by simp) (by rw [jn1]; simp only [List.length_append]; omega)
  rw [jn1] at e1
  simp only [Bool.not_true,cond_false,e1,Zr,if_true]
  simp
 | false =>
  simp only [hem,Bool.false_eq_true,if_false,List.length_append] at hbb
  have e1:=Ws L [[101,108,115,101]] (b ++ ZI d (Lib.join [w,txX s.E] [32]) ++ YI s.Body (d + 1)) d (by simp) (by rw [jn1]; simp only [List.length_append]; omega)
  rw [jn1] at e1
  have e2:=hE hem (b ++ ZI d (Lib.join [w,txX s.E] [32]) ++ YI s.Body (d + 1) ++ ZI d [101,108,115,101]) (by simp only [List.length_append]; omega)
  have e3:=Ws L [[101,110,100]] (b ++ ZI d (Lib.join [w,txX s.E] [32]) ++ YI s.Body (d + 1) ++ ZI d [101,108,115,101] ++ YI s.Else (d + 1)) d (by simp) (by rw [jn1]; simp only [List.length_append]; omega)
  rw [jn1] at e3
  simp only [Bool.not_false,cond_true,e1,Zr,Zcp hd,e2,ZeI hd,e3,Bool.false_eq_true,if_false]
  simp
theorem ZcO {s:Zd}(g:Good s)(c:s.Op=4):s.Else=[]:=g.other (by rw [c]; rfl)
theorem BH (L:Nat)(h1:1001≤L):∀ (m:Nat) (l:List Zd) (b:List UInt8) (d:Nat),MM l→Y5 l=0→(YI l d).length≤2199023255552→b.length + (YI l d).length≤4398046511104→3 * SizeOf.sizeOf l≤m→m≤L →
  Z5 L m (l,()) (b,(d:Int))=some ((),(b ++ YI l d,(d:Int)))
 | 0,l,_,_,_,_,_,_,h,_=>absurd h (by have:=Zbn l; omega)
 | 1,l,_,_,_,_,_,_,h,_=>absurd h (by have:=Zbn l; omega)
 | 2,l,_,_,_,_,_,_,h,_=>absurd h (by have:=Zbn l; omega)
 | m + 3,l,b,d,ok,hc,hb,hbb,hs,hm=>by
  have hl:=ok.1; have hls:=Z4 l
  have step:∀ x ∈ l,∀ b':List UInt8,b'.length + (stX x d).length≤4398046511104→Ze L (m + 2) (x,()) (b',(d:Int))=some ((),(b' ++ stX x d,(d:Int))):=fun x hx b' hb'=>by
   obtain ⟨o1,o2,o3⟩:=Za4 (Sr hc x hx)
   obtain ⟨ox,oB,oE⟩:=ok.s hx
   have g:=ZaG o1
   have hz:=Fv x; have hzx:=List.sizeOf_lt_of_mem hx
   have hxl:=Fj (d := d) hx
   rw [Zc4] at hb' hxl ⊢
   have blk:∀ (w:List UInt8),(Q4 x.Op).1.e=true→(Be w x.E (YI x.Body (d + 1)) x.Else.isEmpty (YI x.Else (d + 1)) d).length≤2199023255552→b'.length + (Be w x.E (YI x.Body (d + 1)) x.Else.isEmpty (YI x.Else (d + 1)) d).length≤4398046511104 →
     ZG L (m + 1) (w,x,()) (b',(d:Int))=some ((),(b' ++ Be w x.E (YI x.Body (d + 1)) x.Else.isEmpty (YI x.Else (d + 1)) d,(d:Int))):=fun w he hw1 hw2=>by
    have hk:=hw1
    unfold Be at hk
    rw [List.length_append,List.length_append,ZM] at hk
    have hE:=PI [32] (a := [w,txX x.E]) (x := txX x.E) (by simp)
    refine Zde (AP L x.E ox.E (g.e he) (by omega) (by omega)) (fun b2 hb2=>BH L h1 m x.Body b2 (d + 1) oB o2 (by omega) hb2 (by omega) (by omega)) (fun hem b2 hb2=>BH L h1 m x.Else b2 (d + 1) oE o3 ?_ hb2 (by omega) (by omega)) hw2
    rw [hem] at hk
    simp only [Bool.false_eq_true,if_false,List.length_append] at hk
    omega
   by_cases c3:x.Op=3
   ·simp only [c3,if_true] at hb' hxl ⊢
    rw [Zh]
    simp only [c3,Int.reduceBEq,cond_true,cond_false,BEq.rfl]
    rw [blk [105,102] (by rw [c3]; rfl) (by omega) hb']
    rfl
   by_cases c4:x.Op=4
   ·simp only [c4,Int.reduceEq,if_false,if_true] at hb' hxl ⊢
    rw [Zh]
    simp only [c4,Int.reduceBEq,cond_true,cond_false,BEq.rfl]
    rw [blk [119,104,105,108,101] (by rw [c4]; rfl) (by omega) hb']
    rfl
   ·simp only [c3,c4,if_false] at hb' hxl ⊢
    have hk:=hxl
    rw [ZM] at hk
    exact ZbU ⟨ox,g,by omega,h1,by omega⟩ c3 c4 hb'
  rw [XP]
  have lp:loopT (ZX (m + 2) l L) L (0,(b,(d:Int)),())=some ((),(b ++ YI l d,(d:Int)),()):=by
   refine loopK l (fun (s:List UInt8×Int) i=>(i,s,())) (fun i s=>s=(b ++ YI (l.take i) d,(d:Int))) _ (fun self s i x hP hx hi mem e'=>?_) (fun self s hP=>?_) L 0 _ (by simp [YI]) (Nat.zero_le _) (by omega)
   ·subst hP
    have hk:=Fh d l (i + 1)
    rw [Gm d hx,List.length_append] at hk
    rw [ZX]
    simp only [Zk hi,cond_true,Zj,hx,Zr,wrap_succ hi (by omega)]
    rw [step x mem _ (by rw [List.length_append]; omega)]
    simp only [Zr]
    exact e' _ (by rw [Gm d hx]; simp)
   ·rw [List.take_length] at hP
    subst hP
    rw [ZX]
    simp only [Zf,cond_false]
  rw [lp]; rfl
end Go.Proofs.YtbcfddaocfpckaaGreatDoor
end
section
namespace Go.Proofs.YtbcfddaocfpckaaGreatDoor
open Go Go.Proofs.YtbcfddaocfpckaaGreatDoor.Abs Go.Proofs.YtbcfddaocfpckaaGreatDoor.Tl
set_option maxRecDepth 100000
theorem jn2 (a b:List UInt8):Lib.join [a,b] [32]=a ++ (32 :: b):=by rw [DU,jn1]; rfl
theorem Tf (L:Nat)(h1:1001≤L):∀ (m:Nat) (l:List Zd) (d:Nat),MM l→Y5 l=0→(YI l d).length≤2199023255552→3 * SizeOf.sizeOf l≤L→d + SizeOf.sizeOf l≤L→SizeOf.sizeOf l≤m→m≤L →
  Y9 L m (l,(d:Int),())=some (YI l d)
 | 0,l,_,_,_,_,_,_,h,_=>absurd h (by have:=Zbn l; omega)
 | m + 1,l,d,ok,hc,hb,hL,hd,hs,hm=>by
  have hl:=ok.1; have hls:=Z4 l
  rw [Ey]
  refine LZ (f := WG m l (d:Int) L) l (fun i t=>t=YI (l.take i) d) _ (by omega) [] (by simp [YI]) (fun self t i x hP hx hi mem e'=>?_) (fun self t hP=>?_)
  ·subst hP
   have hk:=Fh d l (i + 1)
   rw [Gm d hx,List.length_append] at hk
   have e':self (YI (l.take i) d ++ stX x d,(i:Int) + 1,())=some (YI l d):=e' _ (by rw [Gm d hx])
   generalize YI (l.take i) d=T at hk e' ⊢
   obtain ⟨o1,o2,o3⟩:=Za4 (Sr hc x mem)
   obtain ⟨ox,oB,oE⟩:=ok.s mem
   have g:=ZaG o1
   have hz:=Fv x; have hzx:=List.sizeOf_lt_of_mem mem
   have hw:=wrap_succ hi (by omega)
   have hxl:(stX x d).length≤2199023255552:=by omega
   have hT:T.length≤2199023255552:=by omega
   rw [Zc4] at e' hxl
   have hln:decide ((i:Int) < (l.length:Int))=true:=Zk hi
   have blk:∀ (w:List UInt8),(Q4 x.Op).1.e=true→(Be w x.E (YI x.Body (d + 1)) x.Else.isEmpty (YI x.Else (d + 1)) d).length≤2199023255552 →
     d≤4398046511104∧(ZI d (w ++ (32 :: txX x.E))).length≤2199023255552∧(YI x.Body (d + 1)).length≤2199023255552∧(x.Else.isEmpty=false→(YI x.Else (d + 1)).length≤2199023255552)∧YO L (x.E,())=some (txX x.E)∧(txX x.E).length≤2199023255552 ∧
     Yf L ((d:Int),w ++ (32 :: txX x.E),())=some (ZI d (w ++ (32 :: txX x.E)))∧Y9 L m (x.Body,((d + 1:Nat):Int),())=some (YI x.Body (d + 1)) ∧
     (x.Else.isEmpty=false→Y9 L m (x.Else,((d + 1:Nat):Int),())=some (YI x.Else (d + 1)))∧Yf L ((d:Int),[101,110,100],())=some (ZI d [101,110,100])∧Yf L ((d:Int),[101,108,115,101],())=some (ZI d [101,108,115,101]):=fun w he hw1=>by
    unfold Be at hw1
    rw [List.length_append,List.length_append,ZM,jn2,List.length_append,List.length_cons] at hw1
    have k1:=ZM d (w ++ (32 :: txX x.E)); have k2:=ZM d [101,110,100]; have k3:=ZM d [101,108,115,101]
    rw [List.length_append,List.length_cons] at k1
    simp only [List.length_cons,List.length_nil] at k2 k3
    have hEl:x.Else.isEmpty=false→(YI x.Else (d + 1)).length≤2199023255552:=fun hem=>by
     rw [hem] at hw1
     simp only [Bool.false_eq_true,if_false,List.length_append] at hw1
     omega
    exact ⟨by omega,by omega,by omega,hEl,SL L x.E ox.E (g.e he) (by omega) (by omega),by omega,BF L d _ (by omega) (by omega),
     Tf L h1 m x.Body (d + 1) oB o2 (by omega) (by omega) (by omega) (by omega) (by omega),fun hem=>Tf L h1 m x.Else (d + 1) oE o3 (hEl hem) (by omega) (by omega) (by omega) (by omega),BF L d _ (by omega) (by omega),BF L d _ (by omega) (by omega)⟩
   by_cases c3:x.Op=3
   ·simp only [c3,if_true] at e' hxl
    obtain ⟨b1,b2,b3,b4,b5,b5',b6,b7,b8,b9,b10⟩:=blk [105,102] (by rw [c3]; rfl) hxl
    have l2:=ZM d [101,110,100]; have l3:=ZM d [101,108,115,101]
    simp only [List.length_cons,List.length_nil] at l2 l3
    rw [WG]
    simp only [hln,cond_true,Zj,hx,Zr,c3,BEq.rfl,b5,hw,Zcp b1,b7,b9,P8]
    rw [Zo (by simp only [List.length_cons,List.length_nil]; omega),show ([105,102,32] ++ txX x.E:List UInt8)=[105,102] ++ (32 :: txX x.E) from rfl,b6]
    simp only [Zr]
    rw [Zo (by omega),Zo (by rw [List.length_append]; omega)]
    cases hem:x.Else.isEmpty with
    | true =>
     simp only [Bool.not_true,cond_false]
     rw [Zo (by first | omega | (simp only [List.length_append]; omega))]
     rw [← e']
     unfold Be
     rw [hem,jn2]
     simp
    | false =>
     have h4:=b4 hem
     simp only [Bool.not_false,cond_true,b10,b8 hem,Zr]
     rw [Zo (by first | omega | (simp only [List.length_append]; omega)),Zo (by first | omega | (simp only [List.length_append]; omega)),Zo (by first | omega | (simp only [List.length_append]; omega))]
     rw [← e']
     unfold Be
     rw [hem,jn2]
     simp
   by_cases c4:x.Op=4
   ·simp only [c4,Int.reduceEq,if_false,if_true] at e' hxl
    obtain ⟨b1,b2,b3,b4,b5,b5',b6,b7,b8,b9,b10⟩:=blk [119,104,105,108,101] (by rw [c4]; rfl) hxl
    have l2:=ZM d [101,110,100]
    simp only [List.length_cons,List.length_nil] at l2
    rw [WG]
    simp only [hln,cond_true,cond_false,Zj,hx,Zr,c4,Int.reduceBEq,BEq.rfl,b5,hw,Zcp b1,b7,b9]
    rw [Zo (by simp only [List.length_cons,List.length_nil]; omega),show ([119,104,105,108,101,32] ++ txX x.E:List UInt8)=[119,104,105,108,101] ++ (32 :: txX x.E) from rfl,b6]
    simp only [Zr]
    rw [Zo (by first | omega | (simp only [List.length_append]; omega)),Zo (by first | omega | (simp only [List.length_append]; omega)),Zo (by first | omega | (simp only [List.length_append]; omega))]
    rw [← e']
    unfold Be
    rw [ZcO g c4,jn2]
    simp
   ·simp only [c3,c4,if_false] at e' hxl
    have hk2:=hxl
    rw [ZM] at hk2
    have hs2:=Zcc (L := L) (s := x) ⟨ox,g,by omega,h1,by omega⟩ c3 c4
    rw [WG]
    simp only [hln,cond_true,Zj,hx,Zr,ZR,c3,c4,decide_false,cond_false,hs2,hw]
    rw [BF L d _ (by omega) (by omega),Zr,Zo (by omega)]
    exact e'
  ·rw [List.take_length] at hP
   subst hP
   rw [WG]
   simp only [Zf,cond_false]
theorem SC {τ α σ ρ:Type}{f:(τ→Option ρ)→τ→Option ρ}(l:List α)(pk:σ→Int→τ)
  (h1:∀ self s (i:Nat) x,l[i]? = some x→i < l.length→x ∈ l→(∀ s',∃ r,self (pk s' ((i:Int) + 1))=some r)→∃ r,f self (pk s i)=some r)
  (h2:∀ self s,∃ r,f self (pk s (l.length:Nat))=some r):∀ (m i:Nat) (s:σ),i≤l.length→l.length - i < m→∃ r,loopT f m (pk s i)=some r
 | 0,_,_,_,h=>absurd h (Nat.not_lt_zero _)
 | m + 1,i,s,hi,hm=>by
  show ∃ r,f (loopT f m) (pk s i)=some r
  rcases Nat.lt_or_ge i l.length with hlt | hge
  ·exact h1 _ s i _ (List.getElem?_eq_getElem hlt) hlt (List.getElem_mem hlt) fun s'=>SC l pk h1 h2 m (i + 1) s' hlt (by omega)
  ·have:i=l.length:=by omega
   subst this
   exact h2 _ s
theorem SQ (L:Nat):∀ (m:Nat) (l:List Zd),MM l→SizeOf.sizeOf l≤m→m≤L→∃ n,Xq L m (l,())=some n
 | 0,l,_,h,_=>absurd h (by have:=Zbn l; omega)
 | m + 1,l,ok,hs,hm=>by
  have hl:=ok.1; have hls:=Z4 l
  rw [Zaa]
  refine SC (f := Vr m l L) l (fun (s:Int) i=>(s,i,())) (fun self s i x hx hi mem e'=>?_) (fun self s=>?_) L 0 0 (Nat.zero_le _) (by omega)
  ·obtain ⟨ox,oB,oE⟩:=ok.s mem
   have hz:=Fv x; have hzx:=List.sizeOf_lt_of_mem mem; have hA:=Z4 x.Args
   obtain ⟨nB,hB⟩:=SQ L m x.Body oB (by omega) (by omega)
   obtain ⟨nE,hE⟩:=SQ L m x.Else oE (by omega) (by omega)
   have h1:YH L (x.E,())=_:=Ju L L x.E ox.E (by omega) (Nat.le_refl _)
   have h2:YH L (x.F,())=_:=Ju L L x.F ox.F (by omega) (Nat.le_refl _)
   rw [Vr]
   simp only [Zk hi,cond_true,Zj,hx,Zr,h1,h2,hB,hE]
   refine SC (f := Vq L self (s,(i:Int),()) x) x.Args (fun (s:Int) i=>(s,i,())) (fun self2 s2 i2 x2 hx2 hi2 mem2 e2=>?_) (fun self2 s2=>?_) L 0 _ (Nat.zero_le _) (by omega)
   ·have h3:YH L (x2,())=_:=Ju L L x2 (ox.Args.2 x2 mem2) (by have:=ZeN mem2; omega) (Nat.le_refl _)
    rw [Vq]
    simp only [Zk hi2,cond_true,Zj,hx2,Zr,h3,wrap_succ hi2 (by have:=ox.a; omega)]
    exact e2 _
   ·rw [Vq]
    simp only [Zf,cond_false,wrap_succ hi (by omega)]
    exact e' _
  ·rw [Vr]
   simp only [Zf,cond_false]
   exact ⟨_,rfl⟩
theorem Zch (L:Nat)(l:List Zd)(ok:MM l)(hL:SizeOf.sizeOf l≤L):∃ n,Ht L (l,())=some n:=SQ L L l ok hL (Nat.le_refl _)
theorem P6 {l:List Zd}(h:Ui l=0):Y5 l=0:=by
 unfold Ui at h
 split at h
 ·cases h
 split at h
 ·cases h
 exact h
theorem Zcf (L:Nat)(s:List UInt8):VK L (s,())=some (if decide ((s.length:Int) > 20000)=true then ([],6,()) else (s,0,())):=by
 rw [Ew]; cases decide ((s.length:Int) > 20000) <;> rfl
theorem IU (L:Nat)(h1:1001≤L)(l:List Zd)(ok:MM l)(hL:3 * SizeOf.sizeOf l≤L)(hb:(YI l 0).length≤2199023255552):WR L (l,())=some true:=by
 obtain ⟨n,hn⟩:=Zch L l ok (by omega)
 rw [KY,hn,Zr]
 cases decide (n > 3000)
 ·rw [cond_false,BO,Eu,ZbT L (by omega) l ok (by omega),PT L (by omega) l ok (by omega)]
  simp only [Zr]
  by_cases c:Ui l=0
  ·have e1:Y2 L (l,()) ([],0)=some ((),(YI l 0,0)):=BH L h1 L l [] 0 ok (P6 c) hb (by simpa using Nat.le_trans hb (by decide)) hL (Nat.le_refl _)
   have e2:UZ L (l,0,())=some (YI l 0):=Tf L h1 L l 0 ok (P6 c) hb hL (by omega) (by omega) (Nat.le_refl _)
   simp only [c,ZQ,decide_true,Bool.not_true,cond_false,e1,e2,Zr,Zcf]
   cases decide (((YI l 0).length:Int) > 20000) <;> simp [Zr]
  ·simp only [c,ZQ,decide_false,Bool.not_false,cond_true,Zr]
   simp
 ·rfl
end Go.Proofs.YtbcfddaocfpckaaGreatDoor
end
section
namespace Go.Proofs.YtbcfddaocfpckaaGreatDoor
open Go Go.RowKit Go.Proofs.YtbcfddaocfpckaaGreatDoor.Abs Go.Proofs.YtbcfddaocfpckaaGreatDoor.Tl
set_option maxRecDepth 100000
mutual
def bkA:AV→Nat
 | .str s=>s.length + 1
 | .lst _ rows=>bkR rows + 1
 | _=>1
def bkL:List AV→Nat
 | []=>0
 | a :: l=>bkA a + bkL l
def bkR:List (List AV)→Nat
 | []=>0
 | r :: l=>bkL r + bkR l
end
theorem NZ:∀ a b:List AV,bkL (a ++ b)=bkL a + bkL b
 | [],b=>by rw [bkL]; simp
 | x :: a,b=>by rw [List.cons_append,bkL,bkL,NZ a b,Nat.add_assoc]
theorem Aj {H:Type}:∀ (fs:List Field) (cs:List AV) (P:Program) (D:Nat→DataW H) (k o n:Nat),Zbo P fs o n=true→cs.length=n→o≤n→(∀ (i:Nat) (f:Field),fs[i]? = some f→bkL ((cs.drop f.offset).take (P.cellsOf f.type))≤Rows.uptoBulk (D (k + i)))→bkL (cs.drop o)≤Rows.uptoBulkAll ((List.range fs.length).map fun i=>D (k + i))
 | [],cs,P,D,k,o,n,ht,hl,ho,h=>by
  have:o=n:=by simpa [Zbo] using ht
  subst this
  rw [← hl,List.drop_length]; simp [bkL,Rows.uptoBulkAll]
 | f :: fs,cs,P,D,k,o,n,ht,hl,ho,h=>by
  simp only [Zbo,Bool.and_eq_true,beq_iff_eq] at ht
  obtain ⟨rfl,ht⟩:=ht
  have hle:f.offset + P.cellsOf f.type≤n:=by
   have:∀ (fs:List Field) (o:Nat),Zbo P fs o n=true→o≤n:=by
    intro fs
    induction fs with
    | nil =>
     intro o h; have:o=n:=by simpa [Zbo] using h
     omega
    | cons g fs ih =>
     intro o h
     simp only [Zbo,Bool.and_eq_true,beq_iff_eq] at h
     have:=ih _ h.2
     omega
   exact this fs _ ht
  have ih:=Aj fs cs P D (k + 1) (f.offset + P.cellsOf f.type) n ht hl hle fun i g hg=>by
   have:=h (i + 1) g (by simpa using hg)
   rwa [show k + (i + 1)=k + 1 + i by omega] at this
  have h0:=h 0 f rfl
  rw [List.length_cons,List.range_succ_eq_map,List.map_cons,List.map_map,Rows.uptoBulkAll]
  have e:cs.drop f.offset=(cs.drop f.offset).take (P.cellsOf f.type) ++ cs.drop (f.offset + P.cellsOf f.type):=by rw [← List.drop_drop,List.take_append_drop]
  rw [e,NZ]
  refine Nat.add_le_add h0 (Nat.le_trans ih (Nat.le_of_eq ?_))
  congr 1
  refine List.map_congr_left fun i _=>?_
  show D (k + 1 + i)=D (k + (i + 1))
  rw [show k + 1 + i=k + (i + 1) by omega]
theorem Pq {H:Type}:∀ (rows:List (List AV)) (D:Nat→DataW H) (k:Nat),(∀ (i:Nat) r,rows[i]? = some r→bkL r≤Rows.uptoBulk (D (k + i)))→bkR rows≤Rows.uptoBulkAll ((List.range rows.length).map fun i=>D (k + i))
 | [],_,_,_=>by simp [bkR]
 | r :: rows,D,k,h=>by
  have ih:=Pq rows D (k + 1) fun i g hg=>by
   have:=h (i + 1) g (by simpa using hg)
   rwa [show k + (i + 1)=k + 1 + i by omega] at this
  rw [List.length_cons,List.range_succ_eq_map,List.map_cons,List.map_map,Rows.uptoBulkAll,bkR]
  refine Nat.add_le_add (h 0 r rfl) (Nat.le_trans ih (Nat.le_of_eq ?_))
  congr 1
  refine List.map_congr_left fun i _=>?_
  show D (k + 1 + i)=D (k + (i + 1))
  rw [show k + 1 + i=k + (i + 1) by omega]
theorem Zcg {H:Type}{P:Program}{S:List TypeId}(hS:ZbN P S=true){t:TypeId}{cs:List AV}{d:DataW H}(h:Jd P t cs d):S.contains t=true→bkL cs≤Rows.uptoBulk d:=by
 induction h with
 | bool t b hu=>intro _; simp [bkL,bkA,Rows.uptoBulk]
 | int t k x hu hw=>intro _; simp [bkL,bkA,Rows.uptoBulk]
 | str t s hu hl=>intro _; simp [bkL,bkA,Rows.uptoBulk]
 | nil t e hu=>intro _; simp [bkL,bkA,bkR,Rows.uptoBulk]
 | slice t e rows D spare hu hl h ih =>
  intro ht
  have:=List.all_eq_true.1 hS t (List.contains_iff_mem.1 ht)
  rw [hu] at this
  simp only [Bool.and_eq_true] at this
  have hr:=Pq rows D 0 fun i r hr=>by rw [Nat.zero_add]; exact ih i r hr this.2
  simp only [Nat.zero_add] at hr
  simp only [bkL,bkA,Rows.uptoBulk,Nat.add_zero]
  have e:(List.range rows.length).map (fun i=>D i)=(List.range rows.length).map D:=rfl
  rw [e] at hr
  omega
 | struct t fs cs D hu hl h ih =>
  intro ht
  have:=List.all_eq_true.1 hS t (List.contains_iff_mem.1 ht)
  rw [hu] at this
  simp only [Bool.and_eq_true] at this
  have hr:=Aj fs.toList cs P D 0 0 (P.cellsOf t) this.1 hl (Nat.zero_le _) fun i f hf=>by
   rw [Nat.zero_add]
   exact ih i f hf (List.all_eq_true.1 this.2 f (List.mem_of_getElem? hf))
  rw [List.drop_zero] at hr
  simp only [Nat.zero_add,Array.length_toList] at hr
  have e:(List.range fs.size).map (fun i=>D i)=(List.range fs.size).map D:=rfl
  rw [e] at hr
  simp only [Rows.uptoBulk]
  omega
theorem ZcF (e:Zi):bkL (WZ e)=e.Name.length + bkR (e.Kids.map WZ) + 4:=by rw [Df]; simp only [bkL,bkA]; omega
def sumT:List (Int×List UInt8)→Nat
 | []=>0
 | k :: l=>k.2.length + 2 + sumT l
theorem Bl:∀ l:List (Int×List UInt8),(Lib.join (l.map (·.2)) [44,32]).length≤sumT l
 | []=>by simp [Lib.join,List.intercalate,sumT]
 | [x]=>by simp [Lib.join,List.intercalate,sumT]
 | x :: y :: l=>by
  have:=Bl (y :: l)
  rw [List.map_cons,List.map_cons,U3,← List.map_cons (f := fun (p:Int×List UInt8)=>p.2)]
  simp only [List.length_append,List.length_cons,List.length_nil]
  rw [sumT]
  omega
theorem ZdO (l:List (Int×List UInt8)):(k0 l).2.length≤sumT l:=by cases l <;> simp [k0,sumT] <;> omega
theorem ZcU (l:List (Int×List UInt8)):(k0 l).2.length + (k1 l).2.length≤sumT l:=by
 match l with
 | []=>simp [k0,k1,sumT]
 | [x]=>simp [k0,k1,sumT] <;> omega
 | x :: y :: l=>simp [k0,k1,sumT] <;> omega
theorem len_ite {c:Prop}[Decidable c]{x y:List UInt8}{n:Nat}(hx:x.length≤n)(hy:y.length≤n):(if c then x else y).length≤n:=by split <;> assumption
theorem ZbM (o:Int)(a:List UInt8)(n:Int)(ks:List (Int×List UInt8))(hn:bd n):(Q9 o a n ks).length≤a.length + sumT ks + 40:=by
 have h1:=Ym hn; have h2:=Bl ks; have h3:=ZdO ks; have h4:=ZcU ks; have h5:=Zbl o
 have p3:=(Wi 3 (k0 ks)).2; have p7:=(Wi 7 (k0 ks)).2
 have q1:=(Wi (if lvX o=4 then 5 else lvX o) (k0 ks)).2; have q2:=(Wi (lvX o + 1) (k1 ks)).2
 have hB:(OY (if lvX o=4 then 5 else lvX o) (k0 ks) ++ 32 :: (sgX o ++ 32 :: OY (lvX o + 1) (k1 ks))).length≤a.length + sumT ks + 40:=by
  simp only [List.length_append,List.length_cons,List.length_nil]; omega
 unfold Q9 Vg
 generalize OY (if lvX o=4 then 5 else lvX o) (k0 ks) ++ 32 :: (sgX o ++ 32 :: OY (lvX o + 1) (k1 ks))=B at hB
 generalize Lib.join (ks.map (·.2)) [44,32]=J at h2
 generalize OY 3 (k0 ks)=A3 at p3
 generalize OY 7 (k0 ks)=A7 at p7
 generalize Lib.itoa n=I at h1
 repeat' refine len_ite ?_ ?_
 all_goals (try simp only [List.length_append,List.length_cons,List.length_nil])
 all_goals omega
mutual
theorem Zco:∀ e:Zi,ZA e→(txX e).length + 2≤50 * bkL (WZ e)
 | ⟨o,a,n,ks⟩,ok=>by
  have h:=Zbq ks ok.Kids.2
  have h1:=ZbM o a n (Zbp ks) ok.N
  rw [ZcF,txX]
  simp only
  omega
theorem Zbq:∀ l:List Zi,(∀ x ∈ l,ZA x)→sumT (Zbp l)≤50 * bkR (l.map WZ)
 | [],_=>by simp [Zbp,sumT]
 | e :: l,h=>by
  have h1:=Zco e (h e (List.mem_cons_self ..))
  have h2:=Zbq l fun x hx=>h x (List.mem_cons_of_mem _ hx)
  rw [Zbp,sumT,List.map_cons,bkR]
  simp only
  omega
end
end Go.Proofs.YtbcfddaocfpckaaGreatDoor
end
section
namespace Go.Proofs.YtbcfddaocfpckaaGreatDoor
open Go Go.RowKit Go.Proofs.YtbcfddaocfpckaaGreatDoor.Abs Go.Proofs.YtbcfddaocfpckaaGreatDoor.Tl
set_option maxRecDepth 100000
theorem Zaz:∀ l:List Int,l.length≤bkR (ints l)
 | []=>Nat.le_refl _
 | n :: l=>by
  have:=Zaz l
  show l.length + 1≤bkL [.int .i64 n] + bkR (ints l)
  simp only [bkL,bkA]; omega
theorem ZcE (d:ZF):d.Values.length + 6≤bkL (Tv d):=by
 have:=Zaz d.Values
 unfold Tv
 simp only [bkL,bkA]; omega
theorem Si (s:Zd):s.Name.length + s.Of.length + bkL (WZ s.E) + bkL (WZ s.F) + bkR (s.Args.map WZ) + bkL (Tv s.Dist) + bkR (s.Body.map Wj) + bkR (s.Else.map Wj) + 7≤bkL (Wj s):=by
 rw [Dh]
 simp only [NZ,bkL,bkA]; omega
theorem ZcM (d:ZF)(ok:WE d):(dtX d).length≤80 + 44 * d.Values.length:=by
 have hA:bd d.A:=ok.A; have hB:bd d.B:=ok.B; have hN:bd d.N:=ok.N
 have lA:=Ym hA; have lB:=Ym hB; have lN:=Ym hN
 have h4:=Dv d.Values d.Weights ok.Values.2 ok.Weights.2
 unfold dtX
 repeat' refine len_ite ?_ ?_
 all_goals simp only [nsX,List.length_append,List.length_cons,List.length_nil]; omega
theorem ZcD (l:List Zi)(h:∀ x ∈ l,ZA x):(Jq l).length≤2 + 50 * bkR (l.map WZ):=by
 have h1:=Bl (Zbp l); have h2:=Zbq l h
 rw [ZbJ] at h1
 unfold Jq
 simp only [List.length_cons,List.length_append,List.length_nil]; omega
theorem Zbu (s:Zd)(ok:ZB s):(Lib.join (Zp s) [32]).length + 200≤50 * bkL (Wj s):=by
 have h1:=Zco s.E ok.E; have h2:=Zco s.F ok.F; have h3:=ZcD s.Args ok.Args.2; have h4:=ZcM s.Dist ok.Dist; have h5:=ZcE s.Dist; have h6:=Si s
 unfold Zp
 generalize txX s.E=E at h1 ⊢
 generalize txX s.F=F at h2 ⊢
 generalize Jq s.Args=A at h3 ⊢
 generalize dtX s.Dist=D at h4 ⊢
 have split':∀ {c:Prop} [Decidable c] {x y:List (List UInt8)} {n:Nat},(Lib.join x [32]).length + 200≤n→(Lib.join y [32]).length + 200≤n→(Lib.join (if c then x else y) [32]).length + 200≤n:=by
  intro c _ x y n h1 h2; split <;> assumption
 repeat' refine split' ?_ ?_
 all_goals simp only [DU,jn1,List.length_append,List.length_cons,List.length_nil]; omega
mutual
theorem Zfy:∀ (s:Zd) (d:Nat),ZB s→(stX s d).length≤bkL (Wj s) * (60 + d + bkL (Wj s))
 | ⟨op,nm,of,e,f,args,dist,flag,body,els⟩,d,ok=>by
  have hB:=Fq body (d + 1) ok.Body.2; have hE:=Fq els (d + 1) ok.Else.2
  have hw:=Zbu _ ok; have hk:=Si ⟨op,nm,of,e,f,args,dist,flag,body,els⟩
  have he:=Zco e ok.E
  rw [stX]
  generalize bkL (Wj ⟨op,nm,of,e,f,args,dist,flag,body,els⟩)=n at hw hk ⊢
  simp only at hk
  generalize bkR (body.map Wj)=a at hB hk
  generalize bkR (els.map Wj)=b at hE hk
  generalize hp:bkL (WZ e)=p at he hk
  have blk:∀ w:List UInt8,w.length≤5→(Be w e (YI body (d + 1)) els.isEmpty (YI els (d + 1)) d).length≤n * (60 + d + n):=fun w hw=>by
   have h0:(Be w e (YI body (d + 1)) els.isEmpty (YI els (d + 1)) d).length≤3 * d + 30 + 50 * p + (YI body (d + 1)).length + (YI els (d + 1)).length:=by
    unfold Be
    rw [List.length_append,List.length_append,ZM,jn2]
    have:(if els.isEmpty=true then ZI d [101,110,100] else ZI d [101,108,115,101] ++ (YI els (d + 1) ++ ZI d [101,110,100])).length≤2 * d + 12 + (YI els (d + 1)).length:=by
     refine len_ite ?_ ?_
     ·rw [ZM]; simp only [List.length_cons,List.length_nil]; omega
     ·simp only [List.length_append,ZM,List.length_cons,List.length_nil]; omega
    simp only [List.length_append,List.length_cons]
    omega
   have m1:a * (60 + (d + 1) + a)≤a * (60 + d + n):=Nat.mul_le_mul_left _ (by omega)
   have m2:b * (60 + (d + 1) + b)≤b * (60 + d + n):=Nat.mul_le_mul_left _ (by omega)
   have m3:(p + 7 + a + b) * (60 + d + n)≤n * (60 + d + n):=Nat.mul_le_mul_right _ (by omega)
   have m4:(p + 7 + a + b) * (60 + d + n)=p * (60 + d + n) + 7 * (60 + d + n) + a * (60 + d + n) + b * (60 + d + n):=by simp only [Nat.add_mul]
   have m5:p * 60≤p * (60 + d + n):=Nat.mul_le_mul_left _ (by omega)
   omega
  split
  ·exact blk _ (by simp)
  split
  ·exact blk _ (by simp)
  ·rw [ZM]
   have m:1 * (60 + d + n) + (n - 1) * 60≤n * (60 + d + n):=by
    have e:n * (60 + d + n)=1 * (60 + d + n) + (n - 1) * (60 + d + n):=by rw [← Nat.add_mul]; congr 1; omega
    rw [e]
    have:=Nat.mul_le_mul_left (n - 1) (show 60≤60 + d + n by omega)
    omega
   omega
theorem Fq:∀ (l:List Zd) (d:Nat),(∀ x ∈ l,ZB x)→(YI l d).length≤bkR (l.map Wj) * (60 + d + bkR (l.map Wj))
 | [],_,_=>by simp [YI]
 | x :: l,d,h=>by
  have h1:=Zfy x d (h x (List.mem_cons_self ..))
  have h2:=Fq l d fun y hy=>h y (List.mem_cons_of_mem _ hy)
  rw [YI,List.map_cons,bkR,List.length_append]
  generalize bkL (Wj x)=a at h1 ⊢
  generalize bkR (l.map Wj)=b at h2 ⊢
  have m1:a * (60 + d + a)≤a * (60 + d + (a + b)):=Nat.mul_le_mul_left _ (by omega)
  have m2:b * (60 + d + b)≤b * (60 + d + (a + b)):=Nat.mul_le_mul_left _ (by omega)
  rw [Nat.add_mul]
  omega
end
theorem Zci (l:List Zd)(ok:∀ x ∈ l,ZB x)(h:bkR (l.map Wj)≤1048576):(YI l 0).length≤2199023255552:=by
 have h1:=Fq l 0 ok
 have h2:bkR (l.map Wj) * (60 + 0 + bkR (l.map Wj))≤1048576 * (60 + 0 + 1048576):=Nat.mul_le_mul h (by omega)
 omega
end Go.Proofs.YtbcfddaocfpckaaGreatDoor
end
