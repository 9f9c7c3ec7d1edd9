import Derived.Lib.ItoaLen
import Derived.Test.YtleomfgijkapfaaGreatDoorRows
import Derived.Test.YtleomfgijkapfaaGreatDoorT18
set_option linter.all false
section
namespace Go.Proofs.YtleomfgijkapfaaGreatDoor
open Go Go.Proofs.YtleomfgijkapfaaGreatDoor.Abs Go.Proofs.YtleomfgijkapfaaGreatDoor.Tl
set_option maxRecDepth 100000
theorem Ze5 {α:Type}(nm:α→List UInt8)(s:List UInt8)(l:List α):decide (Ep (fun x=>decide (nm x=s)) l 0 ≥ 0)=(l.map nm).contains s:=by
 rw [show decide (Ep (fun x=>decide (nm x=s)) l 0 ≥ 0)=_ from NF _ l 0 (Int.le_refl _),← Zgl,List.any_map]
 congr 1; funext x; exact decide_eq_decide.2 ⟨Eq.symm,Eq.symm⟩
theorem Ee (d:Zj):SizeOf.sizeOf d.Name < SizeOf.sizeOf d∧SizeOf.sizeOf d.Vars < SizeOf.sizeOf d∧SizeOf.sizeOf d.Resources < SizeOf.sizeOf d∧SizeOf.sizeOf d.Stores < SizeOf.sizeOf d∧SizeOf.sizeOf d.Belts < SizeOf.sizeOf d∧SizeOf.sizeOf d.Queues < SizeOf.sizeOf d∧SizeOf.sizeOf d.Streams < SizeOf.sizeOf d∧SizeOf.sizeOf d.Tallies < SizeOf.sizeOf d∧SizeOf.sizeOf d.Levels < SizeOf.sizeOf d∧SizeOf.sizeOf d.Counts < SizeOf.sizeOf d∧SizeOf.sizeOf d.Routines < SizeOf.sizeOf d∧SizeOf.sizeOf d.Starts < SizeOf.sizeOf d∧SizeOf.sizeOf d.Laws < SizeOf.sizeOf d:=by
 cases d; simp; omega
structure Sh (L:Nat)(d:Zj):Prop where
 nm:d.Name.length < L
 vars:d.Vars.length < L
 res:d.Resources.length < L
 sto:d.Stores.length < L
 bel:d.Belts.length < L
 que:d.Queues.length < L
 str:d.Streams.length < L
 tal:d.Tallies.length < L
 lev:d.Levels.length < L
 cnt:d.Counts.length < L
 rou:d.Routines.length < L
 sta:d.Starts.length < L
 law:d.Laws.length < L
theorem Sh.of {L:Nat}{d:Zj}(h:SizeOf.sizeOf d≤L):Sh L d:=by
 have:=Ee d
 constructor
 ·have:=ZK d.Name; omega
 ·have:=ZK d.Vars; omega
 ·have:=ZK d.Resources; omega
 ·have:=ZK d.Stores; omega
 ·have:=ZK d.Belts; omega
 ·have:=ZK d.Queues; omega
 ·have:=ZK d.Streams; omega
 ·have:=ZK d.Tallies; omega
 ·have:=ZK d.Levels; omega
 ·have:=ZK d.Counts; omega
 ·have:=ZK d.Routines; omega
 ·have:=ZK d.Starts; omega
 ·have:=ZK d.Laws; omega
end Go.Proofs.YtleomfgijkapfaaGreatDoor
end
section
namespace Go.Proofs.YtleomfgijkapfaaGreatDoor
open Go Go.Proofs.YtleomfgijkapfaaGreatDoor.Abs Go.Proofs.YtleomfgijkapfaaGreatDoor.Tl
set_option maxRecDepth 100000
theorem Znt {l:List Xh}{x:Xh}(h:x ∈ l):x.Name.length < SizeOf.sizeOf l:=by
 have:=List.sizeOf_lt_of_mem h
 have h2:=ZK x.Name
 have:SizeOf.sizeOf x.Name < SizeOf.sizeOf x:=by cases x; simp; omega
 omega
theorem ZlP (r:YL):SizeOf.sizeOf r.Name < SizeOf.sizeOf r∧SizeOf.sizeOf r.Params < SizeOf.sizeOf r∧SizeOf.sizeOf r.Locals < SizeOf.sizeOf r∧SizeOf.sizeOf r.Body < SizeOf.sizeOf r:=by cases r; simp; omega
theorem ZlO {α:Type}[SizeOf α](g:α→List UInt8)(hg:∀ x,SizeOf.sizeOf (g x) < SizeOf.sizeOf x){l:List α}{x:α}(h:x ∈ l):(g x).length < SizeOf.sizeOf l∧SizeOf.sizeOf x < SizeOf.sizeOf l:=by
 have h1:=List.sizeOf_lt_of_mem h
 have h2:=ZK (g x)
 have h3:=hg x
 omega
end Go.Proofs.YtleomfgijkapfaaGreatDoor
end
section
namespace Go.Proofs.YtleomfgijkapfaaGreatDoor
open Go Go.Proofs.YtleomfgijkapfaaGreatDoor.Abs Go.Proofs.YtleomfgijkapfaaGreatDoor.Tl
set_option maxRecDepth 100000
theorem VK (L:Nat)(a b c:Int):Yw L (a,b,c,())=some (btw a b c):=FU L a b c
theorem Ii (L:Nat)(a b:Int):YJ L (a,b,())=some (QI a b):=by
 simp only [Zo,Zf,cond_true,cond_false,Zm,Yk,Ze,ZU,condC,Zz,Zy,ZP,We,Qe,WM,Zbl,QI]; simp only [Xl,Ia,if_true,if_false,Bool.false_eq_true,ne_eq,decide_not,gt_iff_lt,ge_iff_le]
theorem Ja (L:Nat)(a:Bool)(b:Int):ZZ L (a,b,())=some (YA a b):=by
 simp only [Zo,Zf,cond_true,cond_false,Zm,Yk,Ze,ZU,condC,Zz,Zy,ZP,We,Qe,WM,FT,YA]; simp only [Xl,Ia,if_true,if_false,Bool.false_eq_true,ne_eq,decide_not,gt_iff_lt,ge_iff_le]
theorem Zfk (L:Nat)(t:Int):XY L (t,())=some (CE t):=Zbk L t
theorem Zl0 (L:Nat)(t n:Int):Uh L (t,n,())=some (fitsT t n):=by
 simp only [Zo,Zf,cond_true,cond_false,Zm,Yk,Ze,ZU,condC,Zz,Zy,ZP,We,Qe,WM,Zd7,Zl7,VK,fitsT]; simp only [Xl,Ia,if_true,if_false,Bool.false_eq_true,ne_eq,decide_not,gt_iff_lt,ge_iff_le]
theorem Zcl (s:List UInt8)(l:List (List UInt8)):decide (Ep (fun k=>decide (k=s)) l 0 < 0)=!(l.contains s):=by
 have:=Ze5 (fun x:List UInt8=>x) s l
 rw [List.map_id'] at this
 rw [← this,show decide (Ep (fun k=>decide (k=s)) l 0 < 0)=!decide (Ep (fun k=>decide (k=s)) l 0 ≥ 0) by rw [← decide_not]; congr 1; exact propext Int.not_le.symm]
theorem Zc4 (L:Nat)(h1:100≤L)(s:List UInt8)(seen:Seen)(hs:Len s)(hsL:s.length < L)(hl:Len seen)(hL:seen.length < L):XZ L (s,seen,())=some (IY s seen):=by
 simp only [Zo,Zf,cond_true,cond_false,Zm,Yk,Ze,ZU,condC,Zz,Zy,ZP,We,Qe,WM,Zbm,Ua L s hs hsL h1,Zfj L seen s hl hL,Ja,Ii,Zcl,IY]
theorem apS {l:List (List UInt8)}{a:List UInt8}(h:l.length≤8000000000000):apT 16 l [a]=some (l ++ [a]):=by unfold apT; rw [if_pos (by simp only [List.length_cons,List.length_nil]; omega)]
end Go.Proofs.YtleomfgijkapfaaGreatDoor
end
section
namespace Go.Proofs.YtleomfgijkapfaaGreatDoor
open Go Go.Proofs.YtleomfgijkapfaaGreatDoor.Abs Go.Proofs.YtleomfgijkapfaaGreatDoor.Tl
set_option maxRecDepth 100000
theorem Zld {α τ:Type}{f:(τ→Option Int)→τ→Option Int}(pk:Seen→Int→τ)(l:List α)(step:α→Seen→Int×Seen)(c:Nat)(e:Seen→Option Int){m:Nat}(hm:l.length < m)
  (hst:∀ x s,(step x s).2.length≤s.length + 1)
  (h1:∀ self s (i:Nat) x,l[i]? = some x→i < l.length→x ∈ l→s.length≤c + i→f self (pk s i)=bif !decide ((step x s).1=0) then some (step x s).1 else self (pk (step x s).2 ((i:Int) + 1)))
  (h2:∀ self s,s.length≤c + l.length→f self (pk s (l.length:Nat))=e s) (s:Seen) (hs:s.length≤c):Zw f m (pk s 0)=if decide ((VO step l s).1≠0)=true then some (VO step l s).1 else e (VO step l s).2:=by
 have key:∀ (m i:Nat) (s:Seen),i≤l.length→l.length - i < m→s.length≤c + i→Zw f m (pk s i)=if decide ((VO step (l.drop i) s).1≠0)=true then some (VO step (l.drop i) s).1 else e (VO step (l.drop i) s).2:=by
  intro m
  induction m with
  | zero=>intro i s _ h; exact absurd h (Nat.not_lt_zero _)
  | succ m ih =>
   intro i s hi hm hsl
   show f (Zw f m) _=_
   rcases Nat.lt_or_ge i l.length with hlt | hge
   ·have hx:=List.getElem?_eq_getElem hlt
    have:=ih (i + 1) (step l[i] s).2 hlt (by omega) (by have:=hst l[i] s; omega)
    rw [h1 _ s i _ hx hlt (List.getElem_mem hlt) hsl,List.drop_eq_getElem_cons hlt,VO,show ((i:Int) + 1)=((i + 1:Nat):Int) from rfl,this]
    by_cases z:(step l[i] s).1=0 <;> simp [z]
   ·have:i=l.length:=by omega
    subst this
    rw [List.drop_length,h2 _ s hsl]; rfl
 exact key m 0 s (Nat.zero_le _) (by omega) (by omega)
theorem CS (s:List UInt8)(r:Int)(seen:Seen):(Jj s r seen).2.length≤seen.length + 1:=by
 have h:(U1 s seen).2.length≤seen.length + 1:=by
  unfold U1
  split
  ·exact Nat.le_succ _
  ·split
   ·exact Nat.le_succ _
   ·simp
 unfold Jj
 split <;> exact h
end Go.Proofs.YtleomfgijkapfaaGreatDoor
end
section
namespace Go.Proofs.YtleomfgijkapfaaGreatDoor
open Go Go.Proofs.YtleomfgijkapfaaGreatDoor.Abs Go.Proofs.YtleomfgijkapfaaGreatDoor.Tl
set_option maxRecDepth 100000
theorem CU {s:List UInt8}{r:Int}{seen:Seen}(h:(Jj s r seen).1=0):(Jj s r seen).2=seen ++ [s]:=(Zkj h).1
theorem Zdx (L:Nat)(h1:100≤L)(r:YL)(h:KG r)(hL:SizeOf.sizeOf r≤L):XC L (r,())=some (G6 r):=by
 have hz:=ZlP r
 have hp:=h.p
 have hw:IntKind.i64.wrap ((r.Params.length:Int) + (r.Locals.length:Int))=(r.Params.length:Int) + (r.Locals.length:Int):=wrap_in (by omega) (by omega)
 rw [SA,hw,G6]
 by_cases hc:6 < (r.Params.length:Int)∨16 < (r.Params.length:Int) + (r.Locals.length:Int)
 ·rw [if_pos (by simpa using hc),show (decide ((r.Params.length:Int) > 6) || decide ((r.Params.length:Int) + (r.Locals.length:Int) > 16))=true by simpa using hc]; rfl
 ·have hf:(decide ((r.Params.length:Int) > 6) || decide ((r.Params.length:Int) + (r.Locals.length:Int) > 16))=false:=by
   simp only [Bool.or_eq_false_iff,decide_eq_false_iff_not]; omega
  have hf':¬ ((decide (6 < (r.Params.length:Int)) || decide (16 < (r.Params.length:Int) + (r.Locals.length:Int)))=true):=by simpa using hc
  have hlen:(r.Params ++ r.Locals).length≤16:=by rw [List.length_append]; omega
  have p1:apT 24 [] r.Params=some r.Params:=by unfold apT; rw [if_pos (by simp only [List.length_nil]; omega)]; rfl
  have p2:apT 24 r.Params r.Locals=some (r.Params ++ r.Locals):=by unfold apT; rw [if_pos (by omega)]
  rw [if_neg hf',hf,cond_false,p1,Yk,p2,Yk]
  rw [Zld (f := Xd r L (r.Params ++ r.Locals)) (fun s i=>(s,i,())) (r.Params ++ r.Locals) (fun f:Xh=>Jj f.Name (AL f)) 0 (fun _=>some (Aw r.Body)) (by omega) (fun x s=>CS _ _ _) (fun self s i x hx hi mem hsl=>by
   have ok:Zab x∧x.Name.length < L:=by
    rcases List.mem_append.1 mem with m | m
    ·exact ⟨h.Params.2 x m,by have:=Znt m; omega⟩
    ·exact ⟨h.Locals.2 x m,by have:=Znt m; omega⟩
   have hn:=Zc4 L h1 x.Name s (by have:=ok.1.Name; unfold Len; omega) ok.2 (by unfold Len; omega) (by omega)
   rw [Xd]
   simp only [Zo,Zf,cond_true,cond_false,Zm,Yk,Ze,ZU,condC,Zz,Zy,ZP,We,Qe,WM,hi,hx,hn,Zfk,Ja,Ii,ZkE,apS (show s.length≤8000000000000 by omega),wrap_succ hi (by omega)]
   rw [← ZbF]
   by_cases c:(Jj x.Name (AL x) s).1=0
   ·rw [CU c]
   ·simp [c]) (fun self s hsl=>by
   rw [Xd]; simp only [Zo,Zf,cond_true,cond_false,Zm,Yk,Ze,ZU,condC,Zz,Zy,ZP,We,Qe,WM,Zfm L h1 r.Body h.p.2.2 (by omega)]) [] (Nat.le_refl _)]
  rw [Ia]; rfl
theorem Zbw (L:Nat)(d:Zp)(h:Wq d)(hL:d.Shift.length < L)(hc:IntKind.i64.wrap (d.Cycle - 1)=d.Cycle - 1):Zw (WH d L) L (0,())=some (Zkw d.Cycle none d.Shift):=by
 have hl:=h.s
 refine ZgF (f := WH d L) d.Shift.length (fun i=>(i,())) (fun i=>some (Zkw d.Cycle (Zdz d.Shift i) (d.Shift.drop i))) (fun self i hi e=>?_) (fun self=>?_) L 0 (Nat.zero_le _) (by omega)
 ·have hx:=List.getElem?_eq_getElem hi
  rw [List.drop_eq_getElem_cons hi,Zkw]
  rw [show Zdz d.Shift (i + 1)=some (d.Shift[i].At_) by rw [Zdz,hx]; rfl] at e
  rw [WH]
  simp only [Zo,Zf,cond_true,cond_false,Zm,Yk,Ze,ZU,condC,Zz,Zy,ZP,We,Qe,WM,hi,hx,VK,wrap_succ hi (by omega),e,hc,ZjP _ _ _ hi hl]; simp only [Xl,Ia,if_true,if_false,Bool.false_eq_true,ne_eq,decide_not,gt_iff_lt,ge_iff_le]
 ·rw [WH]; simp only [Zo,Zf,cond_true,cond_false,Zm,Yk,Ze,ZU,condC,Zz,Zy,ZP,We,Qe,WM,List.drop_length,Zkw]
theorem ZaP (L:Nat)(d:Zp)(h:Wq d)(hL:d.Shift.length < L):Xf L (d,())=some (Zka d):=by
 simp only [Zo,Zf,cond_true,cond_false,Zm,Yk,Ze,ZU,condC,Zz,Zy,ZP,We,Qe,WM,Dt,VK,Ja,Zka]
 by_cases hc:btw d.Cycle 1 1000000000=true
 ·have:=Zbw L d h hL (by simp only [btw,Bool.and_eq_true,decide_eq_true_eq] at hc; exact wrap_in (by omega) (by omega))
  rw [this]; simp only [Xl,Ia,if_true,if_false,Bool.false_eq_true,ne_eq,decide_not,gt_iff_lt,ge_iff_le,YA]
  by_cases a:d.Cycle=0 <;> simp [a]
 ·rw [Bool.not_eq_true] at hc
  simp only [Xl,Ia,if_true,if_false,Bool.false_eq_true,ne_eq,decide_not,gt_iff_lt,ge_iff_le,hc,Bool.not_false,YA]
  by_cases a:d.Cycle=0 <;> simp [a]
theorem Zdw (L:Nat)(h1:100≤L)(d:Zj)(h:Ws d)(hs:Sh L d)(x:Zp)(ok:Wq x)(hx:SizeOf.sizeOf x≤L):Xg L (d,x,())=some (ZlA d x):=by
 have hx2:SizeOf.sizeOf x.Fault < SizeOf.sizeOf x∧SizeOf.sizeOf x.Shift < SizeOf.sizeOf x∧SizeOf.sizeOf x.Fault.Up < SizeOf.sizeOf x.Fault∧SizeOf.sizeOf x.Fault.Down < SizeOf.sizeOf x.Fault:=by
  obtain ⟨a,b,c,d,⟨e,f,g⟩⟩:=x; simp; omega
 have hsh:=ZK x.Shift
 have hst:=h.st
 rw [← ZjX]
 simp only [Zo,Zf,cond_true,cond_false,Zm,Yk,Ze,ZU,condC,Zz,Zy,ZP,We,Qe,WM,Du,VK,Ja,Ii,ZaP L x ok (by omega),NY L x.Fault.Up _ ok.Fault.Up (by omega),NY L x.Fault.Down _ ok.Fault.Down (by omega),Pi,Zfj L d.Streams x.Fault.Stream (by unfold Len; omega) hs.str,JZ L x.Fault.Up ok.Fault.Up (by omega),JZ L x.Fault.Down ok.Fault.Down (by omega),Zcl,Znc]; simp only [Xl,Ia,if_true,if_false,Bool.false_eq_true,ne_eq,decide_not,gt_iff_lt,ge_iff_le]
theorem Zl1 (L:Nat)(d:Zj)(j:Nat)(x:Jt)(hx:d.Vars[j]? = some x):Yn L (d,0,(j:Int),())=some (ZcP x):=by
 rw [Wu]; simp only [Zo,Zf,cond_true,cond_false,Zm,Yk,Ze,ZU,condC,Zz,Zy,ZP,We,Qe,WM,hx,Int.reduceEq,decide_true,decide_false,Zfk,Ja,Zl0,Ii,valueR]
theorem Zl2 (L:Nat)(h1:100≤L)(d:Zj)(h:Ws d)(hL:SizeOf.sizeOf d≤L)(j:Nat)(x:Zp)(hx:d.Resources[j]? = some x):Yn L (d,1,(j:Int),())=some (ZlA d x):=by
 have hz:=Ee d
 have mem:=List.mem_of_getElem? hx
 have hm:=List.sizeOf_lt_of_mem mem
 rw [Wu]; simp only [Zo,Zf,cond_true,cond_false,Zm,Yk,Ze,ZU,condC,Zz,Zy,ZP,We,Qe,WM,hx,Int.reduceEq,decide_true,decide_false,Zdw L h1 d h (Sh.of hL) x (h.Resources.2 x mem) (by omega)]
theorem Zl3 (L:Nat)(d:Zj)(j:Nat)(x:YN)(hx:d.Stores[j]? = some x):Yn L (d,2,(j:Int),())=some (ZcI x):=by
 rw [Wu]; simp only [Zo,Zf,cond_true,cond_false,Zm,Yk,Ze,ZU,condC,Zz,Zy,ZP,We,Qe,WM,hx,Int.reduceEq,decide_true,decide_false,VK,Ja,Ii,ge_iff_le,ZlK]
theorem Zl4 (L:Nat)(d:Zj)(j:Nat)(x:WC)(hx:d.Belts[j]? = some x):Yn L (d,3,(j:Int),())=some (Zgc x):=by
 rw [Wu]; simp only [Zo,Zf,cond_true,cond_false,Zm,Yk,Ze,ZU,condC,Zz,Zy,ZP,We,Qe,WM,hx,Int.reduceEq,decide_true,decide_false,VK,Ja,Zms]
theorem Zl5 (L:Nat)(h1:100≤L)(d:Zj)(h:Ws d)(hL:SizeOf.sizeOf d≤L)(j:Nat)(x:YL)(hx:d.Routines[j]? = some x):Yn L (d,9,(j:Int),())=some (G6 x):=by
 have hz:=Ee d
 have mem:=List.mem_of_getElem? hx
 have hm:=List.sizeOf_lt_of_mem mem
 have e:=Zdx L h1 x (h.Routines.2 x mem) (by omega)
 generalize G6 x=z at e ⊢
 rw [Wu,show ((9:Int) == 0)=false from rfl,show ((9:Int) == 1)=false from rfl,show ((9:Int) == 2)=false from rfl,show ((9:Int) == 3)=false from rfl,show ((9:Int) == 9)=true from rfl,cond_false,cond_false,cond_false,cond_false,cond_true,Zm,hx,Yk,e,Yk]
theorem F9 (L:Nat)(d:Zj)(k j:Int)(h:k=4∨k=5∨k=6∨k=7∨k=8):Yn L (d,k,j,())=some 0:=by
 rw [Wu]; rcases h with rfl | rfl | rfl | rfl | rfl <;> simp only [Zo,Zf,cond_true,cond_false,Zm,Yk,Ze,ZU,condC,Zz,Zy,ZP,We,Qe,WM,Int.reduceEq,decide_true,decide_false]
end Go.Proofs.YtleomfgijkapfaaGreatDoor
end
section
namespace Go.Proofs.YtleomfgijkapfaaGreatDoor
open Go Go.Proofs.YtleomfgijkapfaaGreatDoor.Abs Go.Proofs.YtleomfgijkapfaaGreatDoor.Tl
set_option maxRecDepth 100000
theorem Zdv (L:Nat)(h1:100≤L)(d:Zj)(h:Ws d)(hL:SizeOf.sizeOf d≤L)(k:Nat)(p:Int×List (List UInt8×Int))(hp:(Xy d)[k]? = some p)(j:Nat)(q:List UInt8×Int)(hq:p.2[j]? = some q):Yn L (d,(k:Int),(j:Int),())=some q.2:=by
 rcases k with _ | _ | _ | _ | _ | _ | _ | _ | _ | _ | k
 ·obtain rfl:=Option.some.inj hp; obtain ⟨x,hx,rfl⟩:=V5 hq; exact Zl1 L d j x hx
 ·obtain rfl:=Option.some.inj hp; obtain ⟨x,hx,rfl⟩:=V5 hq; exact Zl2 L h1 d h hL j x hx
 ·obtain rfl:=Option.some.inj hp; obtain ⟨x,hx,rfl⟩:=V5 hq; exact Zl3 L d j x hx
 ·obtain rfl:=Option.some.inj hp; obtain ⟨x,hx,rfl⟩:=V5 hq; exact Zl4 L d j x hx
 ·obtain rfl:=Option.some.inj hp; obtain ⟨x,hx,rfl⟩:=V5 hq; exact F9 L d 4 j (by simp)
 ·obtain rfl:=Option.some.inj hp; obtain ⟨x,hx,rfl⟩:=V5 hq; exact F9 L d 5 j (by simp)
 ·obtain rfl:=Option.some.inj hp; obtain ⟨x,hx,rfl⟩:=V5 hq; exact F9 L d 6 j (by simp)
 ·obtain rfl:=Option.some.inj hp; obtain ⟨x,hx,rfl⟩:=V5 hq; exact F9 L d 7 j (by simp)
 ·obtain rfl:=Option.some.inj hp; obtain ⟨x,hx,rfl⟩:=V5 hq; exact F9 L d 8 j (by simp)
 ·obtain rfl:=Option.some.inj hp; obtain ⟨x,hx,rfl⟩:=V5 hq; exact Zl5 L h1 d h hL j x hx
 ·exact absurd hp (by simp [Xy])
theorem Zdk (L:Nat)(d:Zj)(h:Ws d)(hL:SizeOf.sizeOf d≤L):∀ p ∈ Xy d,∀ q ∈ p.2,Len q.1∧q.1.length < L:=by
 have hz:=Ee d
 intro p hp q hq
 simp only [Xy,List.mem_cons,List.not_mem_nil,or_false] at hp
 unfold Len
 rcases hp with rfl | rfl | rfl | rfl | rfl | rfl | rfl | rfl | rfl | rfl <;> obtain ⟨x,mem,rfl⟩:=List.mem_map.1 hq
 ·have:=ZlO (fun v:Jt=>v.Name) (fun x=>by cases x; simp; omega) mem; have:=(h.Vars.2 x mem).Name; simp only; omega
 ·have:=ZlO (fun v:Zp=>v.Name) (fun x=>by cases x; simp; omega) mem; have:=(h.Resources.2 x mem).Name; simp only; omega
 ·have:=ZlO (fun v:YN=>v.Name) (fun x=>by cases x; simp; omega) mem; have:=(h.Stores.2 x mem).Name; simp only; omega
 ·have:=ZlO (fun v:WC=>v.Name) (fun x=>by cases x; simp; omega) mem; have:=(h.Belts.2 x mem).Name; simp only; omega
 ·have:=List.sizeOf_lt_of_mem mem; have:=ZK x; have:=h.Queues.2 x mem; simp only; omega
 ·have:=List.sizeOf_lt_of_mem mem; have:=ZK x; have:=h.Streams.2 x mem; simp only; omega
 ·have:=List.sizeOf_lt_of_mem mem; have:=ZK x; have:=h.Tallies.2 x mem; simp only; omega
 ·have:=List.sizeOf_lt_of_mem mem; have:=ZK x; have:=h.Levels.2 x mem; simp only; omega
 ·have:=List.sizeOf_lt_of_mem mem; have:=ZK x; have:=h.Counts.2 x mem; simp only; omega
 ·have:=ZlO (fun v:YL=>v.Name) (fun x=>by cases x; simp; omega) mem; have:=(h.Routines.2 x mem).Name; simp only; omega
theorem inner (L:Nat)(h1:1000≤L)(d:Zj)(h:Ws d)(hL:SizeOf.sizeOf d≤L)(k:Nat)(p:Int×List (List UInt8×Int))(hp:(Xy d)[k]? = some p)(hl:p.2.length≤32)(hk:k < 10)(self:Int×List (List UInt8)×Int×PUnit→Option Int)(s0 s:Seen)(hs:s.length≤32 * k) :
  Zw (XU d L ((Xy d).map Fq) self (0,s0,(k:Int),())) L (0,s,0,())=if decide ((VO Iy p.2 s).1≠0)=true then some (VO Iy p.2 s).1 else self (0,(VO Iy p.2 s).2,(k:Int) + 1,()):=by
 have hg:Y1 ((Xy d).map Fq) (k:Int)=some (Fq p):=by rw [Zm,List.getElem?_map,hp]; rfl
 have hlen:(Fq p).length=p.2.length:=by simp [Fq]
 refine Zld (f := XU d L ((Xy d).map Fq) self (0,s0,(k:Int),())) (fun s i=>(0,s,i,())) p.2 Iy (32 * k) (fun s=>self (0,s,(k:Int) + 1,())) (by omega) (fun x s=>CS _ _ _) (fun self1 s i x hx hi mem hsl=>?_) (fun self1 s hsl=>?_) s hs
 ·have hq:(Fq p)[i]? = some x.1:=by unfold Fq; rw [List.getElem?_map,hx]; rfl
  have hi':i < (Fq p).length:=by omega
  have hnl:=Zdk L d h hL p (List.mem_of_getElem? hp) x mem
  have hn:=Zc4 L (by omega) x.1 s hnl.1 hnl.2 (by unfold Len; omega) (by omega)
  have hd:=Zdv L (by omega) d h hL k p hp i x hx
  rw [XU]
  simp only [hg,Yk]
  simp only [Zo,Zf,cond_true,cond_false,Zm,Yk,Ze,ZU,condC,Zz,Zy,ZP,We,Qe,WM,hi',hq,hn,hd,Ii,apS (show s.length≤8000000000000 by omega),wrap_in (show -9223372036854775808≤(i:Int) + 1 by omega) (by omega)]
  rw [← ZbF]
  show _=bif !decide ((Jj x.1 x.2 s).1=0) then some (Jj x.1 x.2 s).1 else self1 (0,(Jj x.1 x.2 s).2,(i:Int) + 1,())
  by_cases c:(Jj x.1 x.2 s).1=0
  ·rw [CU c]
  ·simp [c]
 ·rw [XU,← hlen]
  simp only [hg,Yk]
  simp only [Zo,Zf,cond_true,cond_false,Zm,Yk,Ze,ZU,condC,Zz,Zy,ZP,We,Qe,WM,wrap_in (show -9223372036854775808≤(k:Int) + 1 by omega) (by omega)]
theorem outer (L:Nat)(h1:1000≤L)(d:Zj)(h:Ws d)(hL:SizeOf.sizeOf d≤L)(E:Option Int)(hE:(bif decide ((d.Starts.length:Int) > 32) then some (6:Int) else Zw (Rn d L) L (0,0,()))=E):∀ (m k:Nat) (s:Seen),k≤10→10 - k < m→s.length≤32 * k →
  Zw (XV d L ((Xy d).map Fq)) m (0,s,(k:Int),())=if decide ((ZlJ (((Xy d).drop k).map stepD) s).1≠0)=true then some (ZlJ (((Xy d).drop k).map stepD) s).1 else E
 | 0,_,_,_,h,_=>absurd h (Nat.not_lt_zero _)
 | m + 1,k,s,hk,hm,hs=>by
  show XV d L ((Xy d).map Fq) (Zw (XV d L ((Xy d).map Fq)) m) (0,s,(k:Int),())=_
  have hlen:(Xy d).length=10:=rfl
  have hlm:((Xy d).map Fq).length=10:=by rw [List.length_map,hlen]
  rcases Nat.lt_or_ge k 10 with hlt | hge
  ·have hp:=List.getElem?_eq_getElem (show k < (Xy d).length by omega)
   generalize (Xy d)[k]=p at hp
   have hg:Y1 ((Xy d).map Fq) (k:Int)=some (Fq p):=by rw [Zm,List.getElem?_map,hp]; rfl
   have hnl:(Fq p).length=p.2.length:=by simp [Fq]
   have hmost:=Zdj d k p hp
   have hdrop:(Xy d).drop k=p :: (Xy d).drop (k + 1):=by
    rw [List.drop_eq_getElem_cons (show k < (Xy d).length by omega)]
    congr 1
    exact Option.some.inj ((List.getElem?_eq_getElem (show k < (Xy d).length by omega)).symm.trans hp)
   have hguard:(decide ((p.2.length:Int) > 32) || (decide ((k:Int)=9) && decide ((p.2.length:Int) > 16)))=decide (p.1 < (p.2.length:Int)):=by
    rw [hmost]
    by_cases c:k=9
    ·subst c; simp; omega
    ·rw [if_neg c,show decide ((k:Int)=9)=false by simp only [decide_eq_false_iff_not]; omega]; simp
   rw [XV,hdrop,List.map_cons,ZlJ]
   simp only [hlm,show decide ((k:Int) < ((10:Nat):Int))=true by simp only [decide_eq_true_eq]; omega,cond_true,hg,Yk,hnl]
   simp only [Zo,Zf,cond_true,cond_false,Zm,Yk,Ze,ZU,condC,Zz,Zy,ZP,We,Qe,WM,hguard]
   by_cases c:p.1 < (p.2.length:Int)
   ·have e:stepD p s=(6,s):=by unfold stepD ZiL; rw [if_pos (by simpa using c)]
    simp [c,e]
   ·have e:stepD p s=VO Iy p.2 s:=by unfold stepD ZiL; rw [if_neg (by simpa using c)]
    have hpl:p.2.length≤32:=by rw [hmost] at c; split at c <;> omega
    rw [show decide (p.1 < (p.2.length:Int))=false by simpa using c,cond_false,inner L h1 d h hL k p hp hpl hlt,e]
    have hsl:(VO Iy p.2 s).2.length≤32 * (k + 1):=by have:=ZcE p.2 s; omega
    have ih:=outer L h1 d h hL E hE m (k + 1) (VO Iy p.2 s).2 hlt (by omega) hsl
    by_cases z:(VO Iy p.2 s).1=0
    ·simp only [z,ne_eq,not_true_eq_false,decide_false,Bool.false_eq_true,if_false]
     exact ih
    ·simp [z]
    exact hs
  ·have:k=10:=by omega
   subst this
   rw [XV,hlm,show (Xy d).drop 10=[] from rfl]
   simp only [Zo,Zf,cond_true,cond_false,Zm,Yk,Ze,ZU,condC,Zz,Zy,ZP,We,Qe,WM,show decide (((10:Nat):Int) < ((10:Nat):Int))=false from rfl,hE]
   simp [ZlJ]
end Go.Proofs.YtleomfgijkapfaaGreatDoor
end
section
namespace Go.Proofs.YtleomfgijkapfaaGreatDoor
open Go Go.Proofs.YtleomfgijkapfaaGreatDoor.Abs Go.Proofs.YtleomfgijkapfaaGreatDoor.Tl
set_option maxRecDepth 100000
def Znr (w:List UInt8):Int:=if w=[115,108,111,116] then 1 else if w=[118,97,114] then 2 else if w=[115,116,114,101,97,109] then 3 else if w=[105,110,115,116,114] then 4 else if w=[114,101,115,111,117,114,99,101] then 5 else if w=[115,116,111,114,101] then 6 else if w=[98,101,108,116] then 7 else if w=[113,117,101,117,101] then 8 else if w=[115,105,116,101] then 9 else if w=[116,97,108,108,121] then 11 else if w=[108,101,118,101,108] then 12 else if w=[99,111,117,110,116] then 13 else 0
def Zio:List (List UInt8):=[[],[115,108,111,116],[118,97,114],[115,116,114,101,97,109],[105,110,115,116,114],[114,101,115,111,117,114,99,101],[115,116,111,114,101],[98,101,108,116],[113,117,101,117,101],[115,105,116,101],[116,97,108,108,121],[108,101,118,101,108],[99,111,117,110,116]]
structure Rel (op:Int)(f:H6)(g:Q3):Prop where
 rc:g.C=f.c
 re:g.E=f.e
 rf:g.F=f.f
 rargs:g.Args=f.args
 rflag:g.Flag=f.preempt
 rdist:f.dist=decide (op=3)
 rgdist:g.Dist=f.dist
 wa:g.A ∈ Zio
 na:Znr g.A=f.a
 wa0:decide (g.A=[])=decide (f.a=0)
 na10:f.a≠10
 wb0:decide (g.B=[])=decide (f.b=0)
 wb:op≠14→op≠15→g.B ∈ Zio∧Znr g.B=f.b∧f.b≠10
 f14:op=14→f.a=9
 f15:op=15→f.a=0
end Go.Proofs.YtleomfgijkapfaaGreatDoor
end
section
namespace Go.Proofs.YtleomfgijkapfaaGreatDoor
open Go Go.Proofs.YtleomfgijkapfaaGreatDoor.Abs Go.Proofs.YtleomfgijkapfaaGreatDoor.Tl
set_option maxRecDepth 100000
theorem ZfC (i:ZF):SizeOf.sizeOf i.E < SizeOf.sizeOf i∧SizeOf.sizeOf i.F < SizeOf.sizeOf i∧SizeOf.sizeOf i.Args < SizeOf.sizeOf i∧SizeOf.sizeOf i.Dist < SizeOf.sizeOf i:=by cases i; simp; omega
def ZdR (f:H6)(i:ZF):List Zq:=(bif f.e then [i.E] else []) ++ ((bif f.f then [i.F] else []) ++ (bif f.args then i.Args else []))
theorem apE (l m:List Zq)(h:(l.length + m.length) * 56≤140737488355328):apT 56 l m=some (l ++ m):=by unfold apT; rw [if_pos h]
theorem Zno (i:ZF)(ha:i.Args.length * 56≤140737488351232):apT 56 [] [i.E]=some [i.E]∧apT 56 [] [i.F]=some [i.F]∧apT 56 [i.E] [i.F]=some ([i.E] ++ [i.F])∧apT 56 [] i.Args=some i.Args∧apT 56 [i.E] i.Args=some ([i.E] ++ i.Args)∧apT 56 [i.F] i.Args=some ([i.F] ++ i.Args)∧apT 56 ([i.E] ++ [i.F]) i.Args=some ([i.E] ++ [i.F] ++ i.Args) :=
 ⟨apE [] [i.E] (by simp),apE [] [i.F] (by simp),apE _ _ (by simp),apE [] i.Args (by simp only [List.length_nil]; omega),apE _ _ (by simp only [List.length_cons,List.length_nil]; omega),apE _ _ (by simp only [List.length_cons,List.length_nil]; omega),apE _ _ (by simp only [List.cons_append,List.nil_append,List.length_cons,List.length_nil]; omega)⟩
theorem LY (L:Nat)(n:Int):Xp L (n,())=some (btw n 1 19):=FK L n
theorem Ij (L:Nat)(n:Int):Va L (n,())=some (btw n 1 19):=Zbp L n
theorem Zhd (L:Nat)(i:ZF)(h:QL i)(hk:btw i.Op 1 19=true)(f:H6)(hf:Y1 XQ i.Op=some f):ZI L (i,())=some (ZdR f i):=by
 have ha:=h.Args.1
 simp only [Zo,Zf,cond_true,cond_false,Zm,Yk,Ze,ZU,condC,Zz,Zy,ZP,We,Qe,WM,Vk,LY,hk,hf,Bool.not_true]
 unfold ZdR
 obtain ⟨a0,a1,a2,a3,a4,a5,a6⟩:=Zno i ha
 cases f.e <;> cases f.f <;> cases f.args <;> simp only [cond_true,cond_false,a0,a1,a2,a3,a4,a5,a6,Yk,List.nil_append,List.append_nil,List.append_assoc]
theorem Zhf (L:Nat)(i:ZF)(h:QL i)(hk:btw i.Op 1 19=true)(f:H6)(g:Q3)(gs:List Q3)(hg:QY L ()=some gs)(hg':Y1 gs i.Op=some g)(r:Rel i.Op f g):Wi L (i,())=some (ZdR f i):=by
 have ha:=h.Args.1
 simp only [Zo,Zf,cond_true,cond_false,Zm,Yk,Ze,ZU,condC,Zz,Zy,ZP,We,Qe,WM,Rk,Ij,hk,hg,hg',r.re,r.rf,r.rargs,Bool.not_true]
 unfold ZdR
 obtain ⟨a0,a1,a2,a3,a4,a5,a6⟩:=Zno i ha
 cases f.e <;> cases f.f <;> cases f.args <;> simp only [cond_true,cond_false,a0,a1,a2,a3,a4,a5,a6,Yk,List.nil_append,List.append_nil,List.append_assoc]
theorem Zm1 (f:H6)(i:ZF)(h:QL i):(ZdR f i).length≤4611686018427387∧(ZdR f i).length≤2 + i.Args.length∧∀ x ∈ ZdR f i,ZW x∧SizeOf.sizeOf x < SizeOf.sizeOf i:=by
 have hz:=ZfC i
 have ha:=h.Args.1
 have hl:(ZdR f i).length≤2 + i.Args.length:=by
  unfold ZdR; cases f.e <;> cases f.f <;> cases f.args <;> simp <;> omega
 refine ⟨by omega,hl,fun x hx=>?_⟩
 unfold ZdR at hx
 rcases List.mem_append.1 hx with hx | hx
 ·cases he:f.e <;> rw [he] at hx
  ·cases hx
  ·rw [List.mem_singleton.1 hx]; exact ⟨h.E,by omega⟩
 rcases List.mem_append.1 hx with hx | hx
 ·cases he:f.f <;> rw [he] at hx
  ·cases hx
  ·rw [List.mem_singleton.1 hx]; exact ⟨h.F,by omega⟩
 ·cases he:f.args <;> rw [he] at hx
  ·cases hx
  ·have hx:x ∈ i.Args:=hx
   exact ⟨h.Args.2 x hx,by have:=List.sizeOf_lt_of_mem hx; omega⟩
end Go.Proofs.YtleomfgijkapfaaGreatDoor
end
section
namespace Go.Proofs.YtleomfgijkapfaaGreatDoor
open Go Go.Proofs.YtleomfgijkapfaaGreatDoor.Abs Go.Proofs.YtleomfgijkapfaaGreatDoor.Tl
set_option maxRecDepth 100000
theorem RY (c:WN):SizeOf.sizeOf c.Name < SizeOf.sizeOf c∧SizeOf.sizeOf c.Instrs < SizeOf.sizeOf c:=by cases c; simp; omega
end Go.Proofs.YtleomfgijkapfaaGreatDoor
end
section
namespace Go.Proofs.YtleomfgijkapfaaGreatDoor
open Go Go.Proofs.YtleomfgijkapfaaGreatDoor.Abs Go.Proofs.YtleomfgijkapfaaGreatDoor.Tl
set_option maxRecDepth 100000
theorem Zlc {τ σ ρ:Type}{f:(τ→Option ρ)→τ→Option ρ}(n:Nat)(pk:σ→Int→τ)
  (h1:∀ self s (i:Nat),i < n→(∀ s',∃ r,self (pk s' ((i:Int) + 1))=some r)→∃ r,f self (pk s i)=some r)
  (h2:∀ self s,∃ r,f self (pk s n)=some r):∀ (m i:Nat) (s:σ),i≤n→n - i < m→∃ r,Zw f m (pk s i)=some r
 | 0,_,_,_,h=>absurd h (Nat.not_lt_zero _)
 | m + 1,i,s,hi,hm=>by
  show ∃ r,f (Zw f m) (pk s i)=some r
  rcases Nat.lt_or_ge i n with hlt | hge
  ·exact h1 _ s i hlt fun s'=>Zlc n pk h1 h2 m (i + 1) s' hlt (by omega)
  ·have:i=n:=by omega
   subst this
   exact h2 _ s
theorem ZjG (L:Nat)(c:WN)(h:c.Instrs.length≤4611686018427387)(hL:c.Instrs.length < L):∃ r,XA L (c,())=some r:=by
 rw [Sv]
 exact Zlc (f := Xc c) c.Instrs.length (fun (_:Unit) i=>(i,())) (fun self _ i hi e=>by
  have hx:=List.getElem?_eq_getElem hi
  generalize c.Instrs[i]=x at hx
  obtain ⟨r,e⟩:=e ()
  rw [Xc]
  simp only [Zo hi,cond_true,Zm,hx,Yk,wrap_succ hi (by omega),e,ZP]
  exact ⟨_,rfl⟩) (fun self _=>by rw [Xc]; simp only [Zf,cond_false]; exact ⟨_,rfl⟩) L 0 () (Nat.zero_le _) (by omega)
end Go.Proofs.YtleomfgijkapfaaGreatDoor
end
noncomputable section
namespace Go.Proofs.YtleomfgijkapfaaGreatDoor
open Go Go.Proofs.YtleomfgijkapfaaGreatDoor.Abs Go.Proofs.YtleomfgijkapfaaGreatDoor.Tl
set_option maxRecDepth 100000
set_option maxHeartbeats 0
def QX (L:Nat)(x:Ya×PUnit):Option (List UInt8):=fT [Bo,Jg L] L DC [.rnd [.slot 3 .str,.slot 4 (.int .i64)]] (.one .str) [.row 2] x
def PK (L:Nat):Sum tT:=mU 94 [.row 2] (.one .str) (QX L)
theorem ZdE:SX PK:=fun h=>sT h (ZJ (SY h) (ZJ (Zbz h) Qa)) rfl (by kernel_rfl) fun _=>rfl
def Qk:Ya→(List UInt8×Int×PUnit→Option (List UInt8))→List UInt8×Int×PUnit→Option (List UInt8):=fun x0 self acc=>bif decide (acc.2.1 < (↑x0.5.length:Int)) then bT (Yx acc.1 [32]) fun y=>bT (Y1 x0.5 acc.2.1) fun y_1=>bT (bT (Yt y_1) fun y=>some y) fun y_2=>bT (Yx y y_2) fun y=>bT (Yx y [58]) fun y=>bT (Y1 x0.6 acc.2.1) fun y_3=>bT (bT (Yt y_3) fun y=>some y) fun y_4=>bT (Yx y y_4) fun y=>self (y,Go.IntKind.i64.wrap (acc.2.1 + 1),()) else some acc.1
theorem Zd1 (L:Nat)(x0:Ya):QX L (x0,())=bT (Qo L (x0,())) fun y=>bif y != 0 then some [] else bif x0.1 == 1 then bT (Yt x0.2) fun y=>bT (Yx [99,111,110,115,116,32] y) fun y=>some y else bif x0.1 == 2 then bT (bT (Yt x0.2) fun y=>some y) fun y=>bT (Yx [117,110,105,102,111,114,109,32] y) fun y=>bT (Yx y [32]) fun y=>bT (bT (Yt x0.3) fun y=>some y) fun y_1=>bT (Yx y y_1) fun y=>some y else bif x0.1 == 4 then bT (bT (Yt x0.4) fun y=>some y) fun y=>bT (Yx [115,117,109,32] y) fun y=>bT (Yx y [32]) fun y=>bT (bT (Yt x0.2) fun y=>some y) fun y_1=>bT (Yx y y_1) fun y=>bT (Yx y [32]) fun y=>bT (bT (Yt x0.3) fun y=>some y) fun y_2=>bT (Yx y y_2) fun y=>some y else bif x0.1 == 5 then bT (bT (Yt x0.2) fun y=>some y) fun y=>bT (Yx [103,101,111,109,32] y) fun y=>bT (Yx y [32]) fun y=>bT (bT (Yt x0.3) fun y=>some y) fun y_1=>bT (Yx y y_1) fun y=>some y else Zw (Qk x0) L ([116,97,98,108,101],0,()):=by kernel_rfl
def XX (L:Nat):Nat→List (Sum tT)
 | 0=>[⟨93,[.row 8],fun _=>.par _ none ((.one (.str):RD).tv tT)⟩]
 | m + 1=>[⟨93,[.row 8],fun x=>.par _ (fnT tF tG (qOf tF (XX L m ++ [Bo])) 0 L Vy [.rnd [.slot 3 (.str),.slot 4 (.int .i64)]] (.one (.str)) (tvL tT [.row 8] x) []) ((.one (.str):RD).tv tT)⟩]
theorem Vm {C:Cfg}{L:Nat}(h:St C L):∀ m,∀ s ∈ XX L m,V9 C s
 | 0=>(ZJ (ZcJ _ _ _) Qa)
 | m + 1=>have ih:=Vm h m
  (ZJ (Ku Ur h.L h.G (Oa Ur (ZfZ ih (ZJ (SY h) Qa))) [.rnd [.slot 3 (.str),.slot 4 (.int .i64)]] (h.T _ _ rfl) (by kernel_rfl) fun _=>rfl) Qa)
def QE (L m:Nat)(x:Zq×PUnit):Option ((List UInt8)):=fnT tF tG (qOf tF (XX L m ++ [Bo])) 0 L Vy [.rnd [.slot 3 (.str),.slot 4 (.int .i64)]] (.one (.str)) (tvL tT [.row 8] x) []
def Wv (L:Nat)(x:Zq×PUnit):Option ((List UInt8)):=QE L L x
def U4 (L:Nat):Sum tT:=⟨93,[.row 8],fun x=>.par ((.one (.str):RD).Ty tT) (Wv L x) ((.one (.str):RD).tv tT)⟩
theorem Dw {C:Cfg}{L:Nat}(h:St C L):V9 C (U4 L):=have ih:=Vm h L
 Ku Ur h.L h.G (Oa Ur (ZfZ ih (ZJ (SY h) Qa))) [.rnd [.slot 3 (.str),.slot 4 (.int .i64)]] (h.T _ _ rfl) (by kernel_rfl) fun _=>rfl
def QD:Nat→Zq→Nat→(List UInt8×Int×PUnit→Option (List UInt8))→List UInt8×Int×PUnit→Option (List UInt8):=fun (m:Nat)=>fun x0 L self acc=>bif decide (acc.2.1 < (↑x0.4.length:Int)) then bT (Yx acc.1 [32]) fun y=>bT (Y1 x0.4 acc.2.1) fun y_1=>bT (QE L m (y_1,())) fun y_2=>bT (Yx y y_2) fun y=>self (y,Go.IntKind.i64.wrap (acc.2.1 + 1),()) else bT (Yx acc.1 [41]) fun y=>some y
theorem Dv (L m:Nat)(x0:Zq):QE L (m + 1) (x0,())=bT (bT (Yt x0.1) fun y=>some y) fun y=>bT (Yx [40] y) fun y=>bT (Yx y [32]) fun y=>bT (bT (Yt x0.3) fun y=>some y) fun y_1=>bT (Yx y y_1) fun y=>Zw (QD m x0 L) L (y,0,()):=by kernel_rfl
def Uj (L:Nat)(x:Int×ZF×PUnit):Option (List UInt8):=fT [Bo,PK L,U4 L,Bj L,Kv L,Kw L] L DT [.rnd [.slot 7 .str,.slot 9 (.int .i64)]] (.one .str) [.int .i64,.row 15] x
def PO (L:Nat):Sum tT:=mU 46 [.int .i64,.row 15] (.one .str) (Uj L)
theorem ZdG:SX PO:=fun h=>sT h (ZJ (SY h) (ZJ (ZdE h) (ZJ (Dw h) (ZJ (Zb1 h) (ZJ (RI h) (ZJ (RJ h) Qa)))))) rfl (by kernel_rfl) fun _=>rfl
def Qm:ZF→Nat→List Zq→(List UInt8×Int×PUnit→Option (List UInt8))→List UInt8×Int×PUnit→Option (List UInt8):=fun x1 L y self acc=>bif decide (acc.2.1 < (↑y.length:Int)) then bT (Yx acc.1 [32]) fun y_1=>bT (Y1 y acc.2.1) fun y=>bT (Wv L (y,())) fun y=>bT (Yx y_1 y) fun y=>self (y,Go.IntKind.i64.wrap (acc.2.1 + 1),()) else bif x1.1 == 3 then bT (Yx acc.1 [32]) fun y=>bT (QX L (x1.8,())) fun y_1=>bT (Yx y y_1) fun y=>bT (Yx y [10]) fun y=>some y else bT (Yx acc.1 [10]) fun y=>some y
def Ro:ZF→Nat→List Zq→(List UInt8×Int×PUnit→Option (List UInt8))→List UInt8×Int×PUnit→Option (List UInt8):=fun x1 L y self acc=>bif decide (acc.2.1 < (↑y.length:Int)) then bT (Yx acc.1 [32]) fun y_1=>bT (Y1 y acc.2.1) fun y=>bT (Wv L (y,())) fun y=>bT (Yx y_1 y) fun y=>self (y,Go.IntKind.i64.wrap (acc.2.1 + 1),()) else bif x1.1 == 3 then bT (Yx acc.1 [32]) fun y=>bT (QX L (x1.8,())) fun y_1=>bT (Yx y y_1) fun y=>bT (Yx y [10]) fun y=>some y else bT (Yx acc.1 [10]) fun y=>some y
def Rq:ZF→Nat→List Zq→(List UInt8×Int×PUnit→Option (List UInt8))→List UInt8×Int×PUnit→Option (List UInt8):=fun x1 L y self acc=>bif decide (acc.2.1 < (↑y.length:Int)) then bT (Yx acc.1 [32]) fun y_1=>bT (Y1 y acc.2.1) fun y=>bT (Wv L (y,())) fun y=>bT (Yx y_1 y) fun y=>self (y,Go.IntKind.i64.wrap (acc.2.1 + 1),()) else bif x1.1 == 3 then bT (Yx acc.1 [32]) fun y=>bT (QX L (x1.8,())) fun y_1=>bT (Yx y y_1) fun y=>bT (Yx y [10]) fun y=>some y else bT (Yx acc.1 [10]) fun y=>some y
def Rt:ZF→Nat→List Zq→(List UInt8×Int×PUnit→Option (List UInt8))→List UInt8×Int×PUnit→Option (List UInt8):=fun x1 L y self acc=>bif decide (acc.2.1 < (↑y.length:Int)) then bT (Yx acc.1 [32]) fun y_1=>bT (Y1 y acc.2.1) fun y=>bT (Wv L (y,())) fun y=>bT (Yx y_1 y) fun y=>self (y,Go.IntKind.i64.wrap (acc.2.1 + 1),()) else bif x1.1 == 3 then bT (Yx acc.1 [32]) fun y=>bT (QX L (x1.8,())) fun y_1=>bT (Yx y y_1) fun y=>bT (Yx y [10]) fun y=>some y else bT (Yx acc.1 [10]) fun y=>some y
theorem Zd9 (L:Nat)(x0:Int)(x1:ZF):Uj L (x0,x1,())=bT (Va L (x1.1,())) fun y=>bif y then bT (bT (QY L ()) fun y=>some y) fun y=>bT (Y1 y x1.1) fun y=>bif x1.9 then bT (bT (Yt x0) fun y=>some y) fun y_1=>bT (Yx y_1 [32]) fun y_2=>bT (Yx y_2 y.1) fun y=>bT (Yx y [32]) fun y=>bT (bT (Yt x1.2) fun y=>some y) fun y_3=>bT (Yx y y_3) fun y=>bT (Yx y [32]) fun y=>bT (bT (Yt x1.3) fun y=>some y) fun y_4=>bT (Yx y y_4) fun y=>bT (Yx y [32]) fun y=>bT (bT (Yt x1.4) fun y=>some y) fun y_5=>bT (Yx y y_5) fun y=>bT (Yx y [32]) fun y=>bT (Yx y [49]) fun y=>bT (Wi L (x1,())) fun y_6=>Zw (Qm x1 L y_6) L (y,0,()) else bT (bT (Yt x0) fun y=>some y) fun y_1=>bT (Yx y_1 [32]) fun y_2=>bT (Yx y_2 y.1) fun y=>bT (Yx y [32]) fun y=>bT (bT (Yt x1.2) fun y=>some y) fun y_3=>bT (Yx y y_3) fun y=>bT (Yx y [32]) fun y=>bT (bT (Yt x1.3) fun y=>some y) fun y_4=>bT (Yx y y_4) fun y=>bT (Yx y [32]) fun y=>bT (bT (Yt x1.4) fun y=>some y) fun y_5=>bT (Yx y y_5) fun y=>bT (Yx y [32]) fun y=>bT (Yx y [48]) fun y=>bT (Wi L (x1,())) fun y_6=>Zw (Ro x1 L y_6) L (y,0,()) else bif x1.9 then bT (bT (Yt x0) fun y=>some y) fun y=>bT (Yx y [32]) fun y=>bT (Yx y [63]) fun y=>bT (Yx y [32]) fun y=>bT (bT (Yt x1.2) fun y=>some y) fun y_1=>bT (Yx y y_1) fun y=>bT (Yx y [32]) fun y=>bT (bT (Yt x1.3) fun y=>some y) fun y_2=>bT (Yx y y_2) fun y=>bT (Yx y [32]) fun y=>bT (bT (Yt x1.4) fun y=>some y) fun y_3=>bT (Yx y y_3) fun y=>bT (Yx y [32]) fun y=>bT (Yx y [49]) fun y=>bT (Wi L (x1,())) fun y_4=>Zw (Rq x1 L y_4) L (y,0,()) else bT (bT (Yt x0) fun y=>some y) fun y=>bT (Yx y [32]) fun y=>bT (Yx y [63]) fun y=>bT (Yx y [32]) fun y=>bT (bT (Yt x1.2) fun y=>some y) fun y_1=>bT (Yx y y_1) fun y=>bT (Yx y [32]) fun y=>bT (bT (Yt x1.3) fun y=>some y) fun y_2=>bT (Yx y y_2) fun y=>bT (Yx y [32]) fun y=>bT (bT (Yt x1.4) fun y=>some y) fun y_3=>bT (Yx y y_3) fun y=>bT (Yx y [32]) fun y=>bT (Yx y [48]) fun y=>bT (Wi L (x1,())) fun y_4=>Zw (Rt x1 L y_4) L (y,0,()):=by kernel_rfl
def Ui (L:Nat)(x:WN×PUnit):Option (List UInt8):=fT [PO L] L DR [.rnd [.slot 3 .str,.slot 4 (.int .i64)]] (.one .str) [.row 16] x
def PN (L:Nat):Sum tT:=mU 19 [.row 16] (.one .str) (Ui L)
theorem ZdF:SX PN:=fun h=>sT h (ZJ (ZdG h) Qa) rfl (by kernel_rfl) fun _=>rfl
def Ql:WN→Nat→(List UInt8×Int×PUnit→Option (List UInt8))→List UInt8×Int×PUnit→Option (List UInt8):=fun x0 L self acc=>bif decide (acc.2.1 < (↑x0.4.length:Int)) then bT (Y1 x0.4 acc.2.1) fun y=>bT (Uj L (acc.2.1,y,())) fun y=>bT (Yx acc.1 y) fun y=>self (y,Go.IntKind.i64.wrap (acc.2.1 + 1),()) else some acc.1
theorem Zd8 (L:Nat)(x0:WN):Ui L (x0,())=Zw (Ql x0 L) L ([],0,()):=by kernel_rfl
def Wh (L:Nat)(x:(List UInt8)×(List Int)×PUnit):Option (List UInt8):=fT [PP] L KO [.rnd [.slot 0 .str,.slot 9 (.int .i64)]] (.one .str) [.str,.lst 1 (.int .i64)] x
def GL (L:Nat):Sum tT:=mU 90 [.str,.lst 1 (.int .i64)] (.one .str) (Wh L)
theorem SN:SX GL:=fun h=>sT h (ZJ (Cf h) Qa) rfl (by kernel_rfl) fun _=>rfl
def Vz:List Int→(List UInt8×Int×PUnit→Option (List UInt8))→List UInt8×Int×PUnit→Option (List UInt8):=fun x1 self acc=>bif decide (acc.2.1 < (↑x1.length:Int)) then bT (Y1 x1 acc.2.1) fun y=>bT (Yt y) fun y=>bT (Yx [32] y) fun y=>bT (Yx acc.1 y) fun y=>self (y,Go.IntKind.i64.wrap (acc.2.1 + 1),()) else some acc.1
theorem Sm (L:Nat)(x0:(List UInt8))(x1:(List Int)):Wh L (x0,x1,())=Zw (Vz x1) L (x0,0,()):=by kernel_rfl
def Qn (L:Nat)(x:Ya×PUnit):Option (List UInt8):=fB [PP,GL L,Ox L] L Tv [.rnd [.slot 52 (.int .i64),.cont 1 (.buf 93 5)]] (.one .str) [.row 2] x
def Bd (L:Nat):Sum tT:=mU 43 [.row 2] (.one .str) (Qn L)
theorem Zby:SX Bd:=fun h=>sB h (ZJ (Cf h) (ZJ (SN h) (ZJ (Cc h) Qa))) rfl (by kernel_rfl) fun _=>rfl
def WF:Ya→(Int×List UInt8×PUnit→Option (List UInt8))→Int×List UInt8×PUnit→Option (List UInt8):=fun x0 self acc=>bif decide (acc.1 < (↑x0.5.length:Int)) then bT (Y1 x0.5 acc.1) fun y=>bT (bT (Yt y) fun y=>some y) fun y=>bT (Yx [32] y) fun y=>bT (Yx y [58]) fun y=>bT (Y1 x0.6 acc.1) fun y_1=>bT (bT (Yt y_1) fun y=>some y) fun y_2=>bT (Yx y y_2) fun y=>bT (Gh acc.2.1 y) fun y=>self (Go.IntKind.i64.wrap (acc.1 + 1),y,()) else some acc.2.1
theorem ZaX (L:Nat)(x0:Ya):Qn L (x0,())=bT (Vq L (x0,())) fun y=>bif y != 0 then some [] else bif x0.1 == 1 then bT (Wh L ([99,111,110,115,116],[x0.2],())) fun y=>some y else bif x0.1 == 2 then bT (Wh L ([117,110,105,102,111,114,109],[x0.2,x0.3],())) fun y=>some y else bif x0.1 == 4 then bT (Wh L ([115,117,109],[x0.4,x0.2,x0.3],())) fun y=>some y else bif x0.1 == 5 then bT (Wh L ([103,101,111,109],[x0.2,x0.3],())) fun y=>some y else bT (Gh [] [116,97,98,108,101]) fun y=>Zw (WF x0) L (0,y,()):=by kernel_rfl
def Y5 (L:Nat)(x:(List (List UInt8))×PUnit):Option (List UInt8):=fT [Zik] L KN [] (.one .str) [.lst 1 .str] x
def X8 (L:Nat):Sum tT:=mU 39 [.lst 1 .str] (.one .str) (Y5 L)
theorem Jd:SX X8:=fun h=>sT h (ZJ (ZlI h) Qa) rfl (by kernel_rfl) fun _=>rfl
theorem Sl (L:Nat)(x0:(List (List UInt8))):Y5 L (x0,())=bT (Zja x0 [32]) fun y=>some y:=by kernel_rfl
def Xz (L:Nat):Nat→List (Sum tT)
 | 0=>[⟨42,[.row 8],fun _=>.par _ none ((.one (.str):RD).tv tT)⟩]
 | m + 1=>[⟨42,[.row 8],fun x=>.par _ (fnT tF tG (qOf tF (Xz L m ++ [PP,X8 L])) 0 L XK [.rnd [.slot 3 (.own 1 (.str)),.slot 16 (.int .i64)]] (.one (.str)) (tvL tT [.row 8] x) []) ((.one (.str):RD).tv tT)⟩]
theorem XW {C:Cfg}{L:Nat}(h:St C L):∀ m,∀ s ∈ Xz L m,V9 C s
 | 0=>(ZJ (ZcJ _ _ _) Qa)
 | m + 1=>have ih:=XW h m
  (ZJ (Ku Ur h.L h.G (Oa Ur (ZfZ ih (ZJ (Cf h) (ZJ (Jd h) Qa)))) [.rnd [.slot 3 (.own 1 (.str)),.slot 16 (.int .i64)]] (h.T _ _ rfl) (by kernel_rfl) fun _=>rfl) Qa)
def Qi (L m:Nat)(x:Zq×PUnit):Option ((List UInt8)):=fnT tF tG (qOf tF (Xz L m ++ [PP,X8 L])) 0 L XK [.rnd [.slot 3 (.own 1 (.str)),.slot 16 (.int .i64)]] (.one (.str)) (tvL tT [.row 8] x) []
def YS (L:Nat)(x:Zq×PUnit):Option ((List UInt8)):=Qi L L x
def JV (L:Nat):Sum tT:=⟨42,[.row 8],fun x=>.par ((.one (.str):RD).Ty tT) (YS L x) ((.one (.str):RD).tv tT)⟩
theorem RH {C:Cfg}{L:Nat}(h:St C L):V9 C (JV L):=have ih:=XW h L
 Ku Ur h.L h.G (Oa Ur (ZfZ ih (ZJ (Cf h) (ZJ (Jd h) Qa)))) [.rnd [.slot 3 (.own 1 (.str)),.slot 16 (.int .i64)]] (h.T _ _ rfl) (by kernel_rfl) fun _=>rfl
def Qg:Nat→Zq→Nat→(List (List UInt8)×Int×PUnit→Option (List UInt8))→List (List UInt8)×Int×PUnit→Option (List UInt8):=fun (m:Nat)=>fun x0 L self acc=>bif decide (acc.2.1 < (↑x0.4.length:Int)) then bT (Y1 x0.4 acc.2.1) fun y=>bT (Qi L m (y,())) fun y=>bT (apT 16 acc.1 [y]) fun y=>self (y,Go.IntKind.i64.wrap (acc.2.1 + 1),()) else bT (Y5 L (acc.1,())) fun y=>bT (Yx [40] y) fun y=>bT (Yx y [41]) fun y=>some y
theorem Rj (L m:Nat)(x0:Zq):Qi L (m + 1) (x0,())=bT (bT (Yt x0.1) fun y=>some y) fun y=>bT (bT (Yt x0.3) fun y=>some y) fun y_1=>Zw (Qg m x0 L) L ([y,y_1],0,()):=by kernel_rfl
def Jk (L:Nat)(x:WN×PUnit):Option (List UInt8):=fB [PP,Bd L,JV L,Vo L,X8 L,JU L] L Tn [.rnd [.slot 13 (.int .i64),.cont 1 (.buf 93 5)],.rnd [.slot 48 (.int .i64),.cont 1 (.buf 93 5)]] (.one .str) [.row 16] x
def Bc (L:Nat):Sum tT:=mU 18 [.row 16] (.one .str) (Jk L)
theorem Zbx:SX Bc:=fun h=>sB h (ZJ (Cf h) (ZJ (Zby h) (ZJ (RH h) (ZJ (G8 h) (ZJ (Jd h) (ZJ (Ol h) Qa)))))) rfl (by kernel_rfl) fun _=>rfl
def YD:Nat→(Int×List UInt8×PUnit→Option (List UInt8))→Int×List UInt8×PUnit→ZF→List Zq→(Int×List UInt8×PUnit→Option (List UInt8))→Int×List UInt8×PUnit→Option (List UInt8):=fun L self acc y y_1 self_1 acc_1=>bif decide (acc_1.1 < (↑y_1.length:Int)) then bT (Y1 y_1 acc_1.1) fun y=>bT (YS L (y,())) fun y=>bT (Yx [32] y) fun y=>bT (Gh acc_1.2.1 y) fun y=>self_1 (Go.IntKind.i64.wrap (acc_1.1 + 1),y,()) else bif y.1 == 3 then bT (Qn L (y.8,())) fun y=>bT (Yx [32] y) fun y=>bT (Gh acc_1.2.1 y) fun y=>bT (Gh y [10]) fun y=>self (Go.IntKind.i64.wrap (acc.1 + 1),y,()) else bT (Gh acc_1.2.1 [10]) fun y=>self (Go.IntKind.i64.wrap (acc.1 + 1),y,())
def IR:Nat→(Int×List UInt8×PUnit→Option (List UInt8))→Int×List UInt8×PUnit→ZF→List Zq→(Int×List UInt8×PUnit→Option (List UInt8))→Int×List UInt8×PUnit→Option (List UInt8):=fun L self acc y y_1 self_1 acc_1=>bif decide (acc_1.1 < (↑y_1.length:Int)) then bT (Y1 y_1 acc_1.1) fun y=>bT (YS L (y,())) fun y=>bT (Yx [32] y) fun y=>bT (Gh acc_1.2.1 y) fun y=>self_1 (Go.IntKind.i64.wrap (acc_1.1 + 1),y,()) else bif y.1 == 3 then bT (Qn L (y.8,())) fun y=>bT (Yx [32] y) fun y=>bT (Gh acc_1.2.1 y) fun y=>bT (Gh y [10]) fun y=>self (Go.IntKind.i64.wrap (acc.1 + 1),y,()) else bT (Gh acc_1.2.1 [10]) fun y=>self (Go.IntKind.i64.wrap (acc.1 + 1),y,())
def IU:Nat→(Int×List UInt8×PUnit→Option (List UInt8))→Int×List UInt8×PUnit→ZF→List Zq→(Int×List UInt8×PUnit→Option (List UInt8))→Int×List UInt8×PUnit→Option (List UInt8):=fun L self acc y y_1 self_1 acc_1=>bif decide (acc_1.1 < (↑y_1.length:Int)) then bT (Y1 y_1 acc_1.1) fun y=>bT (YS L (y,())) fun y=>bT (Yx [32] y) fun y=>bT (Gh acc_1.2.1 y) fun y=>self_1 (Go.IntKind.i64.wrap (acc_1.1 + 1),y,()) else bif y.1 == 3 then bT (Qn L (y.8,())) fun y=>bT (Yx [32] y) fun y=>bT (Gh acc_1.2.1 y) fun y=>bT (Gh y [10]) fun y=>self (Go.IntKind.i64.wrap (acc.1 + 1),y,()) else bT (Gh acc_1.2.1 [10]) fun y=>self (Go.IntKind.i64.wrap (acc.1 + 1),y,())
def IV:Nat→(Int×List UInt8×PUnit→Option (List UInt8))→Int×List UInt8×PUnit→ZF→List Zq→(Int×List UInt8×PUnit→Option (List UInt8))→Int×List UInt8×PUnit→Option (List UInt8):=fun L self acc y y_1 self_1 acc_1=>bif decide (acc_1.1 < (↑y_1.length:Int)) then bT (Y1 y_1 acc_1.1) fun y=>bT (YS L (y,())) fun y=>bT (Yx [32] y) fun y=>bT (Gh acc_1.2.1 y) fun y=>self_1 (Go.IntKind.i64.wrap (acc_1.1 + 1),y,()) else bif y.1 == 3 then bT (Qn L (y.8,())) fun y=>bT (Yx [32] y) fun y=>bT (Gh acc_1.2.1 y) fun y=>bT (Gh y [10]) fun y=>self (Go.IntKind.i64.wrap (acc.1 + 1),y,()) else bT (Gh acc_1.2.1 [10]) fun y=>self (Go.IntKind.i64.wrap (acc.1 + 1),y,())
def YW:WN→Nat→(Int×List UInt8×PUnit→Option (List UInt8))→Int×List UInt8×PUnit→Option (List UInt8):=fun x0 L self acc=>bif decide (acc.1 < (↑x0.4.length:Int)) then bT (Y1 x0.4 acc.1) fun y=>bT (Xp L (y.1,())) fun y_1=>bif y_1 then bT (Y1 XQ y.1) fun y_2=>bif y.9 then bT (bT (Yt acc.1) fun y=>some y) fun y_3=>bT (bT (Yt y.2) fun y=>some y) fun y_4=>bT (bT (Yt y.3) fun y=>some y) fun y_5=>bT (bT (Yt y.4) fun y=>some y) fun y_6=>bT (Y5 L ([y_3,y_2.1,y_4,y_5,y_6,[49]],())) fun y_7=>bT (Gh acc.2.1 y_7) fun y_8=>bT (ZI L (y,())) fun y_9=>Zw (YD L self acc y y_9) L (0,y_8,()) else bT (bT (Yt acc.1) fun y=>some y) fun y_3=>bT (bT (Yt y.2) fun y=>some y) fun y_4=>bT (bT (Yt y.3) fun y=>some y) fun y_5=>bT (bT (Yt y.4) fun y=>some y) fun y_6=>bT (Y5 L ([y_3,y_2.1,y_4,y_5,y_6,[48]],())) fun y_7=>bT (Gh acc.2.1 y_7) fun y_8=>bT (ZI L (y,())) fun y_9=>Zw (IR L self acc y y_9) L (0,y_8,()) else bif y.9 then bT (bT (Yt acc.1) fun y=>some y) fun y_2=>bT (bT (Yt y.2) fun y=>some y) fun y_3=>bT (bT (Yt y.3) fun y=>some y) fun y_4=>bT (bT (Yt y.4) fun y=>some y) fun y_5=>bT (Y5 L ([y_2,[63],y_3,y_4,y_5,[49]],())) fun y_6=>bT (Gh acc.2.1 y_6) fun y_7=>bT (ZI L (y,())) fun y_8=>Zw (IU L self acc y y_8) L (0,y_7,()) else bT (bT (Yt acc.1) fun y=>some y) fun y_2=>bT (bT (Yt y.2) fun y=>some y) fun y_3=>bT (bT (Yt y.3) fun y=>some y) fun y_4=>bT (bT (Yt y.4) fun y=>some y) fun y_5=>bT (Y5 L ([y_2,[63],y_3,y_4,y_5,[48]],())) fun y_6=>bT (Gh acc.2.1 y_6) fun y_7=>bT (ZI L (y,())) fun y_8=>Zw (IV L self acc y y_8) L (0,y_7,()) else some acc.2.1
theorem ZaW (L:Nat)(x0:WN):Jk L (x0,())=Zw (YW x0 L) L (0,[],()):=by kernel_rfl
def Jq (L:Nat)(x:WN×PUnit):Option (List Td):=fT [] L MI [.rnd [.slot 3 (.own 2 (.row 30)),.slot 4 (.int .i64)]] (.one (.lst 2 (.row 30))) [.row 16] x
def Bl (L:Nat):Sum tT:=mU 17 [.row 16] (.one (.lst 2 (.row 30))) (Jq L)
theorem Zb2:SX Bl:=fun h=>sT h Qa rfl (by kernel_rfl) fun _=>rfl
def YX:WN→(List Td×Int×PUnit→Option (List Td))→List Td×Int×PUnit→Option (List Td):=fun x0 self acc=>bif decide (acc.2.1 < (↑x0.4.length:Int)) then bT (Y1 x0.4 acc.2.1) fun y=>bT (bif (y.1 == 4) == false then bT (Y1 x0.4 acc.2.1) fun y=>some (y.1 == 5) else some true) fun y=>bif y then bT (Y1 x0.4 acc.2.1) fun y=>bT (apT 16 acc.1 [Td.mk acc.2.1 y.2]) fun y=>self (y,Go.IntKind.i64.wrap (acc.2.1 + 1),()) else self (acc.1,Go.IntKind.i64.wrap (acc.2.1 + 1),()) else some acc.1
theorem Zbo (L:Nat)(x0:WN):Jq L (x0,())=Zw (YX x0) L ([],0,()):=by kernel_rfl
def Vp (L:Nat)(x:WN×PUnit):Option (List Td):=fT [] L I9 [.rnd [.slot 3 (.own 2 (.row 30)),.slot 9 (.int .i64)]] (.one (.lst 2 (.row 30))) [.row 16] x
def Ov (L:Nat):Sum tT:=mU 16 [.row 16] (.one (.lst 2 (.row 30))) (Vp L)
theorem Cb:SX Ov:=fun h=>sT h Qa rfl (by kernel_rfl) fun _=>rfl
def YC:WN→(List Td×Int×PUnit→Option (List Td))→List Td×Int×PUnit→Option (List Td):=fun x0 self acc=>bif decide (acc.2.1 < (↑x0.4.length:Int)) then bT (Y1 x0.4 acc.2.1) fun y=>bif y.1 == 4 || y.1 == 5 then bT (apT 16 acc.1 [Td.mk acc.2.1 y.2]) fun y=>self (y,Go.IntKind.i64.wrap (acc.2.1 + 1),()) else self (acc.1,Go.IntKind.i64.wrap (acc.2.1 + 1),()) else some acc.1
theorem FI (L:Nat)(x0:WN):Vp L (x0,())=Zw (YC x0) L ([],0,()):=by kernel_rfl
def QW (L:Nat)(x:WN×PUnit):Option Bool:=fT [ZfI,PN L,Bc L,Bl L,Ov L,GU L] L VA [.rnd [.slot 5 (.int .i64)]] (.one .bool) [.row 16] x
def I4 (L:Nat):Sum tT:=mU 5 [.row 16] (.one .bool) (QW L)
theorem Io:SX I4:=fun h=>sT h (ZJ (ZjZ h) (ZJ (ZdF h) (ZJ (Zbx h) (ZJ (Zb2 h) (ZJ (Cb h) (ZJ (SV h) Qa)))))) rfl (by kernel_rfl) fun _=>rfl
def W9:List Td→List Td→(Int×PUnit→Option Bool)→Int×PUnit→Option Bool:=fun y y_1 self acc=>bif decide (acc.1 < (↑y.length:Int)) then bT (Y1 y acc.1) fun y=>bT (Y1 y_1 acc.1) fun y_2=>bif !(y.1 == y_2.1 && (y.2 == y_2.2 && true)) then some false else self (Go.IntKind.i64.wrap (acc.1 + 1),()) else some true
theorem Il (L:Nat)(x0:WN):QW L (x0,())=bT (XA L (x0,())) fun y=>bif !y then some true else bT (bT (Vp L (x0,())) fun y=>some y) fun y=>bT (bT (Jq L (x0,())) fun y=>some y) fun y_1=>bT (bif ((↑y.length:Int) != (↑y_1.length:Int)) == false then bT (bT (Jk L (x0,())) fun y=>some y) fun y=>bT (bT (Ui L (x0,())) fun y=>some y) fun y_2=>some !y == y_2 else some true) fun y_2=>bif y_2 then some false else Zw (W9 y y_1) L (0,()):=by kernel_rfl
end Go.Proofs.YtleomfgijkapfaaGreatDoor
end
section
namespace Go.Proofs.YtleomfgijkapfaaGreatDoor
open Go Go.Proofs.YtleomfgijkapfaaGreatDoor.Abs Go.Proofs.YtleomfgijkapfaaGreatDoor.Tl
set_option maxRecDepth 100000
abbrev bd (n:Int):Prop:=-9223372036854775808≤n∧n≤9223372036854775807
theorem Zn {β:Type}{a b:List UInt8}{k:List UInt8→Option β}(h:a.length + b.length≤4611686018427387904):bT (Yx a b) k=k (a ++ b):=by unfold Yx; rw [if_pos h]; rfl
theorem UH {β:Type}{a b:List UInt8}{k:List UInt8→Option β}(h:a.length + b.length≤140737488355328)(h2:0 < a.length + b.length):bT (Gh a b) k=k (a ++ b):=by
 unfold Gh
 rw [if_pos ⟨h,fun e=>by have:=congrArg List.length e; rw [List.length_append,List.length_nil] at this; omega⟩]; rfl
theorem Yz {n:Int}(h:bd n):Yt n=some (Lib.itoa n):=if_pos h
theorem ZN {n:Int}(h:bd n):(Lib.itoa n).length≤21:=Lib.itoa_length_le n h.1 h.2
theorem Zjk {τ α σ ρ:Type}{f:(τ→Option ρ)→τ→Option ρ}(l:List α)(pk:σ→Int→τ)(R:List α→σ→Option ρ)(P:List α→σ→Prop)
  (h1:∀ self s (i:Nat) x r,P (x :: r) s→l[i]? = some x→i < l.length→x ∈ l→(∀ s',P r s'→self (pk s' ((i:Int) + 1))=R r s')→f self (pk s i)=R (x :: r) s)
  (h2:∀ self s,P [] s→f self (pk s (l.length:Nat))=R [] s):∀ (m i:Nat) (s:σ),P (l.drop i) s→i≤l.length→l.length - i < m→Zw f m (pk s i)=R (l.drop i) s
 | 0,_,_,_,_,h=>absurd h (Nat.not_lt_zero _)
 | m + 1,i,s,hP,hi,hm=>by
  show f (Zw f m) (pk s i)=_
  rcases Nat.lt_or_ge i l.length with hlt | hge
  ·have hx:=List.getElem?_eq_getElem hlt
   rw [List.drop_eq_getElem_cons hlt] at hP ⊢
   exact h1 _ s i _ _ hP hx hlt (List.getElem_mem hlt) fun s' hP'=>Zjk l pk R P h1 h2 m (i + 1) s' hP' hlt (by omega)
  ·have:i=l.length:=by omega
   subst this
   rw [List.drop_length] at hP ⊢
   exact h2 _ s hP
theorem Zct {α σ ρ:Type}{f:(σ×Int×PUnit→Option ρ)→σ×Int×PUnit→Option ρ}(l:List α)(R:List α→σ→Option ρ)(P:List α→σ→Prop){m:Nat}(hm:l.length < m)(s:σ)(hP:P l s)
  (h1:∀ self s (i:Nat) x r,P (x :: r) s→l[i]? = some x→i < l.length→x ∈ l→(∀ s',P r s'→self (s',(i:Int) + 1,())=R r s')→f self (s,(i:Int),())=R (x :: r) s)
  (h2:∀ self s,P [] s→f self (s,(l.length:Int),())=R [] s):Zw f m (s,0,())=R l s :=
 Zjk l (fun s i=>(s,i,())) R P h1 h2 m 0 s hP (Nat.zero_le _) (by omega)
mutual
def XR:Zq→List UInt8
 | ⟨o,_,n,ks⟩=>40 :: (Lib.itoa o ++ (32 :: (Lib.itoa n ++ (ZE ks ++ [41]))))
def ZE:List Zq→List UInt8
 | []=>[]
 | e :: l=>32 :: (XR e ++ ZE l)
end
theorem NP (e:Zq):XR e=40 :: (Lib.itoa e.Op ++ (32 :: (Lib.itoa e.N ++ (ZE e.Kids ++ [41])))):=by cases e; rw [XR]
theorem VJ:∀ {l:List Zq} {x:Zq},x ∈ l→(XR x).length + 1≤(ZE l).length
 | y :: l,x,h=>by
  rw [ZE,List.length_cons,List.length_append]
  rcases List.mem_cons.1 h with rfl | h
  ·omega
  ·have:=VJ h; omega
theorem Ih:∀ l m:List Zq,ZE (l ++ m)=ZE l ++ ZE m
 | [],m=>by rw [ZE]; rfl
 | x :: l,m=>by rw [List.cons_append,ZE,ZE,Ih l m]; simp
theorem Zcw (e:Zq):(ZE e.Kids).length≤(XR e).length:=by rw [NP]; simp; omega
theorem Zc7 (L:Nat):∀ (m:Nat) (e:Zq),ZW e→SizeOf.sizeOf e≤m→m≤L→(XR e).length≤70368744177664→QE L m (e,())=some (XR e)
 | 0,e,_,h,_,_=>absurd h (by have:=CB e; omega)
 | m + 1,e,ok,h,hm,hb=>by
  have hk:=ZK e.Kids; have hz:=ZlN e; have hl:=ok.k; have hn:=Zcw e
  have a1:=ZN ok.Op; have a2:=ZN ok.N
  have lp:∀ s:List UInt8,s.length≤100→Zw (QD m e L) L (s,0,())=some (s ++ (ZE e.Kids ++ [41])):=fun s hs =>
   Zct e.Kids (fun r s=>some (s ++ (ZE r ++ [41]))) (fun r s=>s.length + (ZE r).length≤70368744177664 + 100) (by omega) s (by omega) (fun self s i x r hP hx hi mem e'=>by
    rw [ZE,List.length_cons,List.length_append] at hP
    have:=VJ mem
    have ih:=Zc7 L m x (ok.Kids.2 x mem) (by have:=Fg mem; omega) (by omega) (by omega)
    rw [QD]
    simp only [Zo hi,cond_true,Zm,hx,Yk,ih,wrap_succ hi (by omega)]
    rw [Zn (by simp only [List.length_cons,List.length_nil]; omega),Zn (by simp only [List.length_append,List.length_cons,List.length_nil]; omega),e' _ (by simp only [List.length_append,List.length_cons,List.length_nil]; omega),ZE]
    simp) (fun self s hP=>by
    rw [ZE] at hP
    rw [QD]
    simp only [Zf,cond_false]
    rw [Zn (by simp only [List.length_cons,List.length_nil] at hP ⊢; omega),ZE]
    rfl)
  rw [Dv,Yz ok.Op,Yz ok.N]
  simp only [Yk]
  rw [Zn (by simp only [List.length_cons,List.length_nil]; omega),Zn (by simp only [List.length_append,List.length_cons,List.length_nil]; omega),Zn (by simp only [List.length_append,List.length_cons,List.length_nil]; omega),lp _ (by simp only [List.length_append,List.length_cons,List.length_nil]; omega),NP]
  simp
theorem ZjJ (L:Nat)(e:Zq)(ok:ZW e)(h:SizeOf.sizeOf e≤L)(hb:(XR e).length≤70368744177664):Wv L (e,())=some (XR e):=Zc7 L L e ok h (Nat.le_refl _) hb
theorem UT (a b:List UInt8)(l:List (List UInt8)):Lib.join (a :: b :: l) [32]=a ++ (32 :: Lib.join (b :: l) [32]):=by
 simp [Lib.join,List.intercalate_cons_cons]
theorem ZhP (a:List UInt8):Lib.join [a] [32]=a:=by simp [Lib.join]
theorem Zcn:∀ (a:List UInt8) (l:List Zq),Lib.join (a :: l.map XR) [32]=a ++ ZE l
 | a,[]=>by rw [List.map_nil,ZhP,ZE,List.append_nil]
 | a,x :: l=>by rw [List.map_cons,UT,Zcn (XR x) l,ZE]
theorem Zjb {l:List (List UInt8)}(h1:l.length≤140737488355328)(h2:(Lib.join l [32]).length≤140737488355328):Zja l [32]=some (Lib.join l [32]):=if_pos ⟨h1,h2⟩
theorem Zc3 (L:Nat){l:List (List UInt8)}(h1:l.length≤140737488355328)(h2:(Lib.join l [32]).length≤140737488355328):Y5 L (l,())=some (Lib.join l [32]):=by rw [Sl,Zjb h1 h2]; rfl
theorem apN {l m:List (List UInt8)}(h:(l.length + m.length) * 16≤140737488355328):apT 16 l m=some (l ++ m):=by unfold apT; rw [if_pos h]
theorem Zc5 (L:Nat):∀ (m:Nat) (e:Zq),ZW e→SizeOf.sizeOf e≤m→m≤L→(XR e).length≤70368744177664→Qi L m (e,())=some (XR e)
 | 0,e,_,h,_,_=>absurd h (by have:=CB e; omega)
 | m + 1,e,ok,h,hm,hb=>by
  have hk:=ZK e.Kids; have hz:=ZlN e; have hl:=ok.k; have hn:=Zcw e
  have hK:=ok.Kids.1
  have ej:Lib.join (Lib.itoa e.Op :: Lib.itoa e.N :: e.Kids.map XR) [32]=Lib.itoa e.Op ++ (32 :: (Lib.itoa e.N ++ ZE e.Kids)):=by rw [UT,Zcn]
  have a1:=ZN ok.Op; have a2:=ZN ok.N
  have lj:(Lib.join (Lib.itoa e.Op :: Lib.itoa e.N :: e.Kids.map XR) [32]).length≤70368744177664 + 100:=by rw [ej]; simp only [List.length_append,List.length_cons]; omega
  have lp:Zw (Qg m e L) L ([Lib.itoa e.Op,Lib.itoa e.N],0,())=some (XR e) :=
   Zct e.Kids (fun _ _=>some (XR e)) (fun r s=>s ++ r.map XR=Lib.itoa e.Op :: Lib.itoa e.N :: e.Kids.map XR) (by omega) _ rfl (fun self s i x r hP hx hi mem e'=>by
    have:=VJ mem
    have ih:=Zc5 L m x (ok.Kids.2 x mem) (by have:=Fg mem; omega) (by omega) (by omega)
    have hlen:s.length + (r.length + 1)=e.Kids.length + 2:=by have:=congrArg List.length hP; simpa using this
    rw [Qg]
    simp only [Zo hi,cond_true,Zm,hx,Yk,ih,wrap_succ hi (by omega)]
    rw [apN (by simp only [List.length_cons,List.length_nil]; omega),Yk]
    exact e' _ (by rw [← hP]; simp)) (fun self s hP=>by
    rw [List.map_nil,List.append_nil] at hP
    subst hP
    rw [Qg]
    simp only [Zf,cond_false]
    rw [Zc3 L (by simp only [List.length_cons,List.length_map]; omega) (by omega),Yk,ej,Zn (by rw [ej] at lj; simp only [List.length_cons,List.length_nil] at lj ⊢; omega),Zn (by rw [ej] at lj; simp only [List.length_append,List.length_cons,List.length_nil] at lj ⊢; omega),NP]
    simp)
  rw [Rj,Yz ok.Op,Yz ok.N]
  simp only [Yk]
  exact lp
theorem ZjD (L:Nat)(e:Zq)(ok:ZW e)(h:SizeOf.sizeOf e≤L)(hb:(XR e).length≤70368744177664):YS L (e,())=some (XR e):=Zc5 L L e ok h (Nat.le_refl _) hb
def argX:List Int→List UInt8
 | []=>[]
 | n :: l=>32 :: (Lib.itoa n ++ argX l)
def ZcK:List Int→List Int→List UInt8
 | v :: vs,w :: ws=>32 :: (Lib.itoa v ++ (58 :: (Lib.itoa w ++ ZcK vs ws)))
 | _,_=>[]
def Za1 (d:Ya):List UInt8 :=
 if decide (VY d≠0)=true then [] else if decide (d.Op=1)=true then [99,111,110,115,116] ++ argX [d.A] else if decide (d.Op=2)=true then [117,110,105,102,111,114,109] ++ argX [d.A,d.B]
 else if decide (d.Op=4)=true then [115,117,109] ++ argX [d.N,d.A,d.B] else if decide (d.Op=5)=true then [103,101,111,109] ++ argX [d.A,d.B] else [116,97,98,108,101] ++ ZcK d.Values d.Weights
theorem ZfF {d:Ya}(h:VY d=0)(h1:d.Op≠1)(h2:d.Op≠2)(h4:d.Op≠4)(h5:d.Op≠5):d.Values.length=d.Weights.length∧d.Values.length≤20:=by
 unfold VY at h
 simp only [h1,h2,h4,h5,decide_false,Bool.false_eq_true,if_false] at h
 split at h
 ·cases h
 split at h
 ·split at h
  ·cases h
  rename_i a
  split at h
  ·cases h
  split at h
  ·cases h
  rename_i b
  simp at a b
  omega
 ·cases h
theorem ZfE:∀ l m:List Int,(∀ x ∈ l,bd x)→(∀ x ∈ m,bd x)→(ZcK l m).length≤44 * l.length
 | [],_,_,_=>by simp [ZcK]
 | _ :: _,[],_,_=>by simp [ZcK]
 | n :: l,k :: m,h,h'=>by
  have a:=ZN (h n (List.mem_cons_self ..)); have a':=ZN (h' k (List.mem_cons_self ..))
  have b:=ZfE l m (fun x hx=>h x (List.mem_cons_of_mem _ hx)) fun x hx=>h' x (List.mem_cons_of_mem _ hx)
  simp only [ZcK,List.length_cons,List.length_append]; omega
theorem OT (L:Nat)(w:List UInt8)(l:List Int)(hw:w.length≤100)(hl:l.length≤10)(hL:1000≤L)(h:∀ x ∈ l,bd x):Wh L (w,l,())=some (w ++ argX l):=by
 rw [Sm]
 exact Zct l (fun r s=>some (s ++ argX r)) (fun r s=>s.length + 22 * r.length≤1000) (by omega) w (by omega) (fun self s i x r hP hx hi mem e'=>by
  have a:=ZN (h x mem)
  rw [List.length_cons] at hP
  rw [Vz]
  simp only [Zo hi,cond_true,Zm,hx,Yk,Yz (h x mem),wrap_succ hi (by omega)]
  rw [Zn (by simp only [List.length_cons,List.length_nil]; omega),Zn (by simp only [List.length_append,List.length_cons,List.length_nil]; omega),e' _ (by simp only [List.length_append,List.length_cons,List.length_nil]; omega)]
  simp [argX]) (fun self s hP=>by rw [Vz]; simp only [Zf,cond_false,argX,List.append_nil])
end Go.Proofs.YtleomfgijkapfaaGreatDoor
end
section
namespace Go.Proofs.YtleomfgijkapfaaGreatDoor
open Go Go.Proofs.YtleomfgijkapfaaGreatDoor.Abs Go.Proofs.YtleomfgijkapfaaGreatDoor.Tl
set_option maxRecDepth 100000
theorem ZjE (L:Nat)(d:Ya)(ok:Qq d)(h:SizeOf.sizeOf d < L)(h1:1000≤L):Qn L (d,())=some (Za1 d):=by
 have oA:=ok.A; have oB:=ok.B; have oN:=ok.N
 rw [ZaX,ZaN L d ok h (by omega),Yk,WM]
 unfold Za1
 by_cases e0:VY d=0
 rotate_left
 ·simp [e0]
 by_cases e1:d.Op=1
 ·simp only [e0,e1,We,decide_true,decide_false,Bool.not_true,cond_false,cond_true,ne_eq,not_true_eq_false,Bool.false_eq_true,if_false,if_true]
  rw [OT L _ _ (by decide) (by simp) h1 (by intro x hx; simp at hx; subst hx; exact oA)]; rfl
 by_cases e2:d.Op=2
 ·simp only [e0,e2,We,decide_true,decide_false,Bool.not_true,cond_false,cond_true,ne_eq,not_true_eq_false,Bool.false_eq_true,if_false,if_true,show decide ((2:Int)=1)=false from rfl]
  rw [OT L _ _ (by decide) (by simp) h1 (by intro x hx; simp at hx; rcases hx with rfl | rfl; exact oA; exact oB)]; rfl
 by_cases e4:d.Op=4
 ·simp only [e0,e4,We,decide_true,decide_false,Bool.not_true,cond_false,cond_true,ne_eq,not_true_eq_false,Bool.false_eq_true,if_false,if_true,show decide ((4:Int)=1)=false from rfl,show decide ((4:Int)=2)=false from rfl]
  rw [OT L _ _ (by decide) (by simp) h1 (by intro x hx; simp at hx; rcases hx with rfl | rfl | rfl; exact oN; exact oA; exact oB)]; rfl
 by_cases e5:d.Op=5
 ·simp only [e0,e5,We,decide_true,decide_false,Bool.not_true,cond_false,cond_true,ne_eq,not_true_eq_false,Bool.false_eq_true,if_false,if_true,show decide ((5:Int)=1)=false from rfl,show decide ((5:Int)=2)=false from rfl,show decide ((5:Int)=4)=false from rfl]
  rw [OT L _ _ (by decide) (by simp) h1 (by intro x hx; simp at hx; rcases hx with rfl | rfl; exact oA; exact oB)]; rfl
 obtain ⟨f1,f2⟩:=ZfF e0 e1 e2 e4 e5
 simp only [e0,e1,e2,e4,e5,We,decide_true,decide_false,Bool.not_true,cond_false,ne_eq,not_true_eq_false,Bool.false_eq_true,if_false]
 rw [UH (by decide) (by decide)]
 have key:∀ (m i:Nat) (s:List UInt8),i≤d.Values.length→d.Values.length - i < m→s.length + 44 * (d.Values.length - i)≤2000→Zw (WF d) m ((i:Int),s,())=some (s ++ ZcK (d.Values.drop i) (d.Weights.drop i)):=by
  intro m
  induction m with
  | zero=>intro i s _ h; exact absurd h (Nat.not_lt_zero _)
  | succ m ih =>
   intro i s hi hm hs
   show WF d (Zw (WF d) m) ((i:Int),s,())=_
   rcases Nat.lt_or_ge i d.Values.length with hlt | hge
   ·have hx:=List.getElem?_eq_getElem hlt
    have hy:=List.getElem?_eq_getElem (show i < d.Weights.length by omega)
    rw [List.drop_eq_getElem_cons hlt,List.drop_eq_getElem_cons (show i < d.Weights.length by omega),ZcK]
    have b1:=ok.Values.2 _ (List.getElem_mem hlt); have b2:=ok.Weights.2 _ (List.getElem_mem (show i < d.Weights.length by omega))
    generalize d.Values[i]=x at hx b1
    generalize d.Weights[i]=y at hy b2
    have a1:=ZN b1; have a2:=ZN b2
    rw [WF]
    simp only [Zo hlt,cond_true,Zm,hx,hy,Yk,Yz b1,Yz b2,wrap_succ hlt (by omega)]
    rw [Zn (by simp only [List.length_cons,List.length_nil]; omega),Zn (by simp only [List.length_append,List.length_cons,List.length_nil]; omega),Zn (by simp only [List.length_append,List.length_cons,List.length_nil]; omega),UH (by simp only [List.length_append,List.length_cons,List.length_nil]; omega) (by simp only [List.length_append,List.length_cons,List.length_nil]; omega)]
    have:=ih (i + 1) (s ++ (([32] ++ Lib.itoa x ++ [58]) ++ Lib.itoa y)) hlt (by omega) (by simp only [List.length_append,List.length_cons,List.length_nil]; omega)
    refine (show _=Zw (WF d) m (((i + 1:Nat):Int),_,()) from rfl).trans (this.trans ?_)
    simp
   ·have:i=d.Values.length:=by omega
    subst this
    rw [WF,List.drop_length]; simp only [Zf,cond_false]
    rw [show ZcK [] (d.Weights.drop d.Values.length)=[] by simp [ZcK],List.append_nil]
 have:=key L 0 ([] ++ [116,97,98,108,101]) (Nat.zero_le _) (by omega) (by simp; omega)
 rw [List.drop_zero,List.drop_zero] at this
 exact this
theorem Zhi (L:Nat)(d:Ya)(ok:Qq d)(h:SizeOf.sizeOf d < L)(h1:1000≤L):QX L (d,())=some (Za1 d):=by
 have oA:=ok.A; have oB:=ok.B; have oN:=ok.N
 have aA:=ZN oA; have aB:=ZN oB; have aN:=ZN oN
 rw [Zd1,JZ L d ok h,Yk,WM]
 unfold Za1
 by_cases e0:VY d=0
 rotate_left
 ·simp [e0]
 by_cases e1:d.Op=1
 ·simp only [e0,e1,We,decide_true,decide_false,Bool.not_true,cond_false,cond_true,ne_eq,not_true_eq_false,Bool.false_eq_true,if_false,if_true,Yz oA,Yk]
  rw [Zn (by simp only [List.length_cons,List.length_nil]; omega)]; simp [argX]
 by_cases e2:d.Op=2
 ·simp only [e0,e2,We,decide_true,decide_false,Bool.not_true,cond_false,cond_true,ne_eq,not_true_eq_false,Bool.false_eq_true,if_false,if_true,Yz oA,Yz oB,Yk,show decide ((2:Int)=1)=false from rfl]
  rw [Zn (by simp only [List.length_cons,List.length_nil]; omega),Zn (by simp only [List.length_append,List.length_cons,List.length_nil]; omega),Zn (by simp only [List.length_append,List.length_cons,List.length_nil]; omega)]; simp [argX]
 by_cases e4:d.Op=4
 ·simp only [e0,e4,We,decide_true,decide_false,Bool.not_true,cond_false,cond_true,ne_eq,not_true_eq_false,Bool.false_eq_true,if_false,if_true,Yz oA,Yz oB,Yz oN,Yk,show decide ((4:Int)=1)=false from rfl,show decide ((4:Int)=2)=false from rfl]
  rw [Zn (by simp only [List.length_cons,List.length_nil]; omega),Zn (by simp only [List.length_append,List.length_cons,List.length_nil]; omega),Zn (by simp only [List.length_append,List.length_cons,List.length_nil]; omega),Zn (by simp only [List.length_append,List.length_cons,List.length_nil]; omega),Zn (by simp only [List.length_append,List.length_cons,List.length_nil]; omega)]; simp [argX]
 by_cases e5:d.Op=5
 ·simp only [e0,e5,We,decide_true,decide_false,Bool.not_true,cond_false,cond_true,ne_eq,not_true_eq_false,Bool.false_eq_true,if_false,if_true,Yz oA,Yz oB,Yk,show decide ((5:Int)=1)=false from rfl,show decide ((5:Int)=2)=false from rfl,show decide ((5:Int)=4)=false from rfl]
  rw [Zn (by simp only [List.length_cons,List.length_nil]; omega),Zn (by simp only [List.length_append,List.length_cons,List.length_nil]; omega),Zn (by simp only [List.length_append,List.length_cons,List.length_nil]; omega)]; simp [argX]
 obtain ⟨f1,f2⟩:=ZfF e0 e1 e2 e4 e5
 simp only [e0,e1,e2,e4,e5,We,decide_true,decide_false,Bool.not_true,cond_false,ne_eq,not_true_eq_false,Bool.false_eq_true,if_false]
 have key:∀ (m i:Nat) (s:List UInt8),i≤d.Values.length→d.Values.length - i < m→s.length + 44 * (d.Values.length - i)≤2000→Zw (Qk d) m (s,(i:Int),())=some (s ++ ZcK (d.Values.drop i) (d.Weights.drop i)):=by
  intro m
  induction m with
  | zero=>intro i s _ h; exact absurd h (Nat.not_lt_zero _)
  | succ m ih =>
   intro i s hi hm hs
   show Qk d (Zw (Qk d) m) (s,(i:Int),())=_
   rcases Nat.lt_or_ge i d.Values.length with hlt | hge
   ·have hx:=List.getElem?_eq_getElem hlt
    have hy:=List.getElem?_eq_getElem (show i < d.Weights.length by omega)
    rw [List.drop_eq_getElem_cons hlt,List.drop_eq_getElem_cons (show i < d.Weights.length by omega),ZcK]
    have b1:=ok.Values.2 _ (List.getElem_mem hlt); have b2:=ok.Weights.2 _ (List.getElem_mem (show i < d.Weights.length by omega))
    generalize d.Values[i]=x at hx b1
    generalize d.Weights[i]=y at hy b2
    have a1:=ZN b1; have a2:=ZN b2
    rw [Qk]
    simp only [Zo hlt,cond_true,Zm,hx,hy,Yk,Yz b1,Yz b2,wrap_succ hlt (by omega)]
    rw [Zn (by simp only [List.length_cons,List.length_nil]; omega),Zn (by simp only [List.length_append,List.length_cons,List.length_nil]; omega),Zn (by simp only [List.length_append,List.length_cons,List.length_nil]; omega),Zn (by simp only [List.length_append,List.length_cons,List.length_nil]; omega)]
    have:=ih (i + 1) (s ++ [32] ++ Lib.itoa x ++ [58] ++ Lib.itoa y) hlt (by omega) (by simp only [List.length_append,List.length_cons,List.length_nil]; omega)
    refine (show _=Zw (Qk d) m (_,((i + 1:Nat):Int),()) from rfl).trans (this.trans ?_)
    simp
   ·have:i=d.Values.length:=by omega
    subst this
    rw [Qk,List.drop_length]; simp only [Zf,cond_false]
    rw [show ZcK [] (d.Weights.drop d.Values.length)=[] by simp [ZcK],List.append_nil]
 have:=key L 0 [116,97,98,108,101] (Nat.zero_le _) (by omega) (by simp; omega)
 rw [List.drop_zero,List.drop_zero] at this
 exact this
theorem Ny (d:Ya)(ok:Qq d):(Za1 d).length≤1000:=by
 have oA:=ok.A; have oB:=ok.B; have oN:=ok.N
 have aA:=ZN oA; have aB:=ZN oB; have aN:=ZN oN
 unfold Za1
 by_cases e0:VY d=0
 rotate_left
 ·simp [e0]
 by_cases e1:d.Op=1
 ·simp [e0,e1,argX]; omega
 by_cases e2:d.Op=2
 ·simp [e0,e2,argX]; omega
 by_cases e4:d.Op=4
 ·simp [e0,e4,argX]; omega
 by_cases e5:d.Op=5
 ·simp [e0,e5,argX]; omega
 obtain ⟨f1,f2⟩:=ZfF e0 e1 e2 e4 e5
 have:=ZfE d.Values d.Weights ok.Values.2 ok.Weights.2
 simp [e0,e1,e2,e4,e5]; omega
end Go.Proofs.YtleomfgijkapfaaGreatDoor
end
section
namespace Go.Proofs.YtleomfgijkapfaaGreatDoor
open Go Go.Proofs.YtleomfgijkapfaaGreatDoor.Abs Go.Proofs.YtleomfgijkapfaaGreatDoor.Tl
set_option maxRecDepth 100000
theorem H7 (L:Nat)(op:Int)(h:1≤op∧op≤19):∃ f g gs,Y1 XQ op=some f∧QY L ()=some gs∧Y1 gs op=some g∧Rel op f g∧g.Word=f.word∧f.word.length≤20:=by
 have:op=1∨op=2∨op=3∨op=4∨op=5∨op=6∨op=7∨op=8∨op=9∨op=10∨op=11∨op=12∨op=13∨op=14∨op=15∨op=16∨op=17∨op=18∨op=19:=by omega
 rcases this with rfl | rfl | rfl | rfl | rfl | rfl | rfl | rfl | rfl | rfl | rfl | rfl | rfl | rfl | rfl | rfl | rfl | rfl | rfl <;>
  exact ⟨_,_,_,rfl,Zbn L,rfl,⟨rfl,rfl,rfl,rfl,rfl,rfl,rfl,by decide,by decide,by decide,by decide,by decide,by decide,by decide,by decide⟩,rfl,by decide⟩
def OL (op:Int):List UInt8:=if btw op 1 19=true then (match Y1 XQ op with | some f=>f.word | none=>[]) else [63]
def esX (i:ZF):List Zq:=if btw i.Op 1 19=true then (match Y1 XQ i.Op with | some f=>ZdR f i | none=>[]) else []
def Dy (i:ZF):List UInt8:=if decide (i.Op=3)=true then 32 :: Za1 i.Dist else []
def V4 (n:Int)(i:ZF):List UInt8:=Lib.itoa n ++ (32 :: (OL i.Op ++ (32 :: (Lib.itoa i.A ++ (32 :: (Lib.itoa i.B ++ (32 :: (Lib.itoa i.C ++ (32 :: (bif i.Flag then [49] else [48]))))))))))
def UW (n:Int)(i:ZF):List UInt8:=V4 n i ++ (ZE (esX i) ++ (Dy i ++ [10]))
theorem ZcR (op:Int):(OL op).length≤20:=by
 unfold OL
 split
 ·rename_i h
  have h':1≤op∧op≤19:=by simpa [btw] using h
  obtain ⟨f,g,gs,h1,h2,h3,h4,h5,h6⟩:=H7 0 op h'
  rw [h1]; exact h6
 ·decide
theorem Zcj {n:Int}(i:ZF)(ok:QL i)(hn:bd n):(V4 n i).length≤200:=by
 have a1:=ZN hn; have a2:=ZN ok.A; have a3:=ZN ok.B; have a4:=ZN ok.C; have a5:=ZcR i.Op
 unfold V4
 cases i.Flag <;> simp only [List.length_append,List.length_cons,List.length_nil,cond_true,cond_false] <;> omega
theorem ZhJ (i:ZF)(ok:QL i):(esX i).length≤4611686018427387∧(esX i).length≤2 + i.Args.length∧∀ x ∈ esX i,ZW x∧SizeOf.sizeOf x < SizeOf.sizeOf i:=by
 unfold esX
 split
 ·split
  ·exact Zm1 _ i ok
  ·exact ⟨by simp,by simp,fun x h=>by cases h⟩
 ·exact ⟨by simp,by simp,fun x h=>by cases h⟩
theorem rl1:Ro=Qm:=rfl
theorem rl2:Rq=Qm:=rfl
theorem rl3:Rt=Qm:=rfl
theorem ZdC (L:Nat)(i:ZF)(ok:QL i)(h:2 * SizeOf.sizeOf i < L)(h1:1000≤L)(hb:(ZE (esX i)).length≤70368744177664)(s:List UInt8)(hs:s.length≤1000):Zw (Qm i L (esX i)) L (s,0,())=some (s ++ (ZE (esX i) ++ (Dy i ++ [10]))):=by
 obtain ⟨k1,k2,k3⟩:=ZhJ i ok
 have hz:=ZfC i; have hl:=ZK i.Args
 have hd:=Ny i.Dist ok.Dist
 exact Zct (esX i) (fun r s=>some (s ++ (ZE r ++ (Dy i ++ [10])))) (fun r s=>s.length + (ZE r).length≤70368744177664 + 1000) (by omega) s (by omega) (fun self s k x r hP hx hi mem e'=>by
  rw [ZE,List.length_cons,List.length_append] at hP
  have:=VJ mem
  have ih:=ZjJ L x (k3 x mem).1 (by have:=(k3 x mem).2; omega) (by omega)
  rw [Qm]
  simp only [Zo hi,cond_true,Zm,hx,Yk,ih,wrap_succ hi (by omega)]
  rw [Zn (by simp only [List.length_cons,List.length_nil]; omega)]
  rw [Zn (by simp only [List.length_append,List.length_cons,List.length_nil]; omega),e' _ (by simp only [List.length_append,List.length_cons,List.length_nil]; omega),ZE]
  simp) (fun self s hP=>by
  rw [ZE] at hP
  rw [Qm,ZE]
  simp only [Zf,cond_false,We,List.nil_append]
  simp only [List.length_nil] at hP
  unfold Dy
  by_cases e3:i.Op=3
  ·simp only [e3,decide_true,cond_true,if_true]
   rw [Zn (by simp only [List.length_cons,List.length_nil]; omega),Zhi L i.Dist ok.Dist (by omega) h1,Yk,Zn (by simp only [List.length_append,List.length_cons,List.length_nil]; omega),Zn (by simp only [List.length_append,List.length_cons,List.length_nil]; omega)]
   simp
  ·simp only [e3,decide_false,cond_false,Bool.false_eq_true,if_false]
   rw [Zn (by simp only [List.length_cons,List.length_nil]; omega)]
   simp)
theorem ZjI (L:Nat)(n:Int)(hn:bd n)(i:ZF)(ok:QL i)(h:2 * SizeOf.sizeOf i < L)(h1:1000≤L)(hb:(ZE (esX i)).length≤70368744177664):Uj L (n,i,())=some (UW n i):=by
 have a1:=ZN hn; have a2:=ZN ok.A; have a3:=ZN ok.B; have a4:=ZN ok.C; have a5:=ZcR i.Op
 have lp:=ZdC L i ok h h1 hb
 rw [Zd9,Ij,rl1,rl2,rl3,Yz hn,Yz ok.A,Yz ok.B,Yz ok.C]
 cases hk:btw i.Op 1 19 with
 | true =>
  have h':1≤i.Op∧i.Op≤19:=by simpa [btw] using hk
  obtain ⟨f,g,gs,w1,w2,w3,w4,w5,w6⟩:=H7 L i.Op h'
  have he:Wi L (i,())=some (esX i):=by rw [Zhf L i ok hk f g gs w2 w3 w4,esX,if_pos hk,w1]
  have hw:OL i.Op=f.word:=by rw [OL,if_pos hk,w1]
  unfold UW V4
  rw [w2,hw]
  simp only [Yk,cond_true,w3,w5]
  cases i.Flag
  all_goals
   simp only [cond_true,cond_false]
   rw [Zn (by simp only [List.length_append,List.length_cons,List.length_nil]; omega),Zn (by simp only [List.length_append,List.length_cons,List.length_nil]; omega),Zn (by simp only [List.length_append,List.length_cons,List.length_nil]; omega),Zn (by simp only [List.length_append,List.length_cons,List.length_nil]; omega),Zn (by simp only [List.length_append,List.length_cons,List.length_nil]; omega),Zn (by simp only [List.length_append,List.length_cons,List.length_nil]; omega),Zn (by simp only [List.length_append,List.length_cons,List.length_nil]; omega),Zn (by simp only [List.length_append,List.length_cons,List.length_nil]; omega),Zn (by simp only [List.length_append,List.length_cons,List.length_nil]; omega),Zn (by simp only [List.length_append,List.length_cons,List.length_nil]; omega),he,Yk,lp _ (by simp only [List.length_append,List.length_cons,List.length_nil]; omega)]
   simp
 | false =>
  have he:Wi L (i,())=some (esX i):=by rw [Rk,Ij,hk,esX,if_neg (by simp [hk])]; rfl
  have hw:OL i.Op=[63]:=by rw [OL,if_neg (by simp [hk])]
  unfold UW V4
  rw [hw]
  simp only [Yk,cond_false]
  cases i.Flag
  all_goals
   simp only [cond_true,cond_false]
   rw [Zn (by simp only [List.length_append,List.length_cons,List.length_nil]; omega),Zn (by simp only [List.length_append,List.length_cons,List.length_nil]; omega),Zn (by simp only [List.length_append,List.length_cons,List.length_nil]; omega),Zn (by simp only [List.length_append,List.length_cons,List.length_nil]; omega),Zn (by simp only [List.length_append,List.length_cons,List.length_nil]; omega),Zn (by simp only [List.length_append,List.length_cons,List.length_nil]; omega),Zn (by simp only [List.length_append,List.length_cons,List.length_nil]; omega),Zn (by simp only [List.length_append,List.length_cons,List.length_nil]; omega),Zn (by simp only [List.length_append,List.length_cons,List.length_nil]; omega),Zn (by simp only [List.length_append,List.length_cons,List.length_nil]; omega),he,Yk,lp _ (by simp only [List.length_append,List.length_cons,List.length_nil]; omega)]
   simp
def Jf:Int→List ZF→List UInt8
 | _,[]=>[]
 | n,x :: r=>UW n x ++ Jf (n + 1) r
theorem Zjh {n:Int}{i:ZF}:(ZE (esX i)).length≤(UW n i).length:=by unfold UW; simp only [List.length_append]; omega
theorem ZjH (L:Nat)(c:WN)(ok:Tm c)(h:2 * SizeOf.sizeOf c < L)(h1:1000≤L)(hb:(Jf 0 c.Instrs).length≤70368744177664):Ui L (c,())=some (Jf 0 c.Instrs):=by
 have hz:=RY c; have hl:=ZK c.Instrs; have hI:=ok.Instrs.1
 rw [Zd8]
 have key:∀ (m i:Nat) (s:List UInt8),i≤c.Instrs.length→c.Instrs.length - i < m→s.length + (Jf i (c.Instrs.drop i)).length≤70368744177664→Zw (Ql c L) m (s,(i:Int),())=some (s ++ Jf i (c.Instrs.drop i)):=by
  intro m
  induction m with
  | zero=>intro i s _ h; exact absurd h (Nat.not_lt_zero _)
  | succ m ih =>
   intro i s hi hm hs
   show Ql c L (Zw (Ql c L) m) (s,(i:Int),())=_
   rcases Nat.lt_or_ge i c.Instrs.length with hlt | hge
   ·have hx:=List.getElem?_eq_getElem hlt
    have mem:=List.getElem_mem hlt
    rw [List.drop_eq_getElem_cons hlt,Jf] at hs ⊢
    generalize c.Instrs[i]=x at hx hs mem
    rw [List.length_append] at hs
    have hsz:=List.sizeOf_lt_of_mem mem
    have hn:=Zjh (n := (i:Int)) (i := x)
    rw [Ql]
    simp only [Zo hlt,cond_true,Zm,hx,Yk,ZjI L (i:Int) ⟨by omega,by omega⟩ x (ok.Instrs.2 x mem) (by omega) h1 (by omega),wrap_succ hlt (by omega)]
    rw [Zn (by omega)]
    have:=ih (i + 1) (s ++ UW (i:Int) x) hlt (by omega) (by rw [List.length_append]; push_cast at hs ⊢; omega)
    refine (show _=Zw (Ql c L) m (_,((i + 1:Nat):Int),()) from rfl).trans (this.trans ?_)
    rw [List.append_assoc]; rfl
   ·have:i=c.Instrs.length:=by omega
    subst this
    rw [Ql,List.drop_length,Jf,List.append_nil]; simp only [Zf,cond_false]
 have:=key L 0 [] (Nat.zero_le _) (by omega) (by simpa using hb)
 rw [List.drop_zero] at this
 exact this
theorem cl1:IR=YD:=rfl
theorem cl2:IU=YD:=rfl
theorem cl3:IV=YD:=rfl
theorem Zdg (L:Nat)(self:Int×List UInt8×PUnit→Option (List UInt8))(n:Nat)(hn:n < 4611686018427387904)(s0:List UInt8)(i:ZF)(ok:QL i)(h:2 * SizeOf.sizeOf i < L)(h1:1000≤L)(s:List UInt8)(hs:s.length + (ZE (esX i)).length≤70368744177664):Zw (YD L self ((n:Int),s0,()) i (esX i)) L (0,s,())=self ((n:Int) + 1,s ++ (ZE (esX i) ++ (Dy i ++ [10])),()):=by
 obtain ⟨k1,k2,k3⟩:=ZhJ i ok
 have hz:=ZfC i; have hl:=ZK i.Args
 have hd:=Ny i.Dist ok.Dist
 have hw:IntKind.i64.wrap ((n:Int) + 1)=(n:Int) + 1:=wrap_in (by omega) (by omega)
 have:=Zjk (f := YD L self ((n:Int),s0,()) i (esX i)) (esX i) (fun s k=>(k,s,())) (fun r s=>self ((n:Int) + 1,s ++ (ZE r ++ (Dy i ++ [10])),())) (fun r s=>s.length + (ZE r).length≤70368744177664) (fun self1 s k x r hP hx hi mem e'=>by
  rw [ZE,List.length_cons,List.length_append] at hP
  have hm:=VJ mem
  have ih:=ZjD L x (k3 x mem).1 (by have:=(k3 x mem).2; omega) (by omega)
  rw [YD]
  simp only [Zo hi,cond_true,Zm,hx,Yk,ih,wrap_succ hi (by omega)]
  rw [Zn (by simp only [List.length_cons,List.length_nil]; omega),UH (by simp only [List.length_append,List.length_cons,List.length_nil]; omega) (by simp only [List.length_append,List.length_cons,List.length_nil]; omega),e' _ (by simp only [List.length_append,List.length_cons,List.length_nil]; omega),ZE]
  simp) (fun self1 s hP=>by
  rw [ZE] at hP
  rw [YD,ZE]
  simp only [Zf,cond_false,We,List.nil_append,hw]
  simp only [List.length_nil] at hP
  unfold Dy
  by_cases e3:i.Op=3
  ·simp only [e3,decide_true,cond_true,if_true]
   rw [ZjE L i.Dist ok.Dist (by omega) h1,Yk,Zn (by simp only [List.length_cons,List.length_nil]; omega),UH (by simp only [List.length_append,List.length_cons,List.length_nil]; omega) (by simp only [List.length_append,List.length_cons,List.length_nil]; omega),UH (by simp only [List.length_append,List.length_cons,List.length_nil]; omega) (by simp only [List.length_append,List.length_cons,List.length_nil]; omega)]
   simp
  ·simp only [e3,decide_false,cond_false,Bool.false_eq_true,if_false]
   rw [UH (by simp only [List.length_append,List.length_cons,List.length_nil]; omega) (by simp only [List.length_append,List.length_cons,List.length_nil]; omega)]
   simp) L 0 s hs (Nat.zero_le _) (by omega)
 rw [List.drop_zero] at this
 exact this
end Go.Proofs.YtleomfgijkapfaaGreatDoor
end
section
namespace Go.Proofs.YtleomfgijkapfaaGreatDoor
open Go Go.Proofs.YtleomfgijkapfaaGreatDoor.Abs Go.Proofs.YtleomfgijkapfaaGreatDoor.Tl
set_option maxRecDepth 100000
theorem ZmJ (a b c d e f:List UInt8):Lib.join [a,b,c,d,e,f] [32]=a ++ (32 :: (b ++ (32 :: (c ++ (32 :: (d ++ (32 :: (e ++ (32 :: f))))))))):=by rw [UT,UT,UT,UT,UT,ZhP]
theorem ZjC (L:Nat)(c:WN)(ok:Tm c)(h:2 * SizeOf.sizeOf c < L)(h1:1000≤L)(hb:(Jf 0 c.Instrs).length≤70368744177664):Jk L (c,())=some (Jf 0 c.Instrs):=by
 have hz:=RY c; have hl:=ZK c.Instrs; have hI:=ok.Instrs.1
 rw [ZaW]
 have key:∀ (m i:Nat) (s:List UInt8),i≤c.Instrs.length→c.Instrs.length - i < m→s.length + (Jf i (c.Instrs.drop i)).length≤70368744177664→Zw (YW c L) m ((i:Int),s,())=some (s ++ Jf i (c.Instrs.drop i)):=by
  intro m
  induction m with
  | zero=>intro i s _ h; exact absurd h (Nat.not_lt_zero _)
  | succ m ih =>
   intro i s hi hm hs
   show YW c L (Zw (YW c L) m) ((i:Int),s,())=_
   rcases Nat.lt_or_ge i c.Instrs.length with hlt | hge
   ·have hx:=List.getElem?_eq_getElem hlt
    have mem:=List.getElem_mem hlt
    rw [List.drop_eq_getElem_cons hlt,Jf] at hs ⊢
    generalize c.Instrs[i]=x at hx hs mem
    rw [List.length_append] at hs
    have hsz:=List.sizeOf_lt_of_mem mem
    have oki:=ok.Instrs.2 x mem
    have bi:bd (i:Int):=⟨by omega,by omega⟩
    have hh:=Zcj x oki bi
    have hln:(UW (i:Int) x).length=(V4 (i:Int) x).length + ((ZE (esX x)).length + ((Dy x).length + 1)):=by unfold UW; simp only [List.length_append,List.length_cons,List.length_nil]
    have nx:=ih (i + 1) (s ++ UW (i:Int) x) hlt (by omega) (by rw [List.length_append]; push_cast at hs ⊢; omega)
    have fin:∀ w f:List UInt8,OL x.Op=w→(bif x.Flag then [49] else [48])=f→bT (Y5 L ([Lib.itoa (i:Int),w,Lib.itoa x.A,Lib.itoa x.B,Lib.itoa x.C,f],())) (fun y=>bT (Gh s y) fun y=>Zw (YD L (Zw (YW c L) m) ((i:Int),s,()) x (esX x)) L (0,y,()))=some (s ++ (UW (i:Int) x ++ Jf ((i:Int) + 1) (c.Instrs.drop (i + 1)))):=by
     intro w f hw hf
     have ej:Lib.join [Lib.itoa (i:Int),w,Lib.itoa x.A,Lib.itoa x.B,Lib.itoa x.C,f] [32]=V4 (i:Int) x:=by rw [ZmJ,V4,hw,hf]
     have hp:0 < (V4 (i:Int) x).length:=by unfold V4; simp only [List.length_append,List.length_cons]; omega
     rw [Zc3 L (by simp only [List.length_cons,List.length_nil]; omega) (by rw [ej]; omega),Yk,ej,UH (by omega) (by omega),Zdg L _ i (by omega) s x oki (by omega) h1 _ (by rw [List.length_append]; omega)]
     refine (show _=Zw (YW c L) m (((i + 1:Nat):Int),s ++ UW (i:Int) x,()) by rw [UW,List.append_assoc]; rfl).trans (nx.trans ?_)
     rw [List.append_assoc]; rfl
    rw [YW,cl1,cl2,cl3]
    simp only [Zo hlt,cond_true,Zm,hx,Yk,LY,Yz bi,Yz oki.A,Yz oki.B,Yz oki.C]
    cases hk:btw x.Op 1 19 with
    | true =>
     have h':1≤x.Op∧x.Op≤19:=by simpa [btw] using hk
     obtain ⟨f,g,gs,w1,w2,w3,w4,w5,w6⟩:=H7 L x.Op h'
     have he:ZI L (x,())=some (esX x):=by rw [Zhd L x oki hk f w1,esX,if_pos hk,w1]
     have hw:OL x.Op=f.word:=by rw [OL,if_pos hk,w1]
     rw [w1]
     simp only [Yk,cond_true,he]
     cases hf:x.Flag
     ·exact fin f.word [48] hw (by rw [hf]; rfl)
     ·exact fin f.word [49] hw (by rw [hf]; rfl)
    | false =>
     have he:ZI L (x,())=some (esX x):=by rw [Vk,LY,hk,esX,if_neg (by simp [hk])]; rfl
     have hw:OL x.Op=[63]:=by rw [OL,if_neg (by simp [hk])]
     simp only [Yk,cond_false,he]
     cases hf:x.Flag
     ·exact fin [63] [48] hw (by rw [hf]; rfl)
     ·exact fin [63] [49] hw (by rw [hf]; rfl)
   ·have:i=c.Instrs.length:=by omega
    subst this
    rw [YW,List.drop_length,Jf,List.append_nil]; simp only [Zf,cond_false]
 have:=key L 0 [] (Nat.zero_le _) (by omega) (by simpa using hb)
 rw [List.drop_zero] at this
 exact this
def Ic:Int→List ZF→List Td
 | _,[]=>[]
 | n,x :: r=>(if (decide (x.Op=4) || decide (x.Op=5))=true then [⟨n,x.A⟩] else []) ++ Ic (n + 1) r
theorem apJ {l m:List Td}(h:(l.length + m.length) * 16≤140737488355328):apT 16 l m=some (l ++ m):=by unfold apT; rw [if_pos h]
theorem Zhc (L:Nat)(c:WN)(ok:Tm c)(h:SizeOf.sizeOf c < L):Vp L (c,())=some (Ic 0 c.Instrs):=by
 have hz:=RY c; have hl:=ZK c.Instrs; have hI:=ok.Instrs.1
 rw [FI]
 have key:∀ (m i:Nat) (s:List Td),i≤c.Instrs.length→c.Instrs.length - i < m→s.length≤i→Zw (YC c) m (s,(i:Int),())=some (s ++ Ic i (c.Instrs.drop i)):=by
  intro m
  induction m with
  | zero=>intro i s _ h; exact absurd h (Nat.not_lt_zero _)
  | succ m ih =>
   intro i s hi hm hs
   show YC c (Zw (YC c) m) (s,(i:Int),())=_
   rcases Nat.lt_or_ge i c.Instrs.length with hlt | hge
   ·have hx:=List.getElem?_eq_getElem hlt
    rw [List.drop_eq_getElem_cons hlt,Ic]
    generalize c.Instrs[i]=x at hx
    rw [YC]
    simp only [Zo hlt,cond_true,Zm,hx,Yk,We,wrap_succ hlt (by omega)]
    cases hj:(decide (x.Op=4) || decide (x.Op=5)) with
    | true =>
     rw [cond_true,apJ (by simp only [List.length_cons,List.length_nil]; omega),Yk,if_pos rfl]
     refine (show _=Zw (YC c) m (s ++ [⟨(i:Int),x.A⟩],((i + 1:Nat):Int),()) from rfl).trans ((ih (i + 1) _ hlt (by omega) (by simp; omega)).trans ?_)
     rw [List.append_assoc]; rfl
    | false =>
     rw [cond_false,if_neg (by simp)]
     exact (show _=Zw (YC c) m (s,((i + 1:Nat):Int),()) from rfl).trans ((ih (i + 1) s hlt (by omega) (by omega)))
   ·have:i=c.Instrs.length:=by omega
    subst this
    rw [YC,List.drop_length,Ic,List.append_nil]; simp only [Zf,cond_false]
 have:=key L 0 [] (Nat.zero_le _) (by omega) (by simp)
 rw [List.drop_zero] at this
 exact this
theorem Zhg (L:Nat)(c:WN)(ok:Tm c)(h:SizeOf.sizeOf c < L):Jq L (c,())=some (Ic 0 c.Instrs):=by
 have hz:=RY c; have hl:=ZK c.Instrs; have hI:=ok.Instrs.1
 rw [Zbo]
 have key:∀ (m i:Nat) (s:List Td),i≤c.Instrs.length→c.Instrs.length - i < m→s.length≤i→Zw (YX c) m (s,(i:Int),())=some (s ++ Ic i (c.Instrs.drop i)):=by
  intro m
  induction m with
  | zero=>intro i s _ h; exact absurd h (Nat.not_lt_zero _)
  | succ m ih =>
   intro i s hi hm hs
   show YX c (Zw (YX c) m) (s,(i:Int),())=_
   rcases Nat.lt_or_ge i c.Instrs.length with hlt | hge
   ·have hx:=List.getElem?_eq_getElem hlt
    rw [List.drop_eq_getElem_cons hlt,Ic]
    generalize c.Instrs[i]=x at hx
    rw [YX]
    simp only [Zo hlt,cond_true,Zm,hx,Yk,We,wrap_succ hlt (by omega),condC,ZP,Zy,Bool.cond_true_left]
    cases hj:(decide (x.Op=4) || decide (x.Op=5)) with
    | true =>
     rw [cond_true,apJ (by simp only [List.length_cons,List.length_nil]; omega),Yk,if_pos rfl]
     refine (show _=Zw (YX c) m (s ++ [⟨(i:Int),x.A⟩],((i + 1:Nat):Int),()) from rfl).trans ((ih (i + 1) _ hlt (by omega) (by simp; omega)).trans ?_)
     rw [List.append_assoc]; rfl
    | false =>
     rw [cond_false,if_neg (by simp)]
     exact (show _=Zw (YX c) m (s,((i + 1:Nat):Int),()) from rfl).trans ((ih (i + 1) s hlt (by omega) (by omega)))
   ·have:i=c.Instrs.length:=by omega
    subst this
    rw [YX,List.drop_length,Ic,List.append_nil]; simp only [Zf,cond_false]
 have:=key L 0 [] (Nat.zero_le _) (by omega) (by simp)
 rw [List.drop_zero] at this
 exact this
theorem Zco:∀ (n:Int) (l:List ZF),(Ic n l).length≤l.length
 | _,[]=>by simp [Ic]
 | n,x :: r=>by
  have:=Zco (n + 1) r
  rw [Ic,List.length_append,List.length_cons]
  split <;> simp only [List.length_cons,List.length_nil] <;> omega
theorem Rh (L:Nat)(h1:1000≤L)(c:WN)(ok:Tm c)(h:2 * SizeOf.sizeOf c < L)(hb:(Jf 0 c.Instrs).length≤70368744177664):QW L (c,())=some true:=by
 have hz:=RY c; have hl:=ZK c.Instrs; have hI:=ok.Instrs.1
 obtain ⟨b,e1⟩:=ZjG L c (by omega) (by omega)
 rw [Il,e1,Yk]
 cases b
 ·rfl
 have hj:=Zco 0 c.Instrs
 simp only [Bool.not_true,cond_false,Zhc L c ok (by omega),Zhg L c ok (by omega),ZjC L c ok h h1 hb,ZjH L c ok h h1 hb,Yk,WM,decide_true,Bool.not_true]
 generalize Ic 0 c.Instrs=J at hj
 have lp:Zw (W9 J J) L (0,())=some true:=by
  refine ZgE J (fun _=>some true) (by omega) (fun self i x r hx hi _ e=>?_) (fun self=>by rw [W9]; simp only [Zf,cond_false])
  rw [W9]
  simp only [Zo hi,cond_true,Zm,hx,Yk,wrap_succ hi (by omega),e]
  simp
 simp [Yk,lp]
end Go.Proofs.YtleomfgijkapfaaGreatDoor
end
section
namespace Go.Proofs.YtleomfgijkapfaaGreatDoor
open Go Go.RowKit Go.Proofs.YtleomfgijkapfaaGreatDoor.Abs Go.Proofs.YtleomfgijkapfaaGreatDoor.Tl
set_option maxRecDepth 100000
mutual
def bkA:AV→Nat
 | .str s=>s.length + 1
 | .lst _ rows=>bkR rows + 1
 | _=>1
def bkL:List AV→Nat
 | []=>0
 | a :: l=>bkA a + bkL l
def bkR:List (List AV)→Nat
 | []=>0
 | r :: l=>bkL r + bkR l
end
theorem Zas:∀ a b:List AV,bkL (a ++ b)=bkL a + bkL b
 | [],b=>by rw [bkL]; simp
 | x :: a,b=>by rw [List.cons_append,bkL,bkL,Zas a b,Nat.add_assoc]
theorem ZbR {H:Type}:∀ (fs:List Field) (cs:List AV) (P:Program) (D:Nat→DataW H) (k o n:Nat),Zb6 P fs o n=true→cs.length=n→o≤n→(∀ (i:Nat) (f:Field),fs[i]? = some f→bkL ((cs.drop f.offset).take (P.cellsOf f.type))≤Rows.uptoBulk (D (k + i)))→bkL (cs.drop o)≤Rows.uptoBulkAll ((List.range fs.length).map fun i=>D (k + i))
 | [],cs,P,D,k,o,n,ht,hl,ho,h=>by
  have:o=n:=by simpa [Zb6] using ht
  subst this
  rw [← hl,List.drop_length]; simp [bkL,Rows.uptoBulkAll]
 | f :: fs,cs,P,D,k,o,n,ht,hl,ho,h=>by
  simp only [Zb6,Bool.and_eq_true,beq_iff_eq] at ht
  obtain ⟨rfl,ht⟩:=ht
  have hle:f.offset + P.cellsOf f.type≤n:=by
   have:∀ (fs:List Field) (o:Nat),Zb6 P fs o n=true→o≤n:=by
    intro fs
    induction fs with
    | nil =>
     intro o h; have:o=n:=by simpa [Zb6] using h
     omega
    | cons g fs ih =>
     intro o h
     simp only [Zb6,Bool.and_eq_true,beq_iff_eq] at h
     have:=ih _ h.2
     omega
   exact this fs _ ht
  have ih:=ZbR fs cs P D (k + 1) (f.offset + P.cellsOf f.type) n ht hl hle fun i g hg=>by
   have:=h (i + 1) g (by simpa using hg)
   rwa [show k + (i + 1)=k + 1 + i by omega] at this
  have h0:=h 0 f rfl
  rw [List.length_cons,List.range_succ_eq_map,List.map_cons,List.map_map,Rows.uptoBulkAll]
  have e:cs.drop f.offset=(cs.drop f.offset).take (P.cellsOf f.type) ++ cs.drop (f.offset + P.cellsOf f.type):=by rw [← List.drop_drop,List.take_append_drop]
  rw [e,Zas]
  refine Nat.add_le_add h0 (Nat.le_trans ih (Nat.le_of_eq ?_))
  congr 1
  refine List.map_congr_left fun i _=>?_
  show D (k + 1 + i)=D (k + (i + 1))
  rw [show k + 1 + i=k + (i + 1) by omega]
theorem Ai {H:Type}:∀ (rows:List (List AV)) (D:Nat→DataW H) (k:Nat),(∀ (i:Nat) r,rows[i]? = some r→bkL r≤Rows.uptoBulk (D (k + i)))→bkR rows≤Rows.uptoBulkAll ((List.range rows.length).map fun i=>D (k + i))
 | [],_,_,_=>by simp [bkR]
 | r :: rows,D,k,h=>by
  have ih:=Ai rows D (k + 1) fun i g hg=>by
   have:=h (i + 1) g (by simpa using hg)
   rwa [show k + (i + 1)=k + 1 + i by omega] at this
  rw [List.length_cons,List.range_succ_eq_map,List.map_cons,List.map_map,Rows.uptoBulkAll,bkR]
  refine Nat.add_le_add (h 0 r rfl) (Nat.le_trans ih (Nat.le_of_eq ?_))
  congr 1
  refine List.map_congr_left fun i _=>?_
  show D (k + 1 + i)=D (k + (i + 1))
  rw [show k + 1 + i=k + (i + 1) by omega]
theorem Zhw {H:Type}{P:Program}{S:List TypeId}(hS:ZgN P S=true){t:TypeId}{cs:List AV}{d:DataW H}(h:J8 P t cs d):S.contains t=true→bkL cs≤Rows.uptoBulk d:=by
 induction h with
 | bool t b hu=>intro _; simp [bkL,bkA,Rows.uptoBulk]
 | int t k x hu hw=>intro _; simp [bkL,bkA,Rows.uptoBulk]
 | str t s hu hl=>intro _; simp [bkL,bkA,Rows.uptoBulk]
 | nil t e hu=>intro _; simp [bkL,bkA,bkR,Rows.uptoBulk]
 | slice t e rows D spare hu hl h ih =>
  intro ht
  have:=List.all_eq_true.1 hS t (List.contains_iff_mem.1 ht)
  rw [hu] at this
  simp only [Bool.and_eq_true] at this
  have hr:=Ai rows D 0 fun i r hr=>by rw [Nat.zero_add]; exact ih i r hr this.2
  simp only [Nat.zero_add] at hr
  simp only [bkL,bkA,Rows.uptoBulk,Nat.add_zero]
  have e:(List.range rows.length).map (fun i=>D i)=(List.range rows.length).map D:=rfl
  rw [e] at hr
  omega
 | struct t fs cs D hu hl h ih =>
  intro ht
  have:=List.all_eq_true.1 hS t (List.contains_iff_mem.1 ht)
  rw [hu] at this
  simp only [Bool.and_eq_true] at this
  have hr:=ZbR fs.toList cs P D 0 0 (P.cellsOf t) this.1 hl (Nat.zero_le _) fun i f hf=>by
   rw [Nat.zero_add]
   exact ih i f hf (List.all_eq_true.1 this.2 f (List.mem_of_getElem? hf))
  rw [List.drop_zero] at hr
  simp only [Nat.zero_add,Array.length_toList] at hr
  have e:(List.range fs.size).map (fun i=>D i)=(List.range fs.size).map D:=rfl
  rw [e] at hr
  simp only [Rows.uptoBulk]
  omega
theorem Ziz (e:Zq):bkL (QH e)=e.Name.length + bkR (e.Kids.map QH) + 4:=by rw [SE]; simp only [bkL,bkA]; omega
mutual
theorem ZaE:∀ e:Zq,ZW e→(XR e).length + 1≤50 * bkL (QH e)
 | ⟨o,a,n,ks⟩,ok=>by
  have h:=NQ ks ok.Kids.2
  have a1:(Lib.itoa o).length≤21:=ZN ok.Op; have a2:(Lib.itoa n).length≤21:=ZN ok.N
  rw [Ziz,XR]
  simp only [List.length_cons,List.length_append,List.length_nil]
  omega
theorem NQ:∀ l:List Zq,(∀ x ∈ l,ZW x)→(ZE l).length≤50 * bkR (l.map QH)
 | [],_=>by simp [ZE]
 | e :: l,h=>by
  have h1:=ZaE e (h e (List.mem_cons_self ..))
  have h2:=NQ l fun x hx=>h x (List.mem_cons_of_mem _ hx)
  rw [ZE,List.map_cons,bkR]
  simp only [List.length_cons,List.length_append]
  omega
end
theorem ZbP (i:ZF):bkL (QH i.E) + bkL (QH i.F) + bkR (i.Args.map QH) + 4≤bkL (VL i):=by
 unfold VL
 simp only [Zas,bkL,bkA]; omega
theorem Zm0 (i:ZF)(ok:QL i):(ZE (esX i)).length≤50 * bkL (VL i):=by
 have hb:=ZbP i
 have h1:=ZaE i.E ok.E; have h2:=ZaE i.F ok.F; have h3:=NQ i.Args ok.Args.2
 unfold esX
 split
 ·split
  ·rename_i f _
   unfold ZdR
   rw [Ih,Ih]
   cases f.e <;> cases f.f <;> cases f.args <;> simp only [cond_true,cond_false,ZE,List.length_append,List.length_nil,List.length_cons,List.append_nil] <;> omega
  ·simp [ZE]
 ·simp [ZE]
theorem Zjg {n:Int}(i:ZF)(ok:QL i)(hn:bd n):(UW n i).length≤400 * bkL (VL i):=by
 have h1:=Zcj i ok hn; have h2:=Zm0 i ok; have h3:=Ny i.Dist ok.Dist; have hb:=ZbP i
 have h4:(Dy i).length≤1001:=by unfold Dy; split <;> simp <;> omega
 unfold UW
 simp only [List.length_append,List.length_cons,List.length_nil]
 omega
theorem ZfH:∀ (l:List ZF) (n:Int),(∀ x ∈ l,QL x)→0≤n→n + l.length≤4611686018427387904→(Jf n l).length≤400 * bkR (l.map VL)
 | [],_,_,_,_=>by simp [Jf]
 | x :: l,n,h,h0,h1=>by
  rw [List.length_cons] at h1
  have a:=Zjg (n := n) x (h x (List.mem_cons_self ..)) ⟨by omega,by omega⟩
  have b:=ZfH l (n + 1) (fun y hy=>h y (List.mem_cons_of_mem _ hy)) (by omega) (by omega)
  rw [Jf,List.map_cons,bkR,List.length_append]
  omega
theorem ZiA (c:WN)(ok:Tm c)(h:bkL (OG c)≤1048576):(Jf 0 c.Instrs).length≤70368744177664:=by
 have hI:=ok.Instrs.1
 have a:=ZfH c.Instrs 0 ok.Instrs.2 (Int.le_refl _) (by omega)
 have b:bkR (c.Instrs.map VL)≤bkL (OG c):=by unfold OG; simp only [bkL,bkA]; omega
 omega
end Go.Proofs.YtleomfgijkapfaaGreatDoor
end
