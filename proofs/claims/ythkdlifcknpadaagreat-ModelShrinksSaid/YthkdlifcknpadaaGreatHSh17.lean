import Derived.Test.YthkdlifcknpadaaGreatHSh16
set_option linter.all false
section
namespace Go.Proofs.YthkdlifcknpadaaGreat
open Go Go.Proofs.YthkdlifcknpadaaGreat.Abs Go.Proofs.YthkdlifcknpadaaGreat.Tl
set_option maxRecDepth 100000
theorem AB {α:Type}(nm:α→List UInt8)(s:List UInt8)(l:List α):decide (GV (fun x=>decide (nm x=s)) l 0 ≥ 0)=(l.map nm).contains s:=by
 rw [show decide (GV (fun x=>decide (nm x=s)) l 0 ≥ 0)=_ from A8 _ l 0 (Int.le_refl _),← ZgJ,List.any_map]
 congr 1; funext x; exact decide_eq_decide.2 ⟨Eq.symm,Eq.symm⟩
theorem Jg (d:Zb):SizeOf.sizeOf d.Name < SizeOf.sizeOf d∧SizeOf.sizeOf d.Vars < SizeOf.sizeOf d∧SizeOf.sizeOf d.Resources < SizeOf.sizeOf d∧SizeOf.sizeOf d.Stores < SizeOf.sizeOf d∧SizeOf.sizeOf d.Belts < SizeOf.sizeOf d∧SizeOf.sizeOf d.Queues < SizeOf.sizeOf d∧SizeOf.sizeOf d.Streams < SizeOf.sizeOf d∧SizeOf.sizeOf d.Tallies < SizeOf.sizeOf d∧SizeOf.sizeOf d.Levels < SizeOf.sizeOf d∧SizeOf.sizeOf d.Counts < SizeOf.sizeOf d∧SizeOf.sizeOf d.Routines < SizeOf.sizeOf d∧SizeOf.sizeOf d.Starts < SizeOf.sizeOf d∧SizeOf.sizeOf d.Laws < SizeOf.sizeOf d:=by
 cases d; simp; omega
structure Sh (L:Nat)(d:Zb):Prop where
 nm:d.Name.length < L
 vars:d.Vars.length < L
 res:d.Resources.length < L
 sto:d.Stores.length < L
 bel:d.Belts.length < L
 que:d.Queues.length < L
 str:d.Streams.length < L
 tal:d.Tallies.length < L
 lev:d.Levels.length < L
 cnt:d.Counts.length < L
 rou:d.Routines.length < L
 sta:d.Starts.length < L
 law:d.Laws.length < L
theorem Sh.of {L:Nat}{d:Zb}(h:SizeOf.sizeOf d≤L):Sh L d:=by
 have:=Jg d
 constructor
 ·have:=ZO d.Name; omega
 ·have:=ZO d.Vars; omega
 ·have:=ZO d.Resources; omega
 ·have:=ZO d.Stores; omega
 ·have:=ZO d.Belts; omega
 ·have:=ZO d.Queues; omega
 ·have:=ZO d.Streams; omega
 ·have:=ZO d.Tallies; omega
 ·have:=ZO d.Levels; omega
 ·have:=ZO d.Counts; omega
 ·have:=ZO d.Routines; omega
 ·have:=ZO d.Starts; omega
 ·have:=ZO d.Laws; omega
theorem Zi9 (L:Nat)(d:Zb)(t:IK)(h:ZQ d)(hL:d.Stores.length < L):Z9 (X8 d t) L (0,())=some (GV (fun x:Yw=>decide (x.Name=t.Name)) d.Stores 0):=by
 have:=h.st
 exact Zif d.Stores (fun l i=>some (GV (fun x:Yw=>decide (x.Name=t.Name)) l i)) hL (fun self i x r hx hi _ e=>by
  rw [X8]; simp only [Zi,Ze,cond_true,cond_false,Zg,ZR,Zd,Zw,condC,Zj,Zk,Zx,Yr,Yt,ZZ,hi,hx,wrap_succ hi (by omega),e,GV]; simp only [Wj,Ja,if_true,if_false,Bool.false_eq_true,ne_eq,decide_not,gt_iff_lt,ge_iff_le]) (fun self=>by rw [X8]; simp only [Zi,Ze,cond_true,cond_false,Zg,ZR,Zd,Zw,condC,Zj,Zk,Zx,Yr,Yt,ZZ,GV])
theorem Zst (L:Nat)(d:Zb)(t:IK)(h:ZQ d)(hs:Sh L d):KF L (d,t,())=some (ZiB d t):=by
 have:=h.st
 have sl:=Zi9 L d t h hs.sto
 rw [Zek,show BV=X8 from rfl,show BX=X8 from rfl]
 simp only [Zi,Ze,cond_true,cond_false,Zg,ZR,Zd,Zw,condC,Zj,Zk,Zx,Yr,Yt,ZZ,Zbd L d t.Name (by unfold Len; omega) hs.rou,sl,Zbc L d.Counts t.Name (by unfold Len; omega) hs.cnt,VA,AB,ZiB,ZeI]; simp only [Wj,Ja,if_true,if_false,Bool.false_eq_true,ne_eq,decide_not,gt_iff_lt,ge_iff_le]
theorem ZuU {l:List ZcY}{x:ZcY}(h:x ∈ l):x.Terms.length < SizeOf.sizeOf l∧x.Name.length < SizeOf.sizeOf l:=by
 have:=List.sizeOf_lt_of_mem h
 have h1:=ZO x.Terms; have h2:=ZO x.Name
 have:SizeOf.sizeOf x.Terms < SizeOf.sizeOf x∧SizeOf.sizeOf x.Name < SizeOf.sizeOf x:=by cases x; simp; omega
 omega
theorem Rq {α σ:Type}(f:α→Int)(s:σ):∀ l:List α,Yy (fun x s=>(f x,s)) l s=(J7 f l,s)
 | []=>rfl
 | x :: l=>by rw [Yy,Rq f s l,J7]; split <;> rfl
theorem Zso (L:Nat)(d:Zb)(h:ZQ d)(hL:SizeOf.sizeOf d≤L):KD L (d,())=some (SC d):=by
 have hs:=Sh.of hL
 have hz:=Jg d
 have hl:d.Laws.length≤4611686018427387:=by have:=h.Laws.1; omega
 have lp:=Fa (f := Uf d L) d.Laws (fun l:ZcY=>ZV l.Name (Ztb d l)) hs.law ([]:Seen) (fun self s i x hx hi mem=>by
  have hsz:=ZuU mem
  have ok:=h.Laws.2 x mem
  have hn:=Xg L x.Name (by have:=ok.Name; unfold Len; omega) (by omega)
  have ht:=ok.t
  have tl:=fun s:Seen=>Fa (f := Ue d L x) x.Terms (fun t s=>(ZiB d t,s)) (show x.Terms.length < L by omega) s (fun self s i t hx hi mem=>by
   rw [Ue]; simp only [Zi,Ze,cond_true,cond_false,Zg,ZR,Zd,Zw,condC,Zj,Zk,Zx,Yr,Yt,ZZ,hi,hx,Zst L d t h hs,wrap_succ hi (by omega)]) (fun self s=>by rw [Ue]; simp only [Zi,Ze,cond_true,cond_false,Zg,ZR,Zd,Zw,condC,Zj,Zk,Zx,Yr,Yt,ZZ])
  simp only [Rq] at tl
  rw [Uf]
  simp only [Zi,cond_true,Zg,ZR,ZZ,Jo,hi,hx,hn]
  simp only [Zi,Ze,cond_true,cond_false,Zg,ZR,Zd,Zw,condC,Zj,Zk,Zx,Yr,Yt,ZZ,Zuf,tl,wrap_succ hi (by omega)]
  simp only [ZV,Ztb,ZbE]
  by_cases a:(Yo x.Name s).1=0 <;> by_cases b:x.Terms=[] <;> by_cases c:8 < (x.Terms.length:Int) <;> by_cases e:J7 (ZiB d) x.Terms=0 <;> rcases Bool.eq_false_or_eq_true (inB x.Total) with g | g <;> simp [a,b,c,e,g,ZR])
  (fun self s=>by rw [Uf]; simp only [Zi,Ze,cond_true,cond_false,Zg,ZR,Zd,Zw,condC,Zj,Zk,Zx,Yr,Yt,ZZ])
 rw [Zei,VW 32 (fun l:ZcY=>ZV l.Name (Ztb d l)) d.Laws [] lp,ZR]
 rfl
end Go.Proofs.YthkdlifcknpadaaGreat
end
section
namespace Go.Proofs.YthkdlifcknpadaaGreat
open Go Go.Proofs.YthkdlifcknpadaaGreat.Abs Go.Proofs.YthkdlifcknpadaaGreat.Tl
set_option maxRecDepth 100000
theorem Znc (L:Nat)(a b:List WF)(h:a.length + b.length≤1000)(hL:2 < L):Ya L ([a,b],())=some (a ++ b):=by
 have w1:IntKind.i64.wrap (0 + (a.length:Int))=a.length:=by rw [Int.zero_add]; exact wrap_in (by omega) (by omega)
 have w2:IntKind.i64.wrap ((a.length:Int) + b.length)=(a.length:Int) + b.length:=wrap_in (by omega) (by omega)
 have n1:decide ((a.length:Int) < 0)=false:=by simp only [decide_eq_false_iff_not]; omega
 have n2:decide ((a.length:Int) + b.length < 0)=false:=by simp only [decide_eq_false_iff_not]; omega
 have g:Zmj [] ((a.length:Int) + b.length)=some []:=by unfold Zmj; rw [if_pos ⟨rfl,by omega,by omega⟩]
 have p1:apT 24 [] a=some a:=by unfold apT; rw [if_pos (by simp only [List.length_nil]; omega)]; rfl
 have p2:apT 24 a b=some (a ++ b):=by unfold apT; rw [if_pos (by omega)]
 rw [XK,Zm7 _ hL]
 simp only [WI,two,w01,ZR,cond_true,cond_false,w1,w2,n1,n2,g,Zm7 (Y0 _) hL,Y0,p1,p2]
theorem ZtW {α σ:Type}{f:(Int×σ×PUnit→Option Int)→Int×σ×PUnit→Option Int}(l:List α)(step:α→σ→Int×σ)(e:Int){m:Nat}(hm:l.length < m)(s:σ)
  (h1:∀ self s (i:Nat) x,l[i]? = some x→i < l.length→x ∈ l→f self ((i:Int),s,())=bif !decide ((step x s).1=0) then some (step x s).1 else self ((i:Int) + 1,(step x s).2,()))
  (h2:∀ self s,f self ((l.length:Int),s,())=some e):Z9 f m (0,s,())=some (if decide ((Yy step l s).1≠0)=true then (Yy step l s).1 else e) :=
 Zig l (fun s i=>(i,s,())) (fun l s=>some (if decide ((Yy step l s).1≠0)=true then (Yy step l s).1 else e)) (fun self s i x r hx hi mem e=>by
  rw [h1 self s i x hx hi mem,e,Yy]
  by_cases c:(step x s).1=0 <;> simp [c]) (fun self s=>by rw [h2]; rfl) m 0 s (Nat.zero_le _) (by omega)
theorem Zti {l:List WF}{x:WF}(h:x ∈ l):x.Name.length < SizeOf.sizeOf l:=by
 have:=List.sizeOf_lt_of_mem h
 have h2:=ZO x.Name
 have:SizeOf.sizeOf x.Name < SizeOf.sizeOf x:=by cases x; simp; omega
 omega
theorem Zon (r:Yc):SizeOf.sizeOf r.Name < SizeOf.sizeOf r∧SizeOf.sizeOf r.Params < SizeOf.sizeOf r∧SizeOf.sizeOf r.Locals < SizeOf.sizeOf r∧SizeOf.sizeOf r.Body < SizeOf.sizeOf r:=by cases r; simp; omega
theorem ZkJ (L:Nat)(h1:100≤L)(r:Yc)(h:KZ r)(hL:SizeOf.sizeOf r≤L):VG L (r,())=some (X9 r):=by
 have hz:=Zon r
 have hp:=h.p
 have hw:IntKind.i64.wrap ((r.Params.length:Int) + (r.Locals.length:Int))=(r.Params.length:Int) + (r.Locals.length:Int):=wrap_in (by omega) (by omega)
 rw [FK,hw,X9]
 by_cases hc:6 < (r.Params.length:Int)∨16 < (r.Params.length:Int) + (r.Locals.length:Int)
 ·rw [if_pos (by simpa using hc),show (decide ((r.Params.length:Int) > 6) || decide ((r.Params.length:Int) + (r.Locals.length:Int) > 16))=true by simpa using hc]; rfl
 ·have hf:(decide ((r.Params.length:Int) > 6) || decide ((r.Params.length:Int) + (r.Locals.length:Int) > 16))=false:=by
   simp only [Bool.or_eq_false_iff,decide_eq_false_iff_not]; omega
  have hf':¬ ((decide (6 < (r.Params.length:Int)) || decide (16 < (r.Params.length:Int) + (r.Locals.length:Int)))=true):=by simpa using hc
  rw [if_neg hf',hf,cond_false,Znc L _ _ (by omega) (by omega),ZR]
  have hlen:(r.Params ++ r.Locals).length≤16:=by rw [List.length_append]; omega
  exact ZtW (f := Va r L (r.Params ++ r.Locals)) (r.Params ++ r.Locals) (fun f:WF=>ZV f.Name (Am f)) (Ns r.Body) (by omega) [] (fun self s i x hx hi mem=>by
   have ok:Eo x∧x.Name.length < L:=by
    rcases List.mem_append.1 mem with m | m
    ·exact ⟨h.Params.2 x m,by have:=Zti m; omega⟩
    ·exact ⟨h.Locals.2 x m,by have:=Zti m; omega⟩
   have hn:=Xg L x.Name (by have:=ok.1.Name; unfold Len; omega) ok.2
   rw [Va]
   simp only [Zi,cond_true,Zg,ZR,ZZ,Jo,hi,hx,hn]
   simp only [Zi,Ze,cond_true,cond_false,Zg,ZR,Zd,Zw,condC,Zj,Zk,Zx,Yr,Yt,ZZ,Zcn,wrap_succ hi (by omega)]
   simp only [ZV,Am]
   by_cases a:(Yo x.Name s).1=0 <;> rcases Bool.eq_false_or_eq_true (btw x.Ty 1 3) with g | g <;> simp [a,g]) (fun self s=>by
   rw [Va]; simp only [Zi,Ze,cond_true,cond_false,Zg,ZR,Zd,Zw,condC,Zj,Zk,Zx,Yr,Yt,ZZ,Znh L h1 r.Body h.p.2.2 (by omega)])
theorem ZiA {α:Type}[SizeOf α](g:α→List UInt8)(hg:∀ x,SizeOf.sizeOf (g x) < SizeOf.sizeOf x){l:List α}{x:α}(h:x ∈ l):(g x).length < SizeOf.sizeOf l∧SizeOf.sizeOf x < SizeOf.sizeOf l:=by
 have h1:=List.sizeOf_lt_of_mem h
 have h2:=ZO (g x)
 have h3:=hg x
 omega
theorem ZjY (L:Nat)(d:Zb)(h:d.Queues.length * 16≤140737488351232∧∀ y ∈ d.Queues,y.length≤140737488351232)(hL:SizeOf.sizeOf d.Queues≤L)(s:Seen):Z9 (Uk d L) L (0,s,())=some ((Yy Yo d.Queues s).1,(Yy Yo d.Queues s).2,()):=by
 have hk:=ZO d.Queues
 refine Fa d.Queues Yo (by omega) s (fun self s i x hx hi mem=>?_) (fun self s=>by rw [Uk]; simp only [Zi,Ze,cond_true,cond_false,Zg,ZR,Zd,Zw,condC,Zj,Zk,Zx,Yr,Yt,ZZ])
 have h1:=List.sizeOf_lt_of_mem mem
 have hn:=Xg L x (by have:=h.2 x mem; unfold Len; omega) (by have:=ZO x; omega)
 rw [Uk]
 simp only [Zi,cond_true,Zg,ZR,ZZ,Jo,hi,hx,hn]
 simp only [Zi,Ze,cond_true,cond_false,Zg,ZR,Zd,Zw,condC,Zj,Zk,Zx,Yr,Yt,ZZ,wrap_succ hi (by omega)]
theorem Zry (L:Nat)(d:Zb)(h:ZQ d)(hL:SizeOf.sizeOf d≤L)(s:Seen):Z9 (Ug d L) L (0,s,())=some ((Yy (fun v:Q8=>ZV v.Name (JF v)) d.Vars s).1,(Yy (fun v:Q8=>ZV v.Name (JF v)) d.Vars s).2,()):=by
 have hz:=Jg d
 have hs:=Sh.of hL
 have hl:=h.Vars.1
 refine Fa d.Vars _ hs.vars s (fun self s i x hx hi mem=>?_) (fun self s=>by rw [Ug]; simp only [Zi,Ze,cond_true,cond_false,Zg,ZR,Zd,Zw,condC,Zj,Zk,Zx,Yr,Yt,ZZ])
 have hm:=ZiA (fun v:Q8=>v.Name) (fun x=>by cases x; simp; omega) mem
 have hn:=Xg L x.Name (by have:=(h.Vars.2 x mem).Name; unfold Len; omega) (by omega)
 rw [Ug]
 simp only [Zi,cond_true,Zg,ZR,ZZ,Jo,hi,hx,hn]
 simp only [Zi,Ze,cond_true,cond_false,Zg,ZR,Zd,Zw,condC,Zj,Zk,Zx,Yr,Yt,ZZ,Zcn,ZkF,wrap_succ hi (by omega)]
 simp only [ZV,JF]
 by_cases a:(Yo x.Name s).1=0 <;> rcases Bool.eq_false_or_eq_true (btw x.Ty 1 3) with g | g <;> rcases Bool.eq_false_or_eq_true (fitsT x.Ty x.N) with g' | g' <;> simp [a,g,g']
theorem ZtN (L:Nat)(h1:100≤L)(d:Zb)(h:ZQ d)(hL:SizeOf.sizeOf d≤L)(s:Seen):Z9 (Uh d L) L (0,s,())=some ((Yy (fun v:Zp=>ZV v.Name (ZiQ d v)) d.Resources s).1,(Yy (fun v:Zp=>ZV v.Name (ZiQ d v)) d.Resources s).2,()):=by
 have hz:=Jg d
 have hs:=Sh.of hL
 have hl:=h.Resources.1
 refine Fa d.Resources _ hs.res s (fun self s i x hx hi mem=>?_) (fun self s=>by rw [Uh]; simp only [Zi,Ze,cond_true,cond_false,Zg,ZR,Zd,Zw,condC,Zj,Zk,Zx,Yr,Yt,ZZ])
 have hm:=ZiA (fun v:Zp=>v.Name) (fun x=>by cases x; simp; omega) mem
 have ok:=h.Resources.2 x mem
 have hx2:SizeOf.sizeOf x.Fault < SizeOf.sizeOf x∧SizeOf.sizeOf x.Shift < SizeOf.sizeOf x:=by cases x; simp; omega
 have hsh:=ZO x.Shift
 have hn:=Xg L x.Name (by have:=ok.Name; unfold Len; omega) (by omega)
 rw [Uh]
 simp only [Zi,cond_true,Zg,ZR,ZZ,Jo,hi,hx,hn]
 simp only [Zi,Ze,cond_true,cond_false,Zg,ZR,Zd,Zw,condC,Zj,Zk,Zx,Yr,Yt,ZZ,VA,Ziq L x ok (by omega),Zin L d h hL x.Fault ok.Fault (by omega) h1,wrap_succ hi (by omega)]
 simp only [ZV,ZiQ]
 by_cases a:(Yo x.Name s).1=0 <;> rcases Bool.eq_false_or_eq_true (btw x.Units 0 1000) with g | g <;> by_cases b:Zl9 x=0 <;> simp [a,g,b]
theorem ZtR (L:Nat)(d:Zb)(h:ZQ d)(hL:SizeOf.sizeOf d≤L)(s:Seen):Z9 (Ui d L) L (0,s,())=some ((Yy (fun v:Yw=>ZV v.Name (OO v)) d.Stores s).1,(Yy (fun v:Yw=>ZV v.Name (OO v)) d.Stores s).2,()):=by
 have hz:=Jg d
 have hs:=Sh.of hL
 have hl:=h.Stores.1
 refine Fa d.Stores _ hs.sto s (fun self s i x hx hi mem=>?_) (fun self s=>by rw [Ui]; simp only [Zi,Ze,cond_true,cond_false,Zg,ZR,Zd,Zw,condC,Zj,Zk,Zx,Yr,Yt,ZZ])
 have hm:=ZiA (fun v:Yw=>v.Name) (fun x=>by cases x; simp; omega) mem
 have hn:=Xg L x.Name (by have:=(h.Stores.2 x mem).Name; unfold Len; omega) (by omega)
 rw [Ui]
 simp only [Zi,cond_true,Zg,ZR,ZZ,Jo,hi,hx,hn]
 simp only [Zi,Ze,cond_true,cond_false,Zg,ZR,Zd,Zw,condC,Zj,Zk,Zx,Yr,Yt,ZZ,VA,wrap_succ hi (by omega)]
 simp only [ZV,OO]
 by_cases a:(Yo x.Name s).1=0 <;> rcases Bool.eq_false_or_eq_true (btw x.Room 1 1000) with g | g <;> by_cases b:x.Policy < 1 <;> by_cases c:3 < x.Policy <;> simp [a,g,b,c]
theorem ZtK (L:Nat)(d:Zb)(h:ZQ d)(hL:SizeOf.sizeOf d≤L)(s:Seen):Z9 (Uj d L) L (0,s,())=some ((Yy (fun v:YU=>ZV v.Name (EQ v)) d.Belts s).1,(Yy (fun v:YU=>ZV v.Name (EQ v)) d.Belts s).2,()):=by
 have hz:=Jg d
 have hs:=Sh.of hL
 have hl:=h.Belts.1
 refine Fa d.Belts _ hs.bel s (fun self s i x hx hi mem=>?_) (fun self s=>by rw [Uj]; simp only [Zi,Ze,cond_true,cond_false,Zg,ZR,Zd,Zw,condC,Zj,Zk,Zx,Yr,Yt,ZZ])
 have hm:=ZiA (fun v:YU=>v.Name) (fun x=>by cases x; simp; omega) mem
 have hn:=Xg L x.Name (by have:=(h.Belts.2 x mem).Name; unfold Len; omega) (by omega)
 rw [Uj]
 simp only [Zi,cond_true,Zg,ZR,ZZ,Jo,hi,hx,hn]
 simp only [Zi,Ze,cond_true,cond_false,Zg,ZR,Zd,Zw,condC,Zj,Zk,Zx,Yr,Yt,ZZ,VA,wrap_succ hi (by omega)]
 simp only [ZV,EQ]
 by_cases a:(Yo x.Name s).1=0 <;> rcases Bool.eq_false_or_eq_true (btw x.Length 1 1000) with g | g <;> rcases Bool.eq_false_or_eq_true (btw x.Step 1 1000) with g' | g' <;> simp [a,g,g']
theorem ZtO (L:Nat)(h1:100≤L)(d:Zb)(h:ZQ d)(hL:SizeOf.sizeOf d≤L)(s:Seen):Z9 (Ul d L) L (0,s,())=some ((Yy (fun v:Yc=>ZV v.Name (X9 v)) d.Routines s).1,(Yy (fun v:Yc=>ZV v.Name (X9 v)) d.Routines s).2,()):=by
 have hz:=Jg d
 have hs:=Sh.of hL
 have hl:=h.Routines.1
 refine Fa d.Routines _ hs.rou s (fun self s i x hx hi mem=>?_) (fun self s=>by rw [Ul]; simp only [Zi,Ze,cond_true,cond_false,Zg,ZR,Zd,Zw,condC,Zj,Zk,Zx,Yr,Yt,ZZ])
 have hm:=ZiA (fun v:Yc=>v.Name) (fun x=>by cases x; simp; omega) mem
 have ok:=h.Routines.2 x mem
 have hn:=Xg L x.Name (by have:=ok.Name; unfold Len; omega) (by omega)
 rw [Ul]
 simp only [Zi,cond_true,Zg,ZR,ZZ,Jo,hi,hx,hn]
 simp only [Zi,Ze,cond_true,cond_false,Zg,ZR,Zd,Zw,condC,Zj,Zk,Zx,Yr,Yt,ZZ,ZkJ L h1 x ok (by omega),wrap_succ hi (by omega)]
 simp only [ZV]
 by_cases a:(Yo x.Name s).1=0 <;> simp [a]
theorem ZtQ (L:Nat)(d:Zb)(h:ZQ d)(hL:SizeOf.sizeOf d≤L)(s:Seen):Z9 (QY d L) L (0,s,())=some (J7 (Dw d) d.Starts,s,()):=by
 have hz:=Jg d
 have hs:=Sh.of hL
 have hl:=h.Starts.1
 have:=Fa (f := QY d L) d.Starts (fun x s=>(Dw d x,s)) hs.sta s (fun self s i x hx hi mem=>by
  have hm:=ZiA (fun v:J3=>v.Routine) (fun x=>by cases x; simp; omega) mem
  have hx2:SizeOf.sizeOf x.Args < SizeOf.sizeOf x:=by cases x; simp; omega
  have ha:=ZO x.Args
  rw [QY]
  simp only [Zi,Ze,cond_true,cond_false,Zg,ZR,Zd,Zw,condC,Zj,Zk,Zx,Yr,Yt,ZZ,hi,hx,ZpT L d h hs.rou x (h.Starts.2 x mem) (by omega),wrap_succ hi (by omega)]) (fun self s=>by rw [QY]; simp only [Zi,Ze,cond_true,cond_false,Zg,ZR,Zd,Zw,condC,Zj,Zk,Zx,Yr,Yt,ZZ])
 rw [Rq] at this
 exact this
theorem OH {σ:Type}(P:Int×σ)(r:List (σ→Int×σ)){X:Option (Int×σ×PUnit)}(h:X=some ((Zbr r P.2).1,(Zbr r P.2).2,()))(f:σ→Int×σ)(s:σ)(hP:f s=P):(bif P.1 != 0 then some (P.1,P.2,()) else X)=some ((Zbr (f :: r) s).1,(Zbr (f :: r) s).2,()):=by
 subst h; subst hP
 rw [Zbr]
 by_cases c:(f s).1=0 <;> simp [c,ZZ]
theorem Zss (L:Nat)(h1:100≤L)(d:Zb)(h:ZQ d)(hL:SizeOf.sizeOf d≤L):KE L (d,())=some (TP d):=by
 have hz:=Jg d
 have e0:=fun s=>VW 32 (fun v:Q8=>ZV v.Name (JF v)) d.Vars s (Zry L d h hL s)
 have e1:=fun s=>VW 32 (fun v:Zp=>ZV v.Name (ZiQ d v)) d.Resources s (ZtN L h1 d h hL s)
 have e2:=fun s=>VW 32 (fun v:Yw=>ZV v.Name (OO v)) d.Stores s (ZtR L d h hL s)
 have e3:=fun s=>VW 32 (fun v:YU=>ZV v.Name (EQ v)) d.Belts s (ZtK L d h hL s)
 have e4:=fun s=>VW 32 Yo d.Queues s (ZjY L d h.Queues (by omega) s)
 have e5:=fun s:Seen=>VW 32 Yo d.Streams s (show Z9 (BP d L) L (0,s,())=_ from ZjY L { d with Queues:=d.Streams } h.Streams (show SizeOf.sizeOf d.Streams≤L by omega) s)
 have e6:=fun s:Seen=>VW 32 Yo d.Tallies s (show Z9 (BQ d L) L (0,s,())=_ from ZjY L { d with Queues:=d.Tallies } h.Tallies (show SizeOf.sizeOf d.Tallies≤L by omega) s)
 have e7:=fun s:Seen=>VW 32 Yo d.Levels s (show Z9 (BR d L) L (0,s,())=_ from ZjY L { d with Queues:=d.Levels } h.Levels (show SizeOf.sizeOf d.Levels≤L by omega) s)
 have e8:=fun s:Seen=>VW 32 Yo d.Counts s (show Z9 (BU d L) L (0,s,())=_ from ZjY L { d with Queues:=d.Counts } h.Counts (show SizeOf.sizeOf d.Counts≤L by omega) s)
 have e9:=fun s=>VW 16 (fun v:Yc=>ZV v.Name (X9 v)) d.Routines s (ZtO L h1 d h hL s)
 have ea:∀ s:Seen,(bif decide ((d.Starts.length:Int) > 32) then some (6,s,()) else Z9 (QY d L) L (0,s,()))=some (ZbE 32 (Dw d) d.Starts,s,()):=fun s=>by
  rw [ZtQ L d h hL s]; unfold ZbE; by_cases c:32 < (d.Starts.length:Int) <;> simp [c]
 rw [Zej]
 simp only [e0,e1,e2,e3,e4,e5,e6,e7,e8,e9,ea,ZR,Zso L d h hL]
 have fin:∀ s:Seen,(bif SC d != 0 then some (SC d,s,()) else some (0,s,()))=some ((Zbr [fun s:Seen=>(SC d,s)] s).1,(Zbr [fun s:Seen=>(SC d,s)] s).2,()):=fun s=>by
  rw [Zbr,Zbr,ZZ]; by_cases c:SC d=0 <;> simp [c]
 have key:=OH _ _ (OH _ _ (OH _ _ (OH _ _ (OH _ _ (OH _ _ (OH _ _ (OH _ _ (OH _ _ (OH _ _ (OH (ZbE 32 (Dw d) d.Starts,_) _ (fin _) (fun s=>(ZbE 32 (Dw d) d.Starts,s)) _ rfl) (WC 16 (fun v:Yc=>ZV v.Name (X9 v)) d.Routines) _ rfl) (WC 32 Yo d.Counts) _ rfl) (WC 32 Yo d.Levels) _ rfl) (WC 32 Yo d.Tallies) _ rfl) (WC 32 Yo d.Streams) _ rfl) (WC 32 Yo d.Queues) _ rfl) (WC 32 (fun v:YU=>ZV v.Name (EQ v)) d.Belts) _ rfl) (WC 32 (fun v:Yw=>ZV v.Name (OO v)) d.Stores) _ rfl) (WC 32 (fun v:Zp=>ZV v.Name (ZiQ d v)) d.Resources) _ rfl) (WC 32 (fun v:Q8=>ZV v.Name (JF v)) d.Vars) ([]:Seen) rfl
 exact (congrArg (fun o:Option (Int×Seen×PUnit)=>bT o fun y=>some y.1) key).trans rfl
end Go.Proofs.YthkdlifcknpadaaGreat
end
section
namespace Go.Proofs.YthkdlifcknpadaaGreat
open Go Go.Proofs.YthkdlifcknpadaaGreat.Abs Go.Proofs.YthkdlifcknpadaaGreat.Tl
set_option maxRecDepth 100000
theorem Gw (L:Nat)(a b c:Int):WA L (a,b,c,())=some (btw a b c):=Zeq L a b c
theorem Pz (L:Nat)(a b:Int):Qr L (a,b,())=some (VQ a b):=by
 simp only [Zi,Ze,cond_true,cond_false,Zg,ZR,Zd,Zw,condC,Zj,Zk,Zx,Yr,Yt,ZZ,ZfY,VQ]; simp only [Wj,Ja,if_true,if_false,Bool.false_eq_true,ne_eq,decide_not,gt_iff_lt,ge_iff_le]
theorem GY (L:Nat)(a:Bool)(b:Int):YC L (a,b,())=some (Qe a b):=by
 simp only [Zi,Ze,cond_true,cond_false,Zg,ZR,Zd,Zw,condC,Zj,Zk,Zx,Yr,Yt,ZZ,Zep,Qe]; simp only [Wj,Ja,if_true,if_false,Bool.false_eq_true,ne_eq,decide_not,gt_iff_lt,ge_iff_le]
theorem ZkE (L:Nat)(t:Int):UR L (t,())=some (ZeJ t):=ZfX L t
theorem Zsh (L:Nat)(t n:Int):TJ L (t,n,())=some (fitsT t n):=by
 simp only [Zi,Ze,cond_true,cond_false,Zg,ZR,Zd,Zw,condC,Zj,Zk,Zx,Yr,Yt,ZZ,Ziy,Zsr,Gw,fitsT]; simp only [Wj,Ja,if_true,if_false,Bool.false_eq_true,ne_eq,decide_not,gt_iff_lt,ge_iff_le]
theorem ZgW (s:List UInt8)(l:List (List UInt8)):decide (GV (fun k=>decide (k=s)) l 0 < 0)=!(l.contains s):=by
 have:=AB (fun x:List UInt8=>x) s l
 rw [List.map_id'] at this
 rw [← this,show decide (GV (fun k=>decide (k=s)) l 0 < 0)=!decide (GV (fun k=>decide (k=s)) l 0 ≥ 0) by rw [← decide_not]; congr 1; exact propext Int.not_le.symm]
theorem Zhr (L:Nat)(h1:100≤L)(s:List UInt8)(seen:Seen)(hs:Len s)(hsL:s.length < L)(hl:Len seen)(hL:seen.length < L):UT L (s,seen,())=some (Nw s seen):=by
 simp only [Zi,Ze,cond_true,cond_false,Zg,ZR,Zd,Zw,condC,Zj,Zk,Zx,Yr,Yt,ZZ,ZfZ,Tt L s hs hsL h1,ZkC L seen s hl hL,GY,Pz,ZgW,Nw]
theorem apS {l:List (List UInt8)}{a:List UInt8}(h:l.length≤8000000000000):apT 16 l [a]=some (l ++ [a]):=by unfold apT; rw [if_pos (by simp only [List.length_cons,List.length_nil]; omega)]
theorem Zkj {α τ ρ:Type}{f:(τ→Option ρ)→τ→Option ρ}(l:List α)(nm:α→List UInt8)(pk:List (List UInt8)→Int→τ)(o:Option ρ){m:Nat}(hm:l.length < m)
  (h1:∀ self s (i:Nat) x,l[i]? = some x→i < l.length→s.length≤i→f self (pk s i)=self (pk (s ++ [nm x]) ((i:Int) + 1)))
  (h2:∀ self,f self (pk (l.map nm) (l.length:Nat))=o):Z9 f m (pk [] 0)=o:=by
 have key:∀ (m i:Nat),i≤l.length→l.length - i < m→Z9 f m (pk ((l.take i).map nm) i)=o:=by
  intro m
  induction m with
  | zero=>intro i _ h; exact absurd h (Nat.not_lt_zero _)
  | succ m ih =>
   intro i hi hm
   show f (Z9 f m) _=_
   rcases Nat.lt_or_ge i l.length with hlt | hge
   ·have hx:=List.getElem?_eq_getElem hlt
    rw [h1 _ _ i _ hx hlt (by rw [List.length_map,List.length_take]; omega),← ih (i + 1) hlt (by omega)]
    rw [List.take_succ,hx,List.map_append]; rfl
   ·have:i=l.length:=by omega
    subst this
    rw [List.take_length,h2]
 exact key m 0 (Nat.zero_le _) (by omega)
theorem ZpL (L:Nat)(d:Zb)(h:ZQ d)(hs:Sh L d):Ie L (d,())=some ((ZjX d).map (·.2)):=by
 have a1:=h.Vars.1; have a2:=h.Resources.1; have a3:=h.Stores.1; have a4:=h.Belts.1; have a5:=h.Routines.1
 rw [ZfW]
 refine Zkj d.Vars (·.Name) (fun s i=>(i,s,[],[],[],[],[],[],[],[],[],())) _ hs.vars (fun self s i x hx hi hsl=>by
  rw [O9]; simp only [Zi,Ze,cond_true,cond_false,Zg,ZR,Zd,Zw,condC,Zj,Zk,Zx,Yr,Yt,ZZ,hi,hx,wrap_succ hi (by omega),apS (show s.length≤8000000000000 by omega)]) (fun self=>?_)
 rw [O9]; simp only [Zi,Ze,cond_true,cond_false,Zg,ZR,Zd,Zw,condC,Zj,Zk,Zx,Yr,Yt,ZZ]
 refine Zkj d.Resources (·.Name) (fun s i=>(i,_,s,[],[],[],[],[],[],[],[],())) _ hs.res (fun self s i x hx hi hsl=>by
  rw [O8]; simp only [Zi,Ze,cond_true,cond_false,Zg,ZR,Zd,Zw,condC,Zj,Zk,Zx,Yr,Yt,ZZ,hi,hx,wrap_succ hi (by omega),apS (show s.length≤8000000000000 by omega)]) (fun self=>?_)
 rw [O8]; simp only [Zi,Ze,cond_true,cond_false,Zg,ZR,Zd,Zw,condC,Zj,Zk,Zx,Yr,Yt,ZZ]
 refine Zkj d.Stores (·.Name) (fun s i=>(i,_,_,s,[],[],[],[],[],[],[],())) _ hs.sto (fun self s i x hx hi hsl=>by
  rw [O7]; simp only [Zi,Ze,cond_true,cond_false,Zg,ZR,Zd,Zw,condC,Zj,Zk,Zx,Yr,Yt,ZZ,hi,hx,wrap_succ hi (by omega),apS (show s.length≤8000000000000 by omega)]) (fun self=>?_)
 rw [O7]; simp only [Zi,Ze,cond_true,cond_false,Zg,ZR,Zd,Zw,condC,Zj,Zk,Zx,Yr,Yt,ZZ]
 refine Zkj d.Belts (·.Name) (fun s i=>(i,_,_,_,s,[],[],[],[],[],[],())) _ hs.bel (fun self s i x hx hi hsl=>by
  rw [O6]; simp only [Zi,Ze,cond_true,cond_false,Zg,ZR,Zd,Zw,condC,Zj,Zk,Zx,Yr,Yt,ZZ,hi,hx,wrap_succ hi (by omega),apS (show s.length≤8000000000000 by omega)]) (fun self=>?_)
 rw [O6]; simp only [Zi,Ze,cond_true,cond_false,Zg,ZR,Zd,Zw,condC,Zj,Zk,Zx,Yr,Yt,ZZ]
 refine Zkj d.Routines (·.Name) (fun s i=>(i,_,_,_,_,_,_,_,_,_,s,())) _ hs.rou (fun self s i x hx hi hsl=>by
  rw [O5]; simp only [Zi,Ze,cond_true,cond_false,Zg,ZR,Zd,Zw,condC,Zj,Zk,Zx,Yr,Yt,ZZ,hi,hx,wrap_succ hi (by omega),apS (show s.length≤8000000000000 by omega)]) (fun self=>?_)
 rw [O5]; simp only [Zi,Ze,cond_true,cond_false,Zg,ZR,Zd,Zw,condC,Zj,Zk,Zx,Yr,Yt,ZZ]
 rfl
end Go.Proofs.YthkdlifcknpadaaGreat
end
section
namespace Go.Proofs.YthkdlifcknpadaaGreat
open Go Go.Proofs.YthkdlifcknpadaaGreat.Abs Go.Proofs.YthkdlifcknpadaaGreat.Tl
set_option maxRecDepth 100000
theorem Zr6 {α τ:Type}{f:(τ→Option Int)→τ→Option Int}(pk:Seen→Int→τ)(l:List α)(step:α→Seen→Int×Seen)(c:Nat)(e:Seen→Option Int){m:Nat}(hm:l.length < m)
  (hst:∀ x s,(step x s).2.length≤s.length + 1)
  (h1:∀ self s (i:Nat) x,l[i]? = some x→i < l.length→x ∈ l→s.length≤c + i→f self (pk s i)=bif !decide ((step x s).1=0) then some (step x s).1 else self (pk (step x s).2 ((i:Int) + 1)))
  (h2:∀ self s,s.length≤c + l.length→f self (pk s (l.length:Nat))=e s) (s:Seen) (hs:s.length≤c):Z9 f m (pk s 0)=if decide ((Yy step l s).1≠0)=true then some (Yy step l s).1 else e (Yy step l s).2:=by
 have key:∀ (m i:Nat) (s:Seen),i≤l.length→l.length - i < m→s.length≤c + i→Z9 f m (pk s i)=if decide ((Yy step (l.drop i) s).1≠0)=true then some (Yy step (l.drop i) s).1 else e (Yy step (l.drop i) s).2:=by
  intro m
  induction m with
  | zero=>intro i s _ h; exact absurd h (Nat.not_lt_zero _)
  | succ m ih =>
   intro i s hi hm hsl
   show f (Z9 f m) _=_
   rcases Nat.lt_or_ge i l.length with hlt | hge
   ·have hx:=List.getElem?_eq_getElem hlt
    have:=ih (i + 1) (step l[i] s).2 hlt (by omega) (by have:=hst l[i] s; omega)
    rw [h1 _ s i _ hx hlt (List.getElem_mem hlt) hsl,List.drop_eq_getElem_cons hlt,Yy,show ((i:Int) + 1)=((i + 1:Nat):Int) from rfl,this]
    by_cases z:(step l[i] s).1=0 <;> simp [z]
   ·have:i=l.length:=by omega
    subst this
    rw [List.drop_length,h2 _ s hsl]; rfl
 exact key m 0 s (Nat.zero_le _) (by omega) (by omega)
theorem ZeP (s:List UInt8)(r:Int)(seen:Seen):(ZV s r seen).2.length≤seen.length + 1:=by
 have h:(Yo s seen).2.length≤seen.length + 1:=by
  unfold Yo
  split
  ·exact Nat.le_succ _
  ·split
   ·exact Nat.le_succ _
   ·simp
 unfold ZV
 split <;> exact h
end Go.Proofs.YthkdlifcknpadaaGreat
end
section
namespace Go.Proofs.YthkdlifcknpadaaGreat
open Go Go.Proofs.YthkdlifcknpadaaGreat.Abs Go.Proofs.YthkdlifcknpadaaGreat.Tl
set_option maxRecDepth 100000
theorem ZeQ {s:List UInt8}{r:Int}{seen:Seen}(h:(ZV s r seen).1=0):(ZV s r seen).2=seen ++ [s]:=(Zqz h).1
theorem Zip (L:Nat)(h1:100≤L)(r:Yc)(h:KZ r)(hL:SizeOf.sizeOf r≤L):Uu L (r,())=some (X9 r):=by
 have hz:=Zon r
 have hp:=h.p
 have hw:IntKind.i64.wrap ((r.Params.length:Int) + (r.Locals.length:Int))=(r.Params.length:Int) + (r.Locals.length:Int):=wrap_in (by omega) (by omega)
 rw [Zc6,hw,X9]
 by_cases hc:6 < (r.Params.length:Int)∨16 < (r.Params.length:Int) + (r.Locals.length:Int)
 ·rw [if_pos (by simpa using hc),show (decide ((r.Params.length:Int) > 6) || decide ((r.Params.length:Int) + (r.Locals.length:Int) > 16))=true by simpa using hc]; rfl
 ·have hf:(decide ((r.Params.length:Int) > 6) || decide ((r.Params.length:Int) + (r.Locals.length:Int) > 16))=false:=by
   simp only [Bool.or_eq_false_iff,decide_eq_false_iff_not]; omega
  have hf':¬ ((decide (6 < (r.Params.length:Int)) || decide (16 < (r.Params.length:Int) + (r.Locals.length:Int)))=true):=by simpa using hc
  have hlen:(r.Params ++ r.Locals).length≤16:=by rw [List.length_append]; omega
  have p1:apT 24 [] r.Params=some r.Params:=by unfold apT; rw [if_pos (by simp only [List.length_nil]; omega)]; rfl
  have p2:apT 24 r.Params r.Locals=some (r.Params ++ r.Locals):=by unfold apT; rw [if_pos (by omega)]
  rw [if_neg hf',hf,cond_false,p1,ZR,p2,ZR]
  rw [Zr6 (f := Ju r L (r.Params ++ r.Locals)) (fun s i=>(s,i,())) (r.Params ++ r.Locals) (fun f:WF=>ZV f.Name (Am f)) 0 (fun _=>some (Ns r.Body)) (by omega) (fun x s=>ZeP _ _ _) (fun self s i x hx hi mem hsl=>by
   have ok:Eo x∧x.Name.length < L:=by
    rcases List.mem_append.1 mem with m | m
    ·exact ⟨h.Params.2 x m,by have:=Zti m; omega⟩
    ·exact ⟨h.Locals.2 x m,by have:=Zti m; omega⟩
   have hn:=Zhr L h1 x.Name s (by have:=ok.1.Name; unfold Len; omega) ok.2 (by unfold Len; omega) (by omega)
   rw [Ju]
   simp only [Zi,Ze,cond_true,cond_false,Zg,ZR,Zd,Zw,condC,Zj,Zk,Zx,Yr,Yt,ZZ,hi,hx,hn,ZkE,GY,Pz,Zrb,apS (show s.length≤8000000000000 by omega),wrap_succ hi (by omega)]
   rw [← Zgy]
   by_cases c:(ZV x.Name (Am x) s).1=0
   ·rw [ZeQ c]
   ·simp [c]) (fun self s hsl=>by
   rw [Ju]; simp only [Zi,Ze,cond_true,cond_false,Zg,ZR,Zd,Zw,condC,Zj,Zk,Zx,Yr,Yt,ZZ,ZkK L h1 r.Body h.p.2.2 (by omega)]) [] (Nat.le_refl _)]
  rw [Ja]; rfl
theorem Zgj (L:Nat)(d:Zp)(h:Wi d)(hL:d.Shift.length < L)(hc:IntKind.i64.wrap (d.Cycle - 1)=d.Cycle - 1):Z9 (Xt d L) L (0,())=some (ZlA d.Cycle none d.Shift):=by
 have hl:=h.s
 refine Zkk (f := Xt d L) d.Shift.length (fun i=>(i,())) (fun i=>some (ZlA d.Cycle (Zcu d.Shift i) (d.Shift.drop i))) (fun self i hi e=>?_) (fun self=>?_) L 0 (Nat.zero_le _) (by omega)
 ·have hx:=List.getElem?_eq_getElem hi
  rw [List.drop_eq_getElem_cons hi,ZlA]
  rw [show Zcu d.Shift (i + 1)=some (d.Shift[i].At_) by rw [Zcu,hx]; rfl] at e
  rw [Xt]
  simp only [Zi,Ze,cond_true,cond_false,Zg,ZR,Zd,Zw,condC,Zj,Zk,Zx,Yr,Yt,ZZ,hi,hx,Gw,wrap_succ hi (by omega),e,hc,ZkP _ _ _ hi hl]; simp only [Wj,Ja,if_true,if_false,Bool.false_eq_true,ne_eq,decide_not,gt_iff_lt,ge_iff_le]
 ·rw [Xt]; simp only [Zi,Ze,cond_true,cond_false,Zg,ZR,Zd,Zw,condC,Zj,Zk,Zx,Yr,Yt,ZZ,List.drop_length,ZlA]
theorem ZfB (L:Nat)(d:Zp)(h:Wi d)(hL:d.Shift.length < L):Jw L (d,())=some (Zl9 d):=by
 simp only [Zi,Ze,cond_true,cond_false,Zg,ZR,Zd,Zw,condC,Zj,Zk,Zx,Yr,Yt,ZZ,Zaw,Gw,GY,Zl9]
 by_cases hc:btw d.Cycle 1 1000000000=true
 ·have:=Zgj L d h hL (by simp only [btw,Bool.and_eq_true,decide_eq_true_eq] at hc; exact wrap_in (by omega) (by omega))
  rw [this]; simp only [Wj,Ja,if_true,if_false,Bool.false_eq_true,ne_eq,decide_not,gt_iff_lt,ge_iff_le,Qe]
  by_cases a:d.Cycle=0 <;> simp [a]
 ·rw [Bool.not_eq_true] at hc
  simp only [Wj,Ja,if_true,if_false,Bool.false_eq_true,ne_eq,decide_not,gt_iff_lt,ge_iff_le,hc,Bool.not_false,Qe]
  by_cases a:d.Cycle=0 <;> simp [a]
theorem Zio (L:Nat)(h1:100≤L)(d:Zb)(h:ZQ d)(hs:Sh L d)(x:Zp)(ok:Wi x)(hx:SizeOf.sizeOf x≤L):Jy L (d,x,())=some (ZiQ d x):=by
 have hx2:SizeOf.sizeOf x.Fault < SizeOf.sizeOf x∧SizeOf.sizeOf x.Shift < SizeOf.sizeOf x∧SizeOf.sizeOf x.Fault.Up < SizeOf.sizeOf x.Fault∧SizeOf.sizeOf x.Fault.Down < SizeOf.sizeOf x.Fault:=by
  obtain ⟨a,b,c,d,⟨e,f,g⟩⟩:=x; simp; omega
 have hsh:=ZO x.Shift
 have hst:=h.st
 rw [← Zqh]
 simp only [Zi,Ze,cond_true,cond_false,Zg,ZR,Zd,Zw,condC,Zj,Zk,Zx,Yr,Yt,ZZ,Zax,Gw,GY,Pz,ZfB L x ok (by omega),Zcp L x.Fault.Up _ ok.Fault.Up (by omega),Zcp L x.Fault.Down _ ok.Fault.Down (by omega),Tj,ZkC L d.Streams x.Fault.Stream (by unfold Len; omega) hs.str,P5 L x.Fault.Up ok.Fault.Up (by omega),P5 L x.Fault.Down ok.Fault.Down (by omega),ZgW,Zul]; simp only [Wj,Ja,if_true,if_false,Bool.false_eq_true,ne_eq,decide_not,gt_iff_lt,ge_iff_le]
theorem Zsi (L:Nat)(d:Zb)(j:Nat)(x:Q8)(hx:d.Vars[j]? = some x):Wl L (d,0,(j:Int),())=some (JF x):=by
 rw [Xa]; simp only [Zi,Ze,cond_true,cond_false,Zg,ZR,Zd,Zw,condC,Zj,Zk,Zx,Yr,Yt,ZZ,hx,Int.reduceEq,decide_true,decide_false,ZkE,GY,Zsh,Pz,valueR]
theorem Zsj (L:Nat)(h1:100≤L)(d:Zb)(h:ZQ d)(hL:SizeOf.sizeOf d≤L)(j:Nat)(x:Zp)(hx:d.Resources[j]? = some x):Wl L (d,1,(j:Int),())=some (ZiQ d x):=by
 have hz:=Jg d
 have mem:=List.mem_of_getElem? hx
 have hm:=List.sizeOf_lt_of_mem mem
 rw [Xa]; simp only [Zi,Ze,cond_true,cond_false,Zg,ZR,Zd,Zw,condC,Zj,Zk,Zx,Yr,Yt,ZZ,hx,Int.reduceEq,decide_true,decide_false,Zio L h1 d h (Sh.of hL) x (h.Resources.2 x mem) (by omega)]
theorem Zsk (L:Nat)(d:Zb)(j:Nat)(x:Yw)(hx:d.Stores[j]? = some x):Wl L (d,2,(j:Int),())=some (OO x):=by
 rw [Xa]; simp only [Zi,Ze,cond_true,cond_false,Zg,ZR,Zd,Zw,condC,Zj,Zk,Zx,Yr,Yt,ZZ,hx,Int.reduceEq,decide_true,decide_false,Gw,GY,Pz,ge_iff_le,ZsP]
theorem Zsl (L:Nat)(d:Zb)(j:Nat)(x:YU)(hx:d.Belts[j]? = some x):Wl L (d,3,(j:Int),())=some (EQ x):=by
 rw [Xa]; simp only [Zi,Ze,cond_true,cond_false,Zg,ZR,Zd,Zw,condC,Zj,Zk,Zx,Yr,Yt,ZZ,hx,Int.reduceEq,decide_true,decide_false,Gw,GY,Ztx]
theorem Zsm (L:Nat)(h1:100≤L)(d:Zb)(h:ZQ d)(hL:SizeOf.sizeOf d≤L)(j:Nat)(x:Yc)(hx:d.Routines[j]? = some x):Wl L (d,9,(j:Int),())=some (X9 x):=by
 have hz:=Jg d
 have mem:=List.mem_of_getElem? hx
 have hm:=List.sizeOf_lt_of_mem mem
 have e:=Zip L h1 x (h.Routines.2 x mem) (by omega)
 generalize X9 x=z at e ⊢
 rw [Xa,show ((9:Int) == 0)=false from rfl,show ((9:Int) == 1)=false from rfl,show ((9:Int) == 2)=false from rfl,show ((9:Int) == 3)=false from rfl,show ((9:Int) == 9)=true from rfl,cond_false,cond_false,cond_false,cond_false,cond_true,Zg,hx,ZR,e,ZR]
theorem ZdV (L:Nat)(d:Zb)(k j:Int)(h:k=4∨k=5∨k=6∨k=7∨k=8):Wl L (d,k,j,())=some 0:=by
 rw [Xa]; rcases h with rfl | rfl | rfl | rfl | rfl <;> simp only [Zi,Ze,cond_true,cond_false,Zg,ZR,Zd,Zw,condC,Zj,Zk,Zx,Yr,Yt,ZZ,Int.reduceEq,decide_true,decide_false]
end Go.Proofs.YthkdlifcknpadaaGreat
end
section
namespace Go.Proofs.YthkdlifcknpadaaGreat
open Go Go.Proofs.YthkdlifcknpadaaGreat.Abs Go.Proofs.YthkdlifcknpadaaGreat.Tl
set_option maxRecDepth 100000
theorem Zim (L:Nat)(h1:100≤L)(d:Zb)(h:ZQ d)(hL:SizeOf.sizeOf d≤L)(k:Nat)(p:Int×List (List UInt8×Int))(hp:(JO d)[k]? = some p)(j:Nat)(q:List UInt8×Int)(hq:p.2[j]? = some q):Wl L (d,(k:Int),(j:Int),())=some q.2:=by
 rcases k with _ | _ | _ | _ | _ | _ | _ | _ | _ | _ | k
 ·obtain rfl:=Option.some.inj hp; obtain ⟨x,hx,rfl⟩:=KX hq; exact Zsi L d j x hx
 ·obtain rfl:=Option.some.inj hp; obtain ⟨x,hx,rfl⟩:=KX hq; exact Zsj L h1 d h hL j x hx
 ·obtain rfl:=Option.some.inj hp; obtain ⟨x,hx,rfl⟩:=KX hq; exact Zsk L d j x hx
 ·obtain rfl:=Option.some.inj hp; obtain ⟨x,hx,rfl⟩:=KX hq; exact Zsl L d j x hx
 ·obtain rfl:=Option.some.inj hp; obtain ⟨x,hx,rfl⟩:=KX hq; exact ZdV L d 4 j (by simp)
 ·obtain rfl:=Option.some.inj hp; obtain ⟨x,hx,rfl⟩:=KX hq; exact ZdV L d 5 j (by simp)
 ·obtain rfl:=Option.some.inj hp; obtain ⟨x,hx,rfl⟩:=KX hq; exact ZdV L d 6 j (by simp)
 ·obtain rfl:=Option.some.inj hp; obtain ⟨x,hx,rfl⟩:=KX hq; exact ZdV L d 7 j (by simp)
 ·obtain rfl:=Option.some.inj hp; obtain ⟨x,hx,rfl⟩:=KX hq; exact ZdV L d 8 j (by simp)
 ·obtain rfl:=Option.some.inj hp; obtain ⟨x,hx,rfl⟩:=KX hq; exact Zsm L h1 d h hL j x hx
 ·exact absurd hp (by simp [JO])
theorem ZhS (L:Nat)(d:Zb)(h:ZQ d)(hL:SizeOf.sizeOf d≤L):∀ p ∈ JO d,∀ q ∈ p.2,Len q.1∧q.1.length < L:=by
 have hz:=Jg d
 intro p hp q hq
 simp only [JO,List.mem_cons,List.not_mem_nil,or_false] at hp
 unfold Len
 rcases hp with rfl | rfl | rfl | rfl | rfl | rfl | rfl | rfl | rfl | rfl <;> obtain ⟨x,mem,rfl⟩:=List.mem_map.1 hq
 ·have:=ZiA (fun v:Q8=>v.Name) (fun x=>by cases x; simp; omega) mem; have:=(h.Vars.2 x mem).Name; simp only; omega
 ·have:=ZiA (fun v:Zp=>v.Name) (fun x=>by cases x; simp; omega) mem; have:=(h.Resources.2 x mem).Name; simp only; omega
 ·have:=ZiA (fun v:Yw=>v.Name) (fun x=>by cases x; simp; omega) mem; have:=(h.Stores.2 x mem).Name; simp only; omega
 ·have:=ZiA (fun v:YU=>v.Name) (fun x=>by cases x; simp; omega) mem; have:=(h.Belts.2 x mem).Name; simp only; omega
 ·have:=List.sizeOf_lt_of_mem mem; have:=ZO x; have:=h.Queues.2 x mem; simp only; omega
 ·have:=List.sizeOf_lt_of_mem mem; have:=ZO x; have:=h.Streams.2 x mem; simp only; omega
 ·have:=List.sizeOf_lt_of_mem mem; have:=ZO x; have:=h.Tallies.2 x mem; simp only; omega
 ·have:=List.sizeOf_lt_of_mem mem; have:=ZO x; have:=h.Levels.2 x mem; simp only; omega
 ·have:=List.sizeOf_lt_of_mem mem; have:=ZO x; have:=h.Counts.2 x mem; simp only; omega
 ·have:=ZiA (fun v:Yc=>v.Name) (fun x=>by cases x; simp; omega) mem; have:=(h.Routines.2 x mem).Name; simp only; omega
theorem inner (L:Nat)(h1:1000≤L)(d:Zb)(h:ZQ d)(hL:SizeOf.sizeOf d≤L)(k:Nat)(p:Int×List (List UInt8×Int))(hp:(JO d)[k]? = some p)(hl:p.2.length≤32)(hk:k < 10)(self:Int×List (List UInt8)×Int×PUnit→Option Int)(s0 s:Seen)(hs:s.length≤32 * k) :
  Z9 (UI d L ((JO d).map ZdN) self (0,s0,(k:Int),())) L (0,s,0,())=if decide ((Yy PH p.2 s).1≠0)=true then some (Yy PH p.2 s).1 else self (0,(Yy PH p.2 s).2,(k:Int) + 1,()):=by
 have hg:YH ((JO d).map ZdN) (k:Int)=some (ZdN p):=by rw [Zg,List.getElem?_map,hp]; rfl
 have hlen:(ZdN p).length=p.2.length:=by simp [ZdN]
 refine Zr6 (f := UI d L ((JO d).map ZdN) self (0,s0,(k:Int),())) (fun s i=>(0,s,i,())) p.2 PH (32 * k) (fun s=>self (0,s,(k:Int) + 1,())) (by omega) (fun x s=>ZeP _ _ _) (fun self1 s i x hx hi mem hsl=>?_) (fun self1 s hsl=>?_) s hs
 ·have hq:(ZdN p)[i]? = some x.1:=by unfold ZdN; rw [List.getElem?_map,hx]; rfl
  have hi':i < (ZdN p).length:=by omega
  have hnl:=ZhS L d h hL p (List.mem_of_getElem? hp) x mem
  have hn:=Zhr L (by omega) x.1 s hnl.1 hnl.2 (by unfold Len; omega) (by omega)
  have hd:=Zim L (by omega) d h hL k p hp i x hx
  rw [UI]
  simp only [hg,ZR]
  simp only [Zi,Ze,cond_true,cond_false,Zg,ZR,Zd,Zw,condC,Zj,Zk,Zx,Yr,Yt,ZZ,hi',hq,hn,hd,Pz,apS (show s.length≤8000000000000 by omega),wrap_in (show -9223372036854775808≤(i:Int) + 1 by omega) (by omega)]
  rw [← Zgy]
  show _=bif !decide ((ZV x.1 x.2 s).1=0) then some (ZV x.1 x.2 s).1 else self1 (0,(ZV x.1 x.2 s).2,(i:Int) + 1,())
  by_cases c:(ZV x.1 x.2 s).1=0
  ·rw [ZeQ c]
  ·simp [c]
 ·rw [UI,← hlen]
  simp only [hg,ZR]
  simp only [Zi,Ze,cond_true,cond_false,Zg,ZR,Zd,Zw,condC,Zj,Zk,Zx,Yr,Yt,ZZ,wrap_in (show -9223372036854775808≤(k:Int) + 1 by omega) (by omega)]
theorem outer (L:Nat)(h1:1000≤L)(d:Zb)(h:ZQ d)(hL:SizeOf.sizeOf d≤L)(E:Option Int)(hE:(bif decide ((d.Starts.length:Int) > 32) then some (6:Int) else Z9 (FO d L) L (0,0,()))=E):∀ (m k:Nat) (s:Seen),k≤10→10 - k < m→s.length≤32 * k →
  Z9 (UJ d L ((JO d).map ZdN)) m (0,s,(k:Int),())=if decide ((Zbr (((JO d).drop k).map stepD) s).1≠0)=true then some (Zbr (((JO d).drop k).map stepD) s).1 else E
 | 0,_,_,_,h,_=>absurd h (Nat.not_lt_zero _)
 | m + 1,k,s,hk,hm,hs=>by
  show UJ d L ((JO d).map ZdN) (Z9 (UJ d L ((JO d).map ZdN)) m) (0,s,(k:Int),())=_
  have hlen:(JO d).length=10:=rfl
  have hlm:((JO d).map ZdN).length=10:=by rw [List.length_map,hlen]
  rcases Nat.lt_or_ge k 10 with hlt | hge
  ·have hp:=List.getElem?_eq_getElem (show k < (JO d).length by omega)
   generalize (JO d)[k]=p at hp
   have hg:YH ((JO d).map ZdN) (k:Int)=some (ZdN p):=by rw [Zg,List.getElem?_map,hp]; rfl
   have hnl:(ZdN p).length=p.2.length:=by simp [ZdN]
   have hmost:=ZhR d k p hp
   have hdrop:(JO d).drop k=p :: (JO d).drop (k + 1):=by
    rw [List.drop_eq_getElem_cons (show k < (JO d).length by omega)]
    congr 1
    exact Option.some.inj ((List.getElem?_eq_getElem (show k < (JO d).length by omega)).symm.trans hp)
   have hguard:(decide ((p.2.length:Int) > 32) || (decide ((k:Int)=9) && decide ((p.2.length:Int) > 16)))=decide (p.1 < (p.2.length:Int)):=by
    rw [hmost]
    by_cases c:k=9
    ·subst c; simp; omega
    ·rw [if_neg c,show decide ((k:Int)=9)=false by simp only [decide_eq_false_iff_not]; omega]; simp
   rw [UJ,hdrop,List.map_cons,Zbr]
   simp only [hlm,show decide ((k:Int) < ((10:Nat):Int))=true by simp only [decide_eq_true_eq]; omega,cond_true,hg,ZR,hnl]
   simp only [Zi,Ze,cond_true,cond_false,Zg,ZR,Zd,Zw,condC,Zj,Zk,Zx,Yr,Yt,ZZ,hguard]
   by_cases c:p.1 < (p.2.length:Int)
   ·have e:stepD p s=(6,s):=by unfold stepD WC; rw [if_pos (by simpa using c)]
    simp [c,e]
   ·have e:stepD p s=Yy PH p.2 s:=by unfold stepD WC; rw [if_neg (by simpa using c)]
    have hpl:p.2.length≤32:=by rw [hmost] at c; split at c <;> omega
    rw [show decide (p.1 < (p.2.length:Int))=false by simpa using c,cond_false,inner L h1 d h hL k p hp hpl hlt,e]
    have hsl:(Yy PH p.2 s).2.length≤32 * (k + 1):=by have:=Zh6 p.2 s; omega
    have ih:=outer L h1 d h hL E hE m (k + 1) (Yy PH p.2 s).2 hlt (by omega) hsl
    by_cases z:(Yy PH p.2 s).1=0
    ·simp only [z,ne_eq,not_true_eq_false,decide_false,Bool.false_eq_true,if_false]
     exact ih
    ·simp [z]
    exact hs
  ·have:k=10:=by omega
   subst this
   rw [UJ,hlm,show (JO d).drop 10=[] from rfl]
   simp only [Zi,Ze,cond_true,cond_false,Zg,ZR,Zd,Zw,condC,Zj,Zk,Zx,Yr,Yt,ZZ,show decide (((10:Nat):Int) < ((10:Nat):Int))=false from rfl,hE]
   simp [Zbr]
end Go.Proofs.YthkdlifcknpadaaGreat
end
section
namespace Go.Proofs.YthkdlifcknpadaaGreat
open Go Go.Proofs.YthkdlifcknpadaaGreat.Abs Go.Proofs.YthkdlifcknpadaaGreat.Tl
set_option maxRecDepth 100000
theorem ZdI {τ α σ ρ:Type}{f:(τ→Option ρ)→τ→Option ρ}(l:List α)(pk:σ→Int→τ)(P:Nat→σ→Prop)(A:Option ρ)
  (h1:∀ self s (i:Nat) x,P i s→l[i]? = some x→i < l.length→x ∈ l→(∀ s',P (i + 1) s'→self (pk s' ((i:Int) + 1))=A)→f self (pk s i)=A)
  (h2:∀ self s,P l.length s→f self (pk s (l.length:Nat))=A):∀ (m i:Nat) (s:σ),P i s→i≤l.length→l.length - i < m→Z9 f m (pk s i)=A
 | 0,_,_,_,_,h=>absurd h (Nat.not_lt_zero _)
 | m + 1,i,s,hP,hi,hm=>by
  show f (Z9 f m) (pk s i)=_
  rcases Nat.lt_or_ge i l.length with hlt | hge
  ·exact h1 _ s i _ hP (List.getElem?_eq_getElem hlt) hlt (List.getElem_mem hlt) fun s' hP'=>ZdI l pk P A h1 h2 m (i + 1) s' hP' hlt (by omega)
  ·have:i=l.length:=by omega
   subst this
   exact h2 _ s hP
theorem take_succ' {α:Type}{l:List α}{i:Nat}{x:α}(h:l[i]? = some x):l.take (i + 1)=l.take i ++ [x]:=by
 rw [List.take_succ,h]; rfl
end Go.Proofs.YthkdlifcknpadaaGreat
end
section
namespace Go.Proofs.YthkdlifcknpadaaGreat
open Go Go.Proofs.YthkdlifcknpadaaGreat.Abs Go.Proofs.YthkdlifcknpadaaGreat.Tl
set_option maxRecDepth 100000
theorem Dz (m:ZH):SizeOf.sizeOf m.Name < SizeOf.sizeOf m∧SizeOf.sizeOf m.Params < SizeOf.sizeOf m∧SizeOf.sizeOf m.Sites < SizeOf.sizeOf m∧SizeOf.sizeOf m.Links < SizeOf.sizeOf m:=by cases m; simp; omega
theorem ZpQ (L:Nat)(m:ZH)(s:List UInt8)(hl:Len m.Sites)(hL:m.Sites.length < L):JH L (m,s,())=some (GV (fun d:Zb=>decide (d.Name=s)) m.Sites 0):=by
 rw [Zeg,Zif m.Sites (fun l i=>some (GV (fun d:Zb=>decide (d.Name=s)) l i)) hL (fun self i x r hx hi _ e=>by
  rw [GX]; simp only [Zi,Ze,cond_true,cond_false,Zg,ZR,Zd,Zw,condC,Zj,Zk,Zx,Yr,Yt,ZZ,hi,hx,wrap_succ hi (by omega),e,GV]; simp only [Wj,Ja,if_true,if_false,Bool.false_eq_true,ne_eq,decide_not,gt_iff_lt,ge_iff_le]) (fun self=>by
  rw [GX]; simp only [Zi,Ze,cond_true,cond_false,Zg,ZR,Zd,Zw,condC,Zj,Zk,Zx,Yr,Yt,ZZ,GV]),ZR]
theorem Zqo (m:ZH)(s:List UInt8):decide (GV (fun d:Zb=>decide (d.Name=s)) m.Sites 0 < 0)=!(m.Sites.map (·.Name)).contains s:=by
 rw [← AB (fun d:Zb=>d.Name) s m.Sites]
 rw [← decide_not]; congr 1; exact propext Int.not_le.symm
theorem A7:∀ (l:Zdh) (k:List UInt8×List UInt8),hasK MK.pstr l k=l.contains k
 | [],k=>rfl
 | x :: l,k=>by
  have ih:=A7 l k
  rw [List.contains_cons,← ih]
  obtain ⟨a,b⟩:=x; obtain ⟨c,d⟩:=k
  rfl
theorem ZiS (l:Zdh)(k:List UInt8×List UInt8)(h:l.contains k=false):Nl MK.pstr l k=l ++ [k]:=by
 unfold Nl; rw [A7,h]; rfl
theorem ZpY (s:Zdh)(k:List UInt8×List UInt8):(bif s.contains k then some ((4:Int),s,()) else some (0,Nl MK.pstr s k,()))=some ((if s.contains k=true then ((4:Int),s) else (0,s ++ [k])).1,(if s.contains k=true then ((4:Int),s) else (0,s ++ [k])).2,()):=by
 cases e:s.contains k
 ·rw [ZiS _ _ e]; rfl
 ·rfl
theorem Zpn (m:ZH)(x:DV)(s:Zdh):(bT (bif !(m.Sites.map (·.Name)).contains x.From then some true else some (!(m.Sites.map (·.Name)).contains x.To)) fun y_2=>bif y_2 then some ((5:Int),s,()) else bif decide (x.From=x.To) then some (1,s,()) else bif !btw x.Delay 1 1000000000 then some (2,s,()) else bif s.contains (x.From,x.To) then some (4,s,()) else some (0,Nl MK.pstr s (x.From,x.To),()))=some ((KW m x s).1,(KW m x s).2,()):=by
 rw [ZpY,Zm3]
 cases (m.Sites.map (·.Name)).contains x.From <;> cases (m.Sites.map (·.Name)).contains x.To <;> cases decide (x.From=x.To) <;> cases btw x.Delay 1 1000000000 <;> rfl
theorem Znf (L:Nat)(m:ZH)(h:Xc m)(hL:SizeOf.sizeOf m≤L):Ur L (m,())=some (Nu m):=by
 have hz:=Dz m; have h1:=ZO m.Sites; have h2:=ZO m.Links
 have hl:=h.l
 have lp:=Fa (f := Jr m L) m.Links (KW m) (show m.Links.length < L by omega) [] (fun self s i x hx hi mem=>by
  rw [Jr]
  simp only [Zi hi,cond_true,Zg,hx,ZR,ZpQ L m _ (show Len m.Sites by unfold Len; omega) (show m.Sites.length < L by omega),Zqo,condC,VA,Yt,A7,wrap_succ hi (show m.Links.length≤4611686018427387904 by omega)]
  rw [Zpn,ZR,ZZ]) (fun self s=>by rw [Jr]; simp only [Ze,cond_false])
 rw [Zc1,VW 32 (KW m) m.Links [] lp]
 rfl
end Go.Proofs.YthkdlifcknpadaaGreat
end
section
namespace Go.Proofs.YthkdlifcknpadaaGreat
open Go Go.Proofs.YthkdlifcknpadaaGreat.Abs Go.Proofs.YthkdlifcknpadaaGreat.Tl
set_option maxRecDepth 100000
theorem ZtM (L:Nat)(m:ZH)(h:Xc m)(hL:SizeOf.sizeOf m≤L)(s:Seen):Z9 (Jq m L) L (0,s,())=some ((Yy (fun v:Q8=>ZV v.Name (JF v)) m.Params s).1,(Yy (fun v:Q8=>ZV v.Name (JF v)) m.Params s).2,()):=by
 have hz:=Dz m; have hp:=ZO m.Params
 have hl:=h.l
 refine Fa m.Params _ (by omega) s (fun self s i x hx hi mem=>?_) (fun self s=>by rw [Jq]; simp only [Zi,Ze,cond_true,cond_false,Zg,ZR,Zd,Zw,condC,Zj,Zk,Zx,Yr,Yt,ZZ])
 have hm:=ZiA (fun v:Q8=>v.Name) (fun x=>by cases x; simp; omega) mem
 have hn:=Xg L x.Name (by have:=(h.Params.2 x mem).Name; unfold Len; omega) (by omega)
 rw [Jq]
 simp only [Zi,cond_true,Zg,ZR,ZZ,Jo,hi,hx,hn]
 simp only [Zi,Ze,cond_true,cond_false,Zg,ZR,Zd,Zw,condC,Zj,Zk,Zx,Yr,Yt,ZZ,Zcn,ZkF,wrap_succ hi (by omega)]
 simp only [ZV,JF]
 by_cases a:(Yo x.Name s).1=0 <;> rcases Bool.eq_false_or_eq_true (btw x.Ty 1 3) with g | g <;> rcases Bool.eq_false_or_eq_true (fitsT x.Ty x.N) with g' | g' <;> simp [a,g,g']
theorem ZtP (L:Nat)(h1:100≤L)(m:ZH)(h:Xc m)(hL:SizeOf.sizeOf m≤L)(P s:Seen):Z9 (QX m L) L (0,P,s,())=some ((Yy (fun d:Zb=>ZV d.Name (TP d)) m.Sites s).1,P,(Yy (fun d:Zb=>ZV d.Name (TP d)) m.Sites s).2,()):=by
 have hz:=Dz m; have hp:=ZO m.Sites
 have hl:=h.l
 refine Zig (f := QX m L) m.Sites (fun (s:Seen) i=>(i,P,s,())) (fun l s=>some ((Yy (fun d:Zb=>ZV d.Name (TP d)) l s).1,P,(Yy (fun d:Zb=>ZV d.Name (TP d)) l s).2,())) (fun self s i x r hx hi mem e=>?_) (fun self s=>by rw [QX]; simp only [Zi,Ze,cond_true,cond_false,Zg,ZR,Zd,Zw,condC,Zj,Zk,Zx,Yr,Yt,ZZ]; rfl) L 0 s (Nat.zero_le _) (by omega)
 have hm:=ZiA (fun v:Zb=>v.Name) (fun x=>(Jg x).1) mem
 have ok:=h.Sites.2 x mem
 have hn:=Xg L x.Name (by have:=ok.Name; unfold Len; omega) (by omega)
 have hs:=Zss L h1 x ok (by have:=ZuA mem; omega)
 rw [QX]
 simp only [Zi,cond_true,Zg,ZR,ZZ,Jo,hi,hx,hn]
 simp only [Zi,Ze,cond_true,cond_false,Zg,ZR,Zd,Zw,condC,Zj,Zk,Zx,Yr,Yt,ZZ,hs,wrap_succ hi (by omega)]
 rw [Yy]
 simp only [e,ZV]
 by_cases a:(Yo x.Name s).1=0 <;> by_cases b:TP x=0 <;> simp [a,b,ZR]
theorem ZkG (L:Nat)(h1:100≤L)(m:ZH)(h:Xc m)(hL:SizeOf.sizeOf m≤L):H8 L (m,())=some (QE m):=by
 have hz:=Dz m; have hn:=ZO m.Name
 have e1:=Xg L m.Name (by have:=h.Name; unfold Len; omega) (by omega)
 have e2:=VW 32 (fun v:Q8=>ZV v.Name (JF v)) m.Params [] (ZtM L m h hL [])
 have e3:∀ P:Seen,(bif decide ((m.Sites.length:Int) > 16) then some ((6:Int),P,([]:Seen),()) else Z9 (QX m L) L (0,P,[],()))=some ((WC 16 (fun d:Zb=>ZV d.Name (TP d)) m.Sites []).1,P,(WC 16 (fun d:Zb=>ZV d.Name (TP d)) m.Sites []).2,()):=fun P=>by
  rw [ZtP L h1 m h hL P []]
  unfold WC
  by_cases c:16 < (m.Sites.length:Int) <;> simp [c]
 rw [Zcz,e1,ZR,e2]
 simp only [ZR,e3,Znf L m h hL,ZZ,Yr]
 unfold QE Zac Du
 generalize decide ((m.Sites.length:Int)=0)=q
 by_cases a:Vj m.Name=0 <;> by_cases b:(WC 32 (fun v:Q8=>ZV v.Name (JF v)) m.Params []).1=0 <;> cases q <;> by_cases d:(WC 16 (fun d:Zb=>ZV d.Name (TP d)) m.Sites []).1=0 <;> simp [a,b,d,ZR]
end Go.Proofs.YthkdlifcknpadaaGreat
end
