import Derived.Test.YtleomfgijkapfaaGreatDoorJ19
set_option linter.all false
section
namespace Go.Proofs.YtleomfgijkapfaaGreatDoor
open Go Go.Proofs.YtleomfgijkapfaaGreatDoor.Abs Go.Proofs.YtleomfgijkapfaaGreatDoor.Tl
set_option maxRecDepth 100000
theorem ZaI {α:Type}(nm:α→List UInt8)(s:List UInt8)(l:List α):decide (UF (fun x=>decide (nm x=s)) l 0 ≥ 0)=(l.map nm).contains s:=by
 rw [show decide (UF (fun x=>decide (nm x=s)) l 0 ≥ 0)=_ from Sv _ l 0 (Int.le_refl _),← Zj7,List.any_map]
 congr 1; funext x; exact decide_eq_decide.2 ⟨Eq.symm,Eq.symm⟩
theorem XF (d:Zd):SizeOf.sizeOf d.Name < SizeOf.sizeOf d∧SizeOf.sizeOf d.Vars < SizeOf.sizeOf d∧SizeOf.sizeOf d.Resources < SizeOf.sizeOf d∧SizeOf.sizeOf d.Stores < SizeOf.sizeOf d∧SizeOf.sizeOf d.Belts < SizeOf.sizeOf d∧SizeOf.sizeOf d.Queues < SizeOf.sizeOf d∧SizeOf.sizeOf d.Streams < SizeOf.sizeOf d∧SizeOf.sizeOf d.Tallies < SizeOf.sizeOf d∧SizeOf.sizeOf d.Levels < SizeOf.sizeOf d∧SizeOf.sizeOf d.Counts < SizeOf.sizeOf d∧SizeOf.sizeOf d.Routines < SizeOf.sizeOf d∧SizeOf.sizeOf d.Starts < SizeOf.sizeOf d∧SizeOf.sizeOf d.Laws < SizeOf.sizeOf d:=by
 cases d; simp; omega
structure Sh (L:Nat)(d:Zd):Prop where
 nm:d.Name.length < L
 vars:d.Vars.length < L
 res:d.Resources.length < L
 sto:d.Stores.length < L
 bel:d.Belts.length < L
 que:d.Queues.length < L
 str:d.Streams.length < L
 tal:d.Tallies.length < L
 lev:d.Levels.length < L
 cnt:d.Counts.length < L
 rou:d.Routines.length < L
 sta:d.Starts.length < L
 law:d.Laws.length < L
theorem Sh.of {L:Nat}{d:Zd}(h:SizeOf.sizeOf d≤L):Sh L d:=by
 have:=XF d
 constructor
 ·have:=Z4 d.Name; omega
 ·have:=Z4 d.Vars; omega
 ·have:=Z4 d.Resources; omega
 ·have:=Z4 d.Stores; omega
 ·have:=Z4 d.Belts; omega
 ·have:=Z4 d.Queues; omega
 ·have:=Z4 d.Streams; omega
 ·have:=Z4 d.Tallies; omega
 ·have:=Z4 d.Levels; omega
 ·have:=Z4 d.Counts; omega
 ·have:=Z4 d.Routines; omega
 ·have:=Z4 d.Starts; omega
 ·have:=Z4 d.Laws; omega
theorem ZlK (L:Nat)(d:Zd)(t:Gy)(h:ZB d)(hL:d.Stores.length < L):Zq (Xe d t) L (0,())=some (UF (fun x:Yj=>decide (x.Name=t.Name)) d.Stores 0):=by
 have:=h.st
 exact ZhO d.Stores (fun l i=>some (UF (fun x:Yj=>decide (x.Name=t.Name)) l i)) hL (fun self i x r hx hi _ e=>by
  rw [Xe]; simp only [Zg,Zc,cond_true,cond_false,Zf,Zv,Za,Zn,condC,Zi,Zh,Zl,ZE,ZK,Z7,hi,hx,wrap_succ hi (by omega),e,UF]; simp only [Ye,Q4,if_true,if_false,Bool.false_eq_true,ne_eq,decide_not,gt_iff_lt,ge_iff_le]) (fun self=>by rw [Xe]; simp only [Zg,Zc,cond_true,cond_false,Zf,Zv,Za,Zn,condC,Zi,Zh,Zl,ZE,ZK,Z7,UF])
theorem Zuv (L:Nat)(d:Zd)(t:Gy)(h:ZB d)(hs:Sh L d):KW L (d,t,())=some (ZcE d t):=by
 have:=h.st
 have sl:=ZlK L d t h hs.sto
 rw [Zg7,show PI=Xe from rfl,show PK=Xe from rfl]
 simp only [Zg,Zc,cond_true,cond_false,Zf,Zv,Za,Zn,condC,Zi,Zh,Zl,ZE,ZK,Z7,Zdv L d t.Name (by unfold Len; omega) hs.rou,sl,Zdu L d.Counts t.Name (by unfold Len; omega) hs.cnt,Jr,ZaI,ZcE,ZcF]; simp only [Ye,Q4,if_true,if_false,Bool.false_eq_true,ne_eq,decide_not,gt_iff_lt,ge_iff_le]
theorem Zwj {l:List Zcj}{x:Zcj}(h:x ∈ l):x.Terms.length < SizeOf.sizeOf l∧x.Name.length < SizeOf.sizeOf l:=by
 have:=List.sizeOf_lt_of_mem h
 have h1:=Z4 x.Terms; have h2:=Z4 x.Name
 have:SizeOf.sizeOf x.Terms < SizeOf.sizeOf x∧SizeOf.sizeOf x.Name < SizeOf.sizeOf x:=by cases x; simp; omega
 omega
theorem Dk {α σ:Type}(f:α→Int)(s:σ):∀ l:List α,Y6 (fun x s=>(f x,s)) l s=(Yb f l,s)
 | []=>rfl
 | x :: l=>by rw [Y6,Dk f s l,Yb]; split <;> rfl
theorem Zuq (L:Nat)(d:Zd)(h:ZB d)(hL:SizeOf.sizeOf d≤L):KT L (d,())=some (L8 d):=by
 have hs:=Sh.of hL
 have hz:=XF d
 have hl:d.Laws.length≤4611686018427387:=by have:=h.Laws.1; omega
 have lp:=Zeq (f := JY d L) d.Laws (fun l:Zcj=>Yk l.Name (Zo1 d l)) hs.law ([]:Seen) (fun self s i x hx hi mem=>by
  have hsz:=Zwj mem
  have ok:=h.Laws.2 x mem
  have hn:=Qb L x.Name (by have:=ok.Name; unfold Len; omega) (by omega)
  have ht:=ok.t
  have tl:=fun s:Seen=>Zeq (f := JX d L x) x.Terms (fun t s=>(ZcE d t,s)) (show x.Terms.length < L by omega) s (fun self s i t hx hi mem=>by
   rw [JX]; simp only [Zg,Zc,cond_true,cond_false,Zf,Zv,Za,Zn,condC,Zi,Zh,Zl,ZE,ZK,Z7,hi,hx,Zuv L d t h hs,wrap_succ hi (by omega)]) (fun self s=>by rw [JX]; simp only [Zg,Zc,cond_true,cond_false,Zf,Zv,Za,Zn,condC,Zi,Zh,Zl,ZE,ZK,Z7])
  simp only [Dk] at tl
  rw [JY]
  simp only [Zg,cond_true,Zf,Zv,Z7,JV,hi,hx,hn]
  simp only [Zg,Zc,cond_true,cond_false,Zf,Zv,Za,Zn,condC,Zi,Zh,Zl,ZE,ZK,Z7,ZvJ,tl,wrap_succ hi (by omega)]
  simp only [Yk,Zo1,Bl]
  by_cases a:(Yu x.Name s).1=0 <;> by_cases b:x.Terms=[] <;> by_cases c:8 < (x.Terms.length:Int) <;> by_cases e:Yb (ZcE d) x.Terms=0 <;> rcases Bool.eq_false_or_eq_true (inB x.Total) with g | g <;> simp [a,b,c,e,g,Zv])
  (fun self s=>by rw [JY]; simp only [Zg,Zc,cond_true,cond_false,Zf,Zv,Za,Zn,condC,Zi,Zh,Zl,ZE,ZK,Z7])
 rw [Zg5,UC 32 (fun l:Zcj=>Yk l.Name (Zo1 d l)) d.Laws [] lp,Zv]
 rfl
end Go.Proofs.YtleomfgijkapfaaGreatDoor
end
section
namespace Go.Proofs.YtleomfgijkapfaaGreatDoor
open Go Go.Proofs.YtleomfgijkapfaaGreatDoor.Abs Go.Proofs.YtleomfgijkapfaaGreatDoor.Tl
set_option maxRecDepth 100000
theorem ZpM (L:Nat)(a b:List YX)(h:a.length + b.length≤1000)(hL:2 < L):ZV L ([a,b],())=some (a ++ b):=by
 have w1:IntKind.i64.wrap (0 + (a.length:Int))=a.length:=by rw [Int.zero_add]; exact wrap_in (by omega) (by omega)
 have w2:IntKind.i64.wrap ((a.length:Int) + b.length)=(a.length:Int) + b.length:=wrap_in (by omega) (by omega)
 have n1:decide ((a.length:Int) < 0)=false:=by simp only [decide_eq_false_iff_not]; omega
 have n2:decide ((a.length:Int) + b.length < 0)=false:=by simp only [decide_eq_false_iff_not]; omega
 have g:Zpi [] ((a.length:Int) + b.length)=some []:=by unfold Zpi; rw [if_pos ⟨rfl,by omega,by omega⟩]
 have p1:apT 24 [] a=some a:=by unfold apT; rw [if_pos (by simp only [List.length_nil]; omega)]; rfl
 have p2:apT 24 a b=some (a ++ b):=by unfold apT; rw [if_pos (by omega)]
 rw [Xo,Zcx _ hL]
 simp only [Wh,two,w01,Zv,cond_true,cond_false,w1,w2,n1,n2,g,Zcx (Yp _) hL,Yp,p1,p2]
theorem Zv9 {α σ:Type}{f:(Int×σ×PUnit→Option Int)→Int×σ×PUnit→Option Int}(l:List α)(step:α→σ→Int×σ)(e:Int){m:Nat}(hm:l.length < m)(s:σ)
  (h1:∀ self s (i:Nat) x,l[i]? = some x→i < l.length→x ∈ l→f self ((i:Int),s,())=bif !decide ((step x s).1=0) then some (step x s).1 else self ((i:Int) + 1,(step x s).2,()))
  (h2:∀ self s,f self ((l.length:Int),s,())=some e):Zq f m (0,s,())=some (if decide ((Y6 step l s).1≠0)=true then (Y6 step l s).1 else e) :=
 Zge l (fun s i=>(i,s,())) (fun l s=>some (if decide ((Y6 step l s).1≠0)=true then (Y6 step l s).1 else e)) (fun self s i x r hx hi mem e=>by
  rw [h1 self s i x hx hi mem,e,Y6]
  by_cases c:(step x s).1=0 <;> simp [c]) (fun self s=>by rw [h2]; rfl) m 0 s (Nat.zero_le _) (by omega)
theorem ZuU {l:List YX}{x:YX}(h:x ∈ l):x.Name.length < SizeOf.sizeOf l:=by
 have:=List.sizeOf_lt_of_mem h
 have h2:=Z4 x.Name
 have:SizeOf.sizeOf x.Name < SizeOf.sizeOf x:=by cases x; simp; omega
 omega
theorem Zor (r:ZJ):SizeOf.sizeOf r.Name < SizeOf.sizeOf r∧SizeOf.sizeOf r.Params < SizeOf.sizeOf r∧SizeOf.sizeOf r.Locals < SizeOf.sizeOf r∧SizeOf.sizeOf r.Body < SizeOf.sizeOf r:=by cases r; simp; omega
theorem ZnI (L:Nat)(h1:100≤L)(r:ZJ)(h:Gx r)(hL:SizeOf.sizeOf r≤L):Vt L (r,())=some (QH r):=by
 have hz:=Zor r
 have hp:=h.p
 have hw:IntKind.i64.wrap ((r.Params.length:Int) + (r.Locals.length:Int))=(r.Params.length:Int) + (r.Locals.length:Int):=wrap_in (by omega) (by omega)
 rw [Zbi,hw,QH]
 by_cases hc:6 < (r.Params.length:Int)∨16 < (r.Params.length:Int) + (r.Locals.length:Int)
 ·rw [if_pos (by simpa using hc),show (decide ((r.Params.length:Int) > 6) || decide ((r.Params.length:Int) + (r.Locals.length:Int) > 16))=true by simpa using hc]; rfl
 ·have hf:(decide ((r.Params.length:Int) > 6) || decide ((r.Params.length:Int) + (r.Locals.length:Int) > 16))=false:=by
   simp only [Bool.or_eq_false_iff,decide_eq_false_iff_not]; omega
  have hf':¬ ((decide (6 < (r.Params.length:Int)) || decide (16 < (r.Params.length:Int) + (r.Locals.length:Int)))=true):=by simpa using hc
  rw [if_neg hf',hf,cond_false,ZpM L _ _ (by omega) (by omega),Zv]
  have hlen:(r.Params ++ r.Locals).length≤16:=by rw [List.length_append]; omega
  exact Zv9 (f := X3 r L (r.Params ++ r.Locals)) (r.Params ++ r.Locals) (fun f:YX=>Yk f.Name (ZaB f)) (EQ r.Body) (by omega) [] (fun self s i x hx hi mem=>by
   have ok:Ce x∧x.Name.length < L:=by
    rcases List.mem_append.1 mem with m | m
    ·exact ⟨h.Params.2 x m,by have:=ZuU m; omega⟩
    ·exact ⟨h.Locals.2 x m,by have:=ZuU m; omega⟩
   have hn:=Qb L x.Name (by have:=ok.1.Name; unfold Len; omega) ok.2
   rw [X3]
   simp only [Zg,cond_true,Zf,Zv,Z7,JV,hi,hx,hn]
   simp only [Zg,Zc,cond_true,cond_false,Zf,Zv,Za,Zn,condC,Zi,Zh,Zl,ZE,ZK,Z7,Zkg,wrap_succ hi (by omega)]
   simp only [Yk,ZaB]
   by_cases a:(Yu x.Name s).1=0 <;> rcases Bool.eq_false_or_eq_true (btw x.Ty 1 3) with g | g <;> simp [a,g]) (fun self s=>by
   rw [X3]; simp only [Zg,Zc,cond_true,cond_false,Zf,Zv,Za,Zn,condC,Zi,Zh,Zl,ZE,ZK,Z7,ZpU L h1 r.Body h.p.2.2 (by omega)])
theorem ZlR {α:Type}[SizeOf α](g:α→List UInt8)(hg:∀ x,SizeOf.sizeOf (g x) < SizeOf.sizeOf x){l:List α}{x:α}(h:x ∈ l):(g x).length < SizeOf.sizeOf l∧SizeOf.sizeOf x < SizeOf.sizeOf l:=by
 have h1:=List.sizeOf_lt_of_mem h
 have h2:=Z4 (g x)
 have h3:=hg x
 omega
theorem Znc (L:Nat)(d:Zd)(h:d.Queues.length * 16≤140737488351232∧∀ y ∈ d.Queues,y.length≤140737488351232)(hL:SizeOf.sizeOf d.Queues≤L)(s:Seen):Zq (Ud d L) L (0,s,())=some ((Y6 Yu d.Queues s).1,(Y6 Yu d.Queues s).2,()):=by
 have hk:=Z4 d.Queues
 refine Zeq d.Queues Yu (by omega) s (fun self s i x hx hi mem=>?_) (fun self s=>by rw [Ud]; simp only [Zg,Zc,cond_true,cond_false,Zf,Zv,Za,Zn,condC,Zi,Zh,Zl,ZE,ZK,Z7])
 have h1:=List.sizeOf_lt_of_mem mem
 have hn:=Qb L x (by have:=h.2 x mem; unfold Len; omega) (by have:=Z4 x; omega)
 rw [Ud]
 simp only [Zg,cond_true,Zf,Zv,Z7,JV,hi,hx,hn]
 simp only [Zg,Zc,cond_true,cond_false,Zf,Zv,Za,Zn,condC,Zi,Zh,Zl,ZE,ZK,Z7,wrap_succ hi (by omega)]
theorem ZtI (L:Nat)(d:Zd)(h:ZB d)(hL:SizeOf.sizeOf d≤L)(s:Seen):Zq (JZ d L) L (0,s,())=some ((Y6 (fun v:XM=>Yk v.Name (Oz v)) d.Vars s).1,(Y6 (fun v:XM=>Yk v.Name (Oz v)) d.Vars s).2,()):=by
 have hz:=XF d
 have hs:=Sh.of hL
 have hl:=h.Vars.1
 refine Zeq d.Vars _ hs.vars s (fun self s i x hx hi mem=>?_) (fun self s=>by rw [JZ]; simp only [Zg,Zc,cond_true,cond_false,Zf,Zv,Za,Zn,condC,Zi,Zh,Zl,ZE,ZK,Z7])
 have hm:=ZlR (fun v:XM=>v.Name) (fun x=>by cases x; simp; omega) mem
 have hn:=Qb L x.Name (by have:=(h.Vars.2 x mem).Name; unfold Len; omega) (by omega)
 rw [JZ]
 simp only [Zg,cond_true,Zf,Zv,Z7,JV,hi,hx,hn]
 simp only [Zg,Zc,cond_true,cond_false,Zf,Zv,Za,Zn,condC,Zi,Zh,Zl,ZE,ZK,Z7,Zkg,ZqS,wrap_succ hi (by omega)]
 simp only [Yk,Oz]
 by_cases a:(Yu x.Name s).1=0 <;> rcases Bool.eq_false_or_eq_true (btw x.Ty 1 3) with g | g <;> rcases Bool.eq_false_or_eq_true (fitsT x.Ty x.N) with g' | g' <;> simp [a,g,g']
theorem Zv3 (L:Nat)(h1:100≤L)(d:Zd)(h:ZB d)(hL:SizeOf.sizeOf d≤L)(s:Seen):Zq (Ua d L) L (0,s,())=some ((Y6 (fun v:Zu=>Yk v.Name (Zl6 d v)) d.Resources s).1,(Y6 (fun v:Zu=>Yk v.Name (Zl6 d v)) d.Resources s).2,()):=by
 have hz:=XF d
 have hs:=Sh.of hL
 have hl:=h.Resources.1
 refine Zeq d.Resources _ hs.res s (fun self s i x hx hi mem=>?_) (fun self s=>by rw [Ua]; simp only [Zg,Zc,cond_true,cond_false,Zf,Zv,Za,Zn,condC,Zi,Zh,Zl,ZE,ZK,Z7])
 have hm:=ZlR (fun v:Zu=>v.Name) (fun x=>by cases x; simp; omega) mem
 have ok:=h.Resources.2 x mem
 have hx2:SizeOf.sizeOf x.Fault < SizeOf.sizeOf x∧SizeOf.sizeOf x.Shift < SizeOf.sizeOf x:=by cases x; simp; omega
 have hsh:=Z4 x.Shift
 have hn:=Qb L x.Name (by have:=ok.Name; unfold Len; omega) (by omega)
 rw [Ua]
 simp only [Zg,cond_true,Zf,Zv,Z7,JV,hi,hx,hn]
 simp only [Zg,Zc,cond_true,cond_false,Zf,Zv,Za,Zn,condC,Zi,Zh,Zl,ZE,ZK,Z7,Jr,Zlm L x ok (by omega),Zli L d h hL x.Fault ok.Fault (by omega) h1,wrap_succ hi (by omega)]
 simp only [Yk,Zl6]
 by_cases a:(Yu x.Name s).1=0 <;> rcases Bool.eq_false_or_eq_true (btw x.Units 0 1000) with g | g <;> by_cases b:Zo6 x=0 <;> simp [a,g,b]
theorem Zv6 (L:Nat)(d:Zd)(h:ZB d)(hL:SizeOf.sizeOf d≤L)(s:Seen):Zq (Ub d L) L (0,s,())=some ((Y6 (fun v:Yj=>Yk v.Name (Ot v)) d.Stores s).1,(Y6 (fun v:Yj=>Yk v.Name (Ot v)) d.Stores s).2,()):=by
 have hz:=XF d
 have hs:=Sh.of hL
 have hl:=h.Stores.1
 refine Zeq d.Stores _ hs.sto s (fun self s i x hx hi mem=>?_) (fun self s=>by rw [Ub]; simp only [Zg,Zc,cond_true,cond_false,Zf,Zv,Za,Zn,condC,Zi,Zh,Zl,ZE,ZK,Z7])
 have hm:=ZlR (fun v:Yj=>v.Name) (fun x=>by cases x; simp; omega) mem
 have hn:=Qb L x.Name (by have:=(h.Stores.2 x mem).Name; unfold Len; omega) (by omega)
 rw [Ub]
 simp only [Zg,cond_true,Zf,Zv,Z7,JV,hi,hx,hn]
 simp only [Zg,Zc,cond_true,cond_false,Zf,Zv,Za,Zn,condC,Zi,Zh,Zl,ZE,ZK,Z7,Jr,wrap_succ hi (by omega)]
 simp only [Yk,Ot]
 by_cases a:(Yu x.Name s).1=0 <;> rcases Bool.eq_false_or_eq_true (btw x.Room 1 1000) with g | g <;> by_cases b:x.Policy < 1 <;> by_cases c:3 < x.Policy <;> simp [a,g,b,c]
theorem Zv2 (L:Nat)(d:Zd)(h:ZB d)(hL:SizeOf.sizeOf d≤L)(s:Seen):Zq (Uc d L) L (0,s,())=some ((Y6 (fun v:YL=>Yk v.Name (Fb v)) d.Belts s).1,(Y6 (fun v:YL=>Yk v.Name (Fb v)) d.Belts s).2,()):=by
 have hz:=XF d
 have hs:=Sh.of hL
 have hl:=h.Belts.1
 refine Zeq d.Belts _ hs.bel s (fun self s i x hx hi mem=>?_) (fun self s=>by rw [Uc]; simp only [Zg,Zc,cond_true,cond_false,Zf,Zv,Za,Zn,condC,Zi,Zh,Zl,ZE,ZK,Z7])
 have hm:=ZlR (fun v:YL=>v.Name) (fun x=>by cases x; simp; omega) mem
 have hn:=Qb L x.Name (by have:=(h.Belts.2 x mem).Name; unfold Len; omega) (by omega)
 rw [Uc]
 simp only [Zg,cond_true,Zf,Zv,Z7,JV,hi,hx,hn]
 simp only [Zg,Zc,cond_true,cond_false,Zf,Zv,Za,Zn,condC,Zi,Zh,Zl,ZE,ZK,Z7,Jr,wrap_succ hi (by omega)]
 simp only [Yk,Fb]
 by_cases a:(Yu x.Name s).1=0 <;> rcases Bool.eq_false_or_eq_true (btw x.Length 1 1000) with g | g <;> rcases Bool.eq_false_or_eq_true (btw x.Step 1 1000) with g' | g' <;> simp [a,g,g']
theorem Zv4 (L:Nat)(h1:100≤L)(d:Zd)(h:ZB d)(hL:SizeOf.sizeOf d≤L)(s:Seen):Zq (Ue d L) L (0,s,())=some ((Y6 (fun v:ZJ=>Yk v.Name (QH v)) d.Routines s).1,(Y6 (fun v:ZJ=>Yk v.Name (QH v)) d.Routines s).2,()):=by
 have hz:=XF d
 have hs:=Sh.of hL
 have hl:=h.Routines.1
 refine Zeq d.Routines _ hs.rou s (fun self s i x hx hi mem=>?_) (fun self s=>by rw [Ue]; simp only [Zg,Zc,cond_true,cond_false,Zf,Zv,Za,Zn,condC,Zi,Zh,Zl,ZE,ZK,Z7])
 have hm:=ZlR (fun v:ZJ=>v.Name) (fun x=>by cases x; simp; omega) mem
 have ok:=h.Routines.2 x mem
 have hn:=Qb L x.Name (by have:=ok.Name; unfold Len; omega) (by omega)
 rw [Ue]
 simp only [Zg,cond_true,Zf,Zv,Z7,JV,hi,hx,hn]
 simp only [Zg,Zc,cond_true,cond_false,Zf,Zv,Za,Zn,condC,Zi,Zh,Zl,ZE,ZK,Z7,ZnI L h1 x ok (by omega),wrap_succ hi (by omega)]
 simp only [Yk]
 by_cases a:(Yu x.Name s).1=0 <;> simp [a]
theorem Zv5 (L:Nat)(d:Zd)(h:ZB d)(hL:SizeOf.sizeOf d≤L)(s:Seen):Zq (Q5 d L) L (0,s,())=some (Yb (XR d) d.Starts,s,()):=by
 have hz:=XF d
 have hs:=Sh.of hL
 have hl:=h.Starts.1
 have:=Zeq (f := Q5 d L) d.Starts (fun x s=>(XR d x,s)) hs.sta s (fun self s i x hx hi mem=>by
  have hm:=ZlR (fun v:QC=>v.Routine) (fun x=>by cases x; simp; omega) mem
  have hx2:SizeOf.sizeOf x.Args < SizeOf.sizeOf x:=by cases x; simp; omega
  have ha:=Z4 x.Args
  rw [Q5]
  simp only [Zg,Zc,cond_true,cond_false,Zf,Zv,Za,Zn,condC,Zi,Zh,Zl,ZE,ZK,Z7,hi,hx,Zs4 L d h hs.rou x (h.Starts.2 x mem) (by omega),wrap_succ hi (by omega)]) (fun self s=>by rw [Q5]; simp only [Zg,Zc,cond_true,cond_false,Zf,Zv,Za,Zn,condC,Zi,Zh,Zl,ZE,ZK,Z7])
 rw [Dk] at this
 exact this
theorem TM {σ:Type}(P:Int×σ)(r:List (σ→Int×σ)){X:Option (Int×σ×PUnit)}(h:X=some ((Ld r P.2).1,(Ld r P.2).2,()))(f:σ→Int×σ)(s:σ)(hP:f s=P):(bif P.1 != 0 then some (P.1,P.2,()) else X)=some ((Ld (f :: r) s).1,(Ld (f :: r) s).2,()):=by
 subst h; subst hP
 rw [Ld]
 by_cases c:(f s).1=0 <;> simp [c,Z7]
theorem Zuu (L:Nat)(h1:100≤L)(d:Zd)(h:ZB d)(hL:SizeOf.sizeOf d≤L):KU L (d,())=some (Zfj d):=by
 have hz:=XF d
 have e0:=fun s=>UC 32 (fun v:XM=>Yk v.Name (Oz v)) d.Vars s (ZtI L d h hL s)
 have e1:=fun s=>UC 32 (fun v:Zu=>Yk v.Name (Zl6 d v)) d.Resources s (Zv3 L h1 d h hL s)
 have e2:=fun s=>UC 32 (fun v:Yj=>Yk v.Name (Ot v)) d.Stores s (Zv6 L d h hL s)
 have e3:=fun s=>UC 32 (fun v:YL=>Yk v.Name (Fb v)) d.Belts s (Zv2 L d h hL s)
 have e4:=fun s=>UC 32 Yu d.Queues s (Znc L d h.Queues (by omega) s)
 have e5:=fun s:Seen=>UC 32 Yu d.Streams s (show Zq (PD d L) L (0,s,())=_ from Znc L { d with Queues:=d.Streams } h.Streams (show SizeOf.sizeOf d.Streams≤L by omega) s)
 have e6:=fun s:Seen=>UC 32 Yu d.Tallies s (show Zq (PE d L) L (0,s,())=_ from Znc L { d with Queues:=d.Tallies } h.Tallies (show SizeOf.sizeOf d.Tallies≤L by omega) s)
 have e7:=fun s:Seen=>UC 32 Yu d.Levels s (show Zq (PG d L) L (0,s,())=_ from Znc L { d with Queues:=d.Levels } h.Levels (show SizeOf.sizeOf d.Levels≤L by omega) s)
 have e8:=fun s:Seen=>UC 32 Yu d.Counts s (show Zq (PH d L) L (0,s,())=_ from Znc L { d with Queues:=d.Counts } h.Counts (show SizeOf.sizeOf d.Counts≤L by omega) s)
 have e9:=fun s=>UC 16 (fun v:ZJ=>Yk v.Name (QH v)) d.Routines s (Zv4 L h1 d h hL s)
 have ea:∀ s:Seen,(bif decide ((d.Starts.length:Int) > 32) then some (6,s,()) else Zq (Q5 d L) L (0,s,()))=some (Bl 32 (XR d) d.Starts,s,()):=fun s=>by
  rw [Zv5 L d h hL s]; unfold Bl; by_cases c:32 < (d.Starts.length:Int) <;> simp [c]
 rw [Zg6]
 simp only [e0,e1,e2,e3,e4,e5,e6,e7,e8,e9,ea,Zv,Zuq L d h hL]
 have fin:∀ s:Seen,(bif L8 d != 0 then some (L8 d,s,()) else some (0,s,()))=some ((Ld [fun s:Seen=>(L8 d,s)] s).1,(Ld [fun s:Seen=>(L8 d,s)] s).2,()):=fun s=>by
  rw [Ld,Ld,Z7]; by_cases c:L8 d=0 <;> simp [c]
 have key:=TM _ _ (TM _ _ (TM _ _ (TM _ _ (TM _ _ (TM _ _ (TM _ _ (TM _ _ (TM _ _ (TM _ _ (TM (Bl 32 (XR d) d.Starts,_) _ (fin _) (fun s=>(Bl 32 (XR d) d.Starts,s)) _ rfl) (Qu 16 (fun v:ZJ=>Yk v.Name (QH v)) d.Routines) _ rfl) (Qu 32 Yu d.Counts) _ rfl) (Qu 32 Yu d.Levels) _ rfl) (Qu 32 Yu d.Tallies) _ rfl) (Qu 32 Yu d.Streams) _ rfl) (Qu 32 Yu d.Queues) _ rfl) (Qu 32 (fun v:YL=>Yk v.Name (Fb v)) d.Belts) _ rfl) (Qu 32 (fun v:Yj=>Yk v.Name (Ot v)) d.Stores) _ rfl) (Qu 32 (fun v:Zu=>Yk v.Name (Zl6 d v)) d.Resources) _ rfl) (Qu 32 (fun v:XM=>Yk v.Name (Oz v)) d.Vars) ([]:Seen) rfl
 exact (congrArg (fun o:Option (Int×Seen×PUnit)=>bT o fun y=>some y.1) key).trans rfl
end Go.Proofs.YtleomfgijkapfaaGreatDoor
end
section
namespace Go.Proofs.YtleomfgijkapfaaGreatDoor
open Go Go.Proofs.YtleomfgijkapfaaGreatDoor.Abs Go.Proofs.YtleomfgijkapfaaGreatDoor.Tl
set_option maxRecDepth 100000
def M1 (n:List UInt8)(d:Zd):Int:=if decide (XB n≠0)=true then XB n else (Yk d.Name (Zfj d) []).1
theorem one1 {α:Type}(a:α):ZG [a] 0=some a∧decide ((0:Int) < (([a].length:Nat):Int))=true∧decide ((1:Int) < (([a].length:Nat):Int))=false∧decide ((([a].length:Nat):Int) > 16)=false∧decide ((([a].length:Nat):Int)=0)=false∧decide ((([a].length:Nat):Int) > 0)=true∧decide ((([a].length:Nat):Int)≤16)=true :=
 ⟨Zf [a] 0,by simp,by simp,by simp,by simp,by simp,by simp⟩
theorem Zta (α:Type):decide ((0:Int) < ((([]:List α).length:Nat):Int))=false∧decide (((([]:List α).length:Nat):Int) > 32)=false∧decide (((([]:List α).length:Nat):Int)≤32)=true:=⟨rfl,rfl,rfl⟩
theorem ZpR (L:Nat)(h1:100≤L)(n:List UInt8)(hn:n.length≤140737488351232)(hnL:n.length < L)(d:Zd)(h:ZB d)(hL:SizeOf.sizeOf d≤L):Uk L (⟨n,[],[d],[]⟩,())=some (M1 n d):=by
 have hs:=Sh.of hL
 have e1:=Qb L n (by unfold Len; omega) hnL
 have e2:=Qb L d.Name (by have:=h.Name; unfold Len; omega) hs.nm
 have e3:Ul L (⟨n,[],[d],[]⟩,())=some 0:=by
  rw [ZeD,Zcx _ (show 2 < L by omega)]
  simp only [Ru,Zta,cond_false,Zv]
 have e4:Zq (Gq ⟨n,[],[d],[]⟩ L) L (0,[],())=some (0,[],()):=by
  rw [Zcx _ (show 2 < L by omega)]
  simp only [Gq,Zta,cond_false]
 rw [ZeB]
 simp only [Zcx (Gs ⟨n,[],[d],[]⟩ L) (show 2 < L by omega),Gs,one1,Zta,w01,e1,e2,e3,e4,JV,Zv,cond_true,cond_false,Z7,ZE,Zuu L h1 d h hL]
 simp only [M1,Yk]
 by_cases a:XB n=0 <;> by_cases b:(Yu d.Name []).1=0 <;> by_cases c:Zfj d=0 <;> simp [a,b,c,Zv]
theorem Js (L:Nat)(a b c:Int):ZH L (a,b,c,())=some (btw a b c):=ZgD L a b c
theorem VI (L:Nat)(a b:Int):Zz L (a,b,())=some (YK a b):=by
 simp only [Zg,Zc,cond_true,cond_false,Zf,Zv,Za,Zn,condC,Zi,Zh,Zl,ZE,ZK,Z7,ZiA,YK]; simp only [Ye,Q4,if_true,if_false,Bool.false_eq_true,ne_eq,decide_not,gt_iff_lt,ge_iff_le]
theorem Xf (L:Nat)(a:Bool)(b:Int):Zo L (a,b,())=some (Yq a b):=by
 simp only [Zg,Zc,cond_true,cond_false,Zf,Zv,Za,Zn,condC,Zi,Zh,Zl,ZE,ZK,Z7,ZgC,Yq]; simp only [Ye,Q4,if_true,if_false,Bool.false_eq_true,ne_eq,decide_not,gt_iff_lt,ge_iff_le]
theorem ZnA (L:Nat)(t:Int):Kr L (t,())=some (Zhm t):=Zi9 L t
theorem ZqR (L:Nat)(t n:Int):Hm L (t,n,())=some (fitsT t n):=by
 simp only [Zg,Zc,cond_true,cond_false,Zf,Zv,Za,Zn,condC,Zi,Zh,Zl,ZE,ZK,Z7,Zlw,Zs0,Js,fitsT]; simp only [Ye,Q4,if_true,if_false,Bool.false_eq_true,ne_eq,decide_not,gt_iff_lt,ge_iff_le]
theorem ZjN (s:List UInt8)(l:List (List UInt8)):decide (UF (fun k=>decide (k=s)) l 0 < 0)=!(l.contains s):=by
 have:=ZaI (fun x:List UInt8=>x) s l
 rw [List.map_id'] at this
 rw [← this,show decide (UF (fun k=>decide (k=s)) l 0 < 0)=!decide (UF (fun k=>decide (k=s)) l 0 ≥ 0) by rw [← decide_not]; congr 1; exact propext Int.not_le.symm]
theorem FP (L:Nat)(h1:100≤L)(s:List UInt8)(seen:Seen)(hs:Len s)(hsL:s.length < L)(hl:Len seen)(hL:seen.length < L):XK L (s,seen,())=some (ES s seen):=by
 simp only [Zg,Zc,cond_true,cond_false,Zf,Zv,Za,Zn,condC,Zi,Zh,Zl,ZE,ZK,Z7,ZiC,VJ L s hs hsL h1,Zgn L seen s hl hL,Xf,VI,ZjN,ES]
theorem apS {l:List (List UInt8)}{a:List UInt8}(h:l.length≤8000000000000):apT 16 l [a]=some (l ++ [a]):=by unfold apT; rw [if_pos (by simp only [List.length_cons,List.length_nil]; omega)]
theorem Znl {α τ ρ:Type}{f:(τ→Option ρ)→τ→Option ρ}(l:List α)(nm:α→List UInt8)(pk:List (List UInt8)→Int→τ)(o:Option ρ){m:Nat}(hm:l.length < m)
  (h1:∀ self s (i:Nat) x,l[i]? = some x→i < l.length→s.length≤i→f self (pk s i)=self (pk (s ++ [nm x]) ((i:Int) + 1)))
  (h2:∀ self,f self (pk (l.map nm) (l.length:Nat))=o):Zq f m (pk [] 0)=o:=by
 have key:∀ (m i:Nat),i≤l.length→l.length - i < m→Zq f m (pk ((l.take i).map nm) i)=o:=by
  intro m
  induction m with
  | zero=>intro i _ h; exact absurd h (Nat.not_lt_zero _)
  | succ m ih =>
   intro i hi hm
   show f (Zq f m) _=_
   rcases Nat.lt_or_ge i l.length with hlt | hge
   ·have hx:=List.getElem?_eq_getElem hlt
    rw [h1 _ _ i _ hx hlt (by rw [List.length_map,List.length_take]; omega),← ih (i + 1) hlt (by omega)]
    rw [List.take_succ,hx,List.map_append]; rfl
   ·have:i=l.length:=by omega
    subst this
    rw [List.take_length,h2]
 exact key m 0 (Nat.zero_le _) (by omega)
theorem Zif (L:Nat)(d:Zd)(h:ZB d)(hs:Sh L d):VT L (d,())=some ((Xw d).map (·.2)):=by
 have a1:=h.Vars.1; have a2:=h.Resources.1; have a3:=h.Stores.1; have a4:=h.Belts.1; have a5:=h.Routines.1
 rw [Zi8]
 refine Znl d.Vars (·.Name) (fun s i=>(i,s,[],[],[],[],[],[],[],[],[],())) _ hs.vars (fun self s i x hx hi hsl=>by
  rw [TA]; simp only [Zg,Zc,cond_true,cond_false,Zf,Zv,Za,Zn,condC,Zi,Zh,Zl,ZE,ZK,Z7,hi,hx,wrap_succ hi (by omega),apS (show s.length≤8000000000000 by omega)]) (fun self=>?_)
 rw [TA]; simp only [Zg,Zc,cond_true,cond_false,Zf,Zv,Za,Zn,condC,Zi,Zh,Zl,ZE,ZK,Z7]
 refine Znl d.Resources (·.Name) (fun s i=>(i,_,s,[],[],[],[],[],[],[],[],())) _ hs.res (fun self s i x hx hi hsl=>by
  rw [Tz]; simp only [Zg,Zc,cond_true,cond_false,Zf,Zv,Za,Zn,condC,Zi,Zh,Zl,ZE,ZK,Z7,hi,hx,wrap_succ hi (by omega),apS (show s.length≤8000000000000 by omega)]) (fun self=>?_)
 rw [Tz]; simp only [Zg,Zc,cond_true,cond_false,Zf,Zv,Za,Zn,condC,Zi,Zh,Zl,ZE,ZK,Z7]
 refine Znl d.Stores (·.Name) (fun s i=>(i,_,_,s,[],[],[],[],[],[],[],())) _ hs.sto (fun self s i x hx hi hsl=>by
  rw [Tv]; simp only [Zg,Zc,cond_true,cond_false,Zf,Zv,Za,Zn,condC,Zi,Zh,Zl,ZE,ZK,Z7,hi,hx,wrap_succ hi (by omega),apS (show s.length≤8000000000000 by omega)]) (fun self=>?_)
 rw [Tv]; simp only [Zg,Zc,cond_true,cond_false,Zf,Zv,Za,Zn,condC,Zi,Zh,Zl,ZE,ZK,Z7]
 refine Znl d.Belts (·.Name) (fun s i=>(i,_,_,_,s,[],[],[],[],[],[],())) _ hs.bel (fun self s i x hx hi hsl=>by
  rw [Tu]; simp only [Zg,Zc,cond_true,cond_false,Zf,Zv,Za,Zn,condC,Zi,Zh,Zl,ZE,ZK,Z7,hi,hx,wrap_succ hi (by omega),apS (show s.length≤8000000000000 by omega)]) (fun self=>?_)
 rw [Tu]; simp only [Zg,Zc,cond_true,cond_false,Zf,Zv,Za,Zn,condC,Zi,Zh,Zl,ZE,ZK,Z7]
 refine Znl d.Routines (·.Name) (fun s i=>(i,_,_,_,_,_,_,_,_,_,s,())) _ hs.rou (fun self s i x hx hi hsl=>by
  rw [Tt]; simp only [Zg,Zc,cond_true,cond_false,Zf,Zv,Za,Zn,condC,Zi,Zh,Zl,ZE,ZK,Z7,hi,hx,wrap_succ hi (by omega),apS (show s.length≤8000000000000 by omega)]) (fun self=>?_)
 rw [Tt]; simp only [Zg,Zc,cond_true,cond_false,Zf,Zv,Za,Zn,condC,Zi,Zh,Zl,ZE,ZK,Z7]
 rfl
end Go.Proofs.YtleomfgijkapfaaGreatDoor
end
section
namespace Go.Proofs.YtleomfgijkapfaaGreatDoor
open Go Go.Proofs.YtleomfgijkapfaaGreatDoor.Abs Go.Proofs.YtleomfgijkapfaaGreatDoor.Tl
set_option maxRecDepth 100000
theorem Zgc (L:Nat)(d:Zd)(h:ZB d)(hs:Sh L d):∀ p ∈ Xw d,Len p.2∧p.2.length < L:=by
 have a1:=h.Vars.1; have a2:=h.Resources.1; have a3:=h.Stores.1; have a4:=h.Belts.1; have a5:=h.Routines.1
 have b1:=h.Queues.1; have b2:=h.Streams.1; have b3:=h.Tallies.1; have b4:=h.Levels.1; have b5:=h.Counts.1
 obtain ⟨c1,c2,c3,c4,c5,c6,c7,c8,c9,c10,c11,c12,c13⟩:=hs
 intro p hp
 simp only [Xw,List.mem_cons,List.not_mem_nil,or_false] at hp
 unfold Len
 rcases hp with rfl | rfl | rfl | rfl | rfl | rfl | rfl | rfl | rfl | rfl <;> simp only [List.length_map] <;> omega
theorem Zr7 (s:List UInt8)(l:List (List UInt8)):decide (UF (fun k=>decide (k=s)) l 0 ≥ 0)=l.contains s:=by
 have:=ZaI (fun x:List UInt8=>x) s l
 rwa [List.map_id'] at this
theorem Zuh (L:Nat)(d:Zd)(h:ZB d)(hs:Sh L d)(hL:100≤L)(s:List UInt8):Qj L (d,s,())=some (GI s (Xw d)):=by
 rw [Zlx,Zif L d h hs,Zv]
 have lp:=Zcy (f := HY s L ((Xw d).map (·.2))) ((Xw d).map (·.2)) ((Xw d).map (·.1)) (by simp) (fun l l'=>some (GI s (l'.zip l))) (m := L) (show 10 < L by omega) (fun self i x y r r' hx hy hi mem e=>by
  have hi2:i < 10:=hi
  obtain ⟨p,hp,rfl⟩:=List.mem_map.1 mem
  have hk:=Zgc L d h hs p hp
  have hy':[[118,97,114],[114,101,115,111,117,114,99,101],[115,116,111,114,101],[98,101,108,116],[113,117,101,117,101],[115,116,114,101,97,109],[116,97,108,108,121],[108,101,118,101,108],[99,111,117,110,116],[114,111,117,116,105,110,101]][i]? = some y:=hy
  rw [HY]
  simp only [Zg,Zc,cond_true,cond_false,Zf,Zv,Za,Zn,condC,Zi,Zh,Zl,ZE,ZK,Z7,hi,hx,Zgn L p.2 s hk.1 hk.2,Zr7]
  rw [wrap_in (by omega) (by omega),e]
  simp only [hy',Zv,Zl,List.zip_cons_cons,GI]; simp only [Ye,Q4,if_true,if_false,Bool.false_eq_true,ne_eq,decide_not,gt_iff_lt,ge_iff_le]) (fun self=>by rw [HY]; simp only [Zg,Zc,cond_true,cond_false,Zf,Zv,Za,Zn,condC,Zi,Zh,Zl,ZE,ZK,Z7,List.zip_nil_right,GI])
 rw [lp]
 congr 2
theorem SA (d:Zd)(h:(Ld ((QB d).map stepD) []).1=0)(nm:List UInt8)(p:List UInt8×List (List UInt8))(hp:p ∈ Xw d):decide (GI nm (Xw d)=p.1)=p.2.contains nm:=by
 have key:GI nm (Xw d)=p.1↔nm ∈ p.2:=by
  refine Zdk nm (Xw d) ?_ ?_ ?_ p hp
  ·have:=(ZqW _ _ h).1
   have h2:((QB d).map Fq).Pairwise (fun a b=>∀ x ∈ a,x ∉ b):=List.pairwise_map.2 this
   rw [← ZjQ] at h2
   exact List.pairwise_map.1 h2
  ·simp only [Xw,List.map_cons,List.map_nil]; decide
  ·simp only [Xw,List.map_cons,List.map_nil]; decide
 rw [← List.contains_iff_mem] at key
 by_cases c:GI nm (Xw d)=p.1
 ·rw [key.1 c]; simp [c]
 ·have:p.2.contains nm=false:=by
   rw [← Bool.not_eq_true]; exact fun e=>c (key.2 e)
  rw [this]; simp [c]
theorem Zqm (t:Gy)(b:Bool):YK (YK (Yq true 1) (Yq b 5)) (Yq (btw t.Coef (-1000) 1000 && !decide (t.Coef=0)) 2)=ZcF t b:=by
 unfold ZcF
 rcases Bool.eq_false_or_eq_true (btw t.Coef (-1000) 1000) with h3 | h3 <;> by_cases c:t.Coef=0 <;> cases b <;> simp [YK,Yq,c,h3]
theorem Zs3 (L:Nat)(d:Zd)(h:ZB d)(hs:Sh L d)(hL:100≤L)(hd:(Ld ((QB d).map stepD) []).1=0)(t:Gy):Ls L (d,t,())=some (ZcE d t):=by
 have hR:=SA d hd t.Name ([114,111,117,116,105,110,101],d.Routines.map (·.Name)) (by simp [Xw])
 have hS:=SA d hd t.Name ([115,116,111,114,101],d.Stores.map (·.Name)) (by simp [Xw])
 have hQ:=SA d hd t.Name ([99,111,117,110,116],d.Counts) (by simp [Xw])
 simp only at hR hS hQ
 have z:∀ x,YK (YK (Yq false 1) x)=fun _=>1:=fun x=>by funext y; simp [YK,Yq]
 simp only [Zg,Zc,cond_true,cond_false,Zf,Zv,Za,Zn,condC,Zi,Zh,Zl,ZE,ZK,Z7,Zlz,Xf,VI,Zuh L d h hs hL,Js,hR,hS,hQ,reduceCtorEq,decide_false,decide_true,Bool.not_false,Bool.not_true,Zqm,z,ZcE]
 simp only [Ye,Q4,if_true,if_false,Bool.false_eq_true,ne_eq,decide_not,gt_iff_lt,ge_iff_le]
theorem ZjF (a b c:Int):YK (YK a b) c=YK a (YK b c):=by
 unfold YK
 by_cases h:a=0 <;> by_cases h2:b=0 <;> simp [h,h2]
theorem Zpa {α:Type}(f:α→Int)(x:α)(r:List α):YK (f x) (Yb f r)=Yb f (x :: r):=by
 unfold YK; rw [Yb]
theorem Zpb (a:Int):YK a 0=a:=by unfold YK; by_cases h:a=0 <;> simp [h]
theorem ZvK (L:Nat)(d:Zd)(h:ZB d)(hs:Sh L d)(hL:100≤L)(hd:(Ld ((QB d).map stepD) []).1=0)(l:Zcj)(ok:ZlT l)(hl:l.Terms.length < L)(hn:l.Name.length < L)(seen:Seen)(h1:Len seen)(h2:seen.length < L):NL L (d,l,seen,())=some (Yk l.Name (Zo1 d l) seen).1:=by
 have ht:=ok.t
 have lp:=fun n=>SC (f := MX d l L) l.Terms (fun r n=>some (YK (YK n (Yb (ZcE d) r)) (Yq (inB l.Total) 2))) hl n (fun self n i x r hx hi mem e=>by
  rw [MX]; simp only [Zg,Zc,cond_true,cond_false,Zf,Zv,Za,Zn,condC,Zi,Zh,Zl,ZE,ZK,Z7,hi,hx,Zs3 L d h hs hL hd x,VI,wrap_succ hi (by omega),e,ZjF,← Zpa]) (fun self n=>by
  rw [MX]; simp only [Zg,Zc,cond_true,cond_false,Zf,Zv,Za,Zn,condC,Zi,Zh,Zl,ZE,ZK,Z7,Zs0,Xf,VI,Yb,Zpb])
 simp only [Zg,Zc,cond_true,cond_false,Zf,Zv,Za,Zn,condC,Zi,Zh,Zl,ZE,ZK,Z7,ZnV,FP L hL l.Name seen (by have:=ok.Name; unfold Len; omega) hn h1 h2,Xf,VI,lp]
 rw [Zcd]
 simp only [ZjF]
 congr 2
 unfold Zo1 Bl
 by_cases a:l.Terms=[] <;> by_cases b:8 < (l.Terms.length:Int) <;> by_cases c:Yb (ZcE d) l.Terms=0 <;> rcases Bool.eq_false_or_eq_true (inB l.Total) with g | g <;> simp [a,b,c,g,YK,Yq]
theorem ZjL {α:Type}(nm:α→List UInt8)(s:List UInt8):∀ (l:List α) (i:Int),UF (fun k=>decide (k=s)) (l.map nm) i=UF (fun x=>decide (nm x=s)) l i
 | [],_=>rfl
 | x :: l,i=>by simp only [List.map_cons,UF,ZjL nm s l]
theorem Zlj (L:Nat)(d:Zd)(h:ZB d)(hs:Sh L d)(s:List UInt8):Uo L (d,s,())=some (UF (fun r:ZJ=>decide (r.Name=s)) d.Routines 0):=by
 have hk:=Zgc L d h hs ([114,111,117,116,105,110,101],d.Routines.map (·.Name)) (by simp [Xw])
 rw [ZeI,Zif L d h hs,Zv,show ZG ((Xw d).map (·.2)) 9=some (d.Routines.map (·.Name)) from Zf _ 9,Zv,Zgn L _ s hk.1 hk.2,Zv,ZjL]
theorem Zl5 (L:Nat)(s:QC)(r:ZJ)(hp:r.Params.length≤4611686018427387)(he:r.Params.length=s.Args.length)(hL:r.Params.length < L):Zq (KH s L r) L (0,())=some (O3 (Aq s) r.Params s.Args):=by
 refine Zcy r.Params s.Args he (fun p a=>some (O3 (Aq s) p a)) hL (fun self i x y q q' hx hy hi _ e=>?_) (fun self=>?_)
 ·rw [KH]; simp only [Zg,Zc,cond_true,cond_false,Zf,Zv,Za,Zn,condC,Zi,Zh,Zl,ZE,ZK,Z7,hi,hx,hy,ZqR,wrap_succ hi (by omega),e,O3]; simp only [Ye,Q4,if_true,if_false,Bool.false_eq_true,ne_eq,decide_not,gt_iff_lt,ge_iff_le]
 ·rw [KH,← Zom]; simp only [Zg,Zc,cond_true,cond_false,Zf,Zv,Za,Zn,condC,Zi,Zh,Zl,ZE,ZK,Z7,Js,Xf,O3,Zjp]; simp only [Ye,Q4,if_true,if_false,Bool.false_eq_true,ne_eq,decide_not,gt_iff_lt,ge_iff_le]
theorem ZpT (L:Nat)(d:Zd)(h:ZB d)(hs:Sh L d)(s:QC)(hs':RV s)(hsL:s.Args.length < L):II L (d,s,())=some (XR d s):=by
 rw [ZiD,Zlj L d h hs s.Routine,Zv,XR]
 rcases FN (fun r:ZJ=>decide (r.Name=s.Routine)) d.Routines 0 with ⟨a,b⟩ | ⟨k,r,a,b,c⟩
 ·rw [a,b]; rfl
 ·have ok:=h.Routines.2 r (List.mem_of_getElem? c)
  rw [a,b,Int.zero_add,show decide ((k:Int) < 0)=false by simp only [decide_eq_false_iff_not]; omega,cond_false,Zf,c,Zv]
  simp only
  rcases ZsZ s.Args r.Params with ⟨e1,e2⟩ | ⟨e1,e2⟩
  ·rw [Zl5 L s r ok.p.1 e1.symm (by omega),Z7,e2]; simp only [Ye,Q4,if_true,if_false,Bool.false_eq_true,ne_eq,decide_not,gt_iff_lt,ge_iff_le,e2,Bool.not_true,cond_false]
  ·rw [Z7,e2]; simp only [Ye,Q4,if_true,if_false,Bool.false_eq_true,ne_eq,decide_not,gt_iff_lt,ge_iff_le,e2,Bool.not_false,cond_true]
theorem ZrN {α τ:Type}{f:(τ→Option Int)→τ→Option Int}(pk:Seen→Int→τ)(l:List α)(step:α→Seen→Int×Seen)(c:Nat)(e:Seen→Option Int){m:Nat}(hm:l.length < m)
  (hst:∀ x s,(step x s).2.length≤s.length + 1)
  (h1:∀ self s (i:Nat) x,l[i]? = some x→i < l.length→x ∈ l→s.length≤c + i→f self (pk s i)=bif !decide ((step x s).1=0) then some (step x s).1 else self (pk (step x s).2 ((i:Int) + 1)))
  (h2:∀ self s,s.length≤c + l.length→f self (pk s (l.length:Nat))=e s) (s:Seen) (hs:s.length≤c):Zq f m (pk s 0)=if decide ((Y6 step l s).1≠0)=true then some (Y6 step l s).1 else e (Y6 step l s).2:=by
 have key:∀ (m i:Nat) (s:Seen),i≤l.length→l.length - i < m→s.length≤c + i→Zq f m (pk s i)=if decide ((Y6 step (l.drop i) s).1≠0)=true then some (Y6 step (l.drop i) s).1 else e (Y6 step (l.drop i) s).2:=by
  intro m
  induction m with
  | zero=>intro i s _ h; exact absurd h (Nat.not_lt_zero _)
  | succ m ih =>
   intro i s hi hm hsl
   show f (Zq f m) _=_
   rcases Nat.lt_or_ge i l.length with hlt | hge
   ·have hx:=List.getElem?_eq_getElem hlt
    have:=ih (i + 1) (step l[i] s).2 hlt (by omega) (by have:=hst l[i] s; omega)
    rw [h1 _ s i _ hx hlt (List.getElem_mem hlt) hsl,List.drop_eq_getElem_cons hlt,Y6,show ((i:Int) + 1)=((i + 1:Nat):Int) from rfl,this]
    by_cases z:(step l[i] s).1=0 <;> simp [z]
   ·have:i=l.length:=by omega
    subst this
    rw [List.drop_length,h2 _ s hsl]; rfl
 exact key m 0 s (Nat.zero_le _) (by omega) (by omega)
theorem Zce (s:List UInt8)(r:Int)(seen:Seen):(Yk s r seen).2.length≤seen.length + 1:=by
 have h:(Yu s seen).2.length≤seen.length + 1:=by
  unfold Yu
  split
  ·exact Nat.le_succ _
  ·split
   ·exact Nat.le_succ _
   ·simp
 unfold Yk
 split <;> exact h
end Go.Proofs.YtleomfgijkapfaaGreatDoor
end
section
namespace Go.Proofs.YtleomfgijkapfaaGreatDoor
open Go Go.Proofs.YtleomfgijkapfaaGreatDoor.Abs Go.Proofs.YtleomfgijkapfaaGreatDoor.Tl
set_option maxRecDepth 100000
theorem Zcf {s:List UInt8}{r:Int}{seen:Seen}(h:(Yk s r seen).1=0):(Yk s r seen).2=seen ++ [s]:=(Zow h).1
theorem Zll (L:Nat)(h1:100≤L)(r:ZJ)(h:Gx r)(hL:SizeOf.sizeOf r≤L):Ur L (r,())=some (QH r):=by
 have hz:=Zor r
 have hp:=h.p
 have hw:IntKind.i64.wrap ((r.Params.length:Int) + (r.Locals.length:Int))=(r.Params.length:Int) + (r.Locals.length:Int):=wrap_in (by omega) (by omega)
 rw [ZeJ,hw,QH]
 by_cases hc:6 < (r.Params.length:Int)∨16 < (r.Params.length:Int) + (r.Locals.length:Int)
 ·rw [if_pos (by simpa using hc),show (decide ((r.Params.length:Int) > 6) || decide ((r.Params.length:Int) + (r.Locals.length:Int) > 16))=true by simpa using hc]; rfl
 ·have hf:(decide ((r.Params.length:Int) > 6) || decide ((r.Params.length:Int) + (r.Locals.length:Int) > 16))=false:=by
   simp only [Bool.or_eq_false_iff,decide_eq_false_iff_not]; omega
  have hf':¬ ((decide (6 < (r.Params.length:Int)) || decide (16 < (r.Params.length:Int) + (r.Locals.length:Int)))=true):=by simpa using hc
  have hlen:(r.Params ++ r.Locals).length≤16:=by rw [List.length_append]; omega
  have p1:apT 24 [] r.Params=some r.Params:=by unfold apT; rw [if_pos (by simp only [List.length_nil]; omega)]; rfl
  have p2:apT 24 r.Params r.Locals=some (r.Params ++ r.Locals):=by unfold apT; rw [if_pos (by omega)]
  rw [if_neg hf',hf,cond_false,p1,Zv,p2,Zv]
  rw [ZrN (f := Jd r L (r.Params ++ r.Locals)) (fun s i=>(s,i,())) (r.Params ++ r.Locals) (fun f:YX=>Yk f.Name (ZaB f)) 0 (fun _=>some (EQ r.Body)) (by omega) (fun x s=>Zce _ _ _) (fun self s i x hx hi mem hsl=>by
   have ok:Ce x∧x.Name.length < L:=by
    rcases List.mem_append.1 mem with m | m
    ·exact ⟨h.Params.2 x m,by have:=ZuU m; omega⟩
    ·exact ⟨h.Locals.2 x m,by have:=ZuU m; omega⟩
   have hn:=FP L h1 x.Name s (by have:=ok.1.Name; unfold Len; omega) ok.2 (by unfold Len; omega) (by omega)
   rw [Jd]
   simp only [Zg,Zc,cond_true,cond_false,Zf,Zv,Za,Zn,condC,Zi,Zh,Zl,ZE,ZK,Z7,hi,hx,hn,ZnA,Xf,VI,Zt2,apS (show s.length≤8000000000000 by omega),wrap_succ hi (by omega)]
   rw [← Zcd]
   by_cases c:(Yk x.Name (ZaB x) s).1=0
   ·rw [Zcf c]
   ·simp [c]) (fun self s hsl=>by
   rw [Jd]; simp only [Zg,Zc,cond_true,cond_false,Zf,Zv,Za,Zn,condC,Zi,Zh,Zl,ZE,ZK,Z7,ZnJ L h1 r.Body h.p.2.2 (by omega)]) [] (Nat.le_refl _)]
  rw [Q4]; rfl
theorem ZiT (L:Nat)(d:Zu)(h:YQ d)(hL:d.Shift.length < L)(hc:IntKind.i64.wrap (d.Cycle - 1)=d.Cycle - 1):Zq (QR d L) L (0,())=some (Zo7 d.Cycle none d.Shift):=by
 have hl:=h.s
 refine Fp (f := QR d L) d.Shift.length (fun i=>(i,())) (fun i=>some (Zo7 d.Cycle (Ze6 d.Shift i) (d.Shift.drop i))) (fun self i hi e=>?_) (fun self=>?_) L 0 (Nat.zero_le _) (by omega)
 ·have hx:=List.getElem?_eq_getElem hi
  rw [List.drop_eq_getElem_cons hi,Zo7]
  rw [show Ze6 d.Shift (i + 1)=some (d.Shift[i].At_) by rw [Ze6,hx]; rfl] at e
  rw [QR]
  simp only [Zg,Zc,cond_true,cond_false,Zf,Zv,Za,Zn,condC,Zi,Zh,Zl,ZE,ZK,Z7,hi,hx,Js,wrap_succ hi (by omega),e,hc,ZnR _ _ _ hi hl]; simp only [Ye,Q4,if_true,if_false,Bool.false_eq_true,ne_eq,decide_not,gt_iff_lt,ge_iff_le]
 ·rw [QR]; simp only [Zg,Zc,cond_true,cond_false,Zf,Zv,Za,Zn,condC,Zi,Zh,Zl,ZE,ZK,Z7,List.drop_length,Zo7]
theorem Zih (L:Nat)(d:Zu)(h:YQ d)(hL:d.Shift.length < L):Jg L (d,())=some (Zo6 d):=by
 simp only [Zg,Zc,cond_true,cond_false,Zf,Zv,Za,Zn,condC,Zi,Zh,Zl,ZE,ZK,Z7,Zc5,Js,Xf,Zo6]
 by_cases hc:btw d.Cycle 1 1000000000=true
 ·have:=ZiT L d h hL (by simp only [btw,Bool.and_eq_true,decide_eq_true_eq] at hc; exact wrap_in (by omega) (by omega))
  rw [this]; simp only [Ye,Q4,if_true,if_false,Bool.false_eq_true,ne_eq,decide_not,gt_iff_lt,ge_iff_le,Yq]
  by_cases a:d.Cycle=0 <;> simp [a]
 ·rw [Bool.not_eq_true] at hc
  simp only [Ye,Q4,if_true,if_false,Bool.false_eq_true,ne_eq,decide_not,gt_iff_lt,ge_iff_le,hc,Bool.not_false,Yq]
  by_cases a:d.Cycle=0 <;> simp [a]
theorem Zlk (L:Nat)(h1:100≤L)(d:Zd)(h:ZB d)(hs:Sh L d)(x:Zu)(ok:YQ x)(hx:SizeOf.sizeOf x≤L):Jh L (d,x,())=some (Zl6 d x):=by
 have hx2:SizeOf.sizeOf x.Fault < SizeOf.sizeOf x∧SizeOf.sizeOf x.Shift < SizeOf.sizeOf x∧SizeOf.sizeOf x.Fault.Up < SizeOf.sizeOf x.Fault∧SizeOf.sizeOf x.Fault.Down < SizeOf.sizeOf x.Fault:=by
  obtain ⟨a,b,c,d,⟨e,f,g⟩⟩:=x; simp; omega
 have hsh:=Z4 x.Shift
 have hst:=h.st
 rw [← ZsG]
 simp only [Zg,Zc,cond_true,cond_false,Zf,Zv,Za,Zn,condC,Zi,Zh,Zl,ZE,ZK,Z7,Zc6,Js,Xf,VI,Zih L x ok (by omega),FO L x.Fault.Up _ ok.Fault.Up (by omega),FO L x.Fault.Down _ ok.Fault.Down (by omega),Ux,Zgn L d.Streams x.Fault.Stream (by unfold Len; omega) hs.str,MV L x.Fault.Up ok.Fault.Up (by omega),MV L x.Fault.Down ok.Fault.Down (by omega),ZjN,ZvQ]; simp only [Ye,Q4,if_true,if_false,Bool.false_eq_true,ne_eq,decide_not,gt_iff_lt,ge_iff_le]
theorem Zui (L:Nat)(d:Zd)(j:Nat)(x:XM)(hx:d.Vars[j]? = some x):Y8 L (d,0,(j:Int),())=some (Oz x):=by
 rw [Q7]; simp only [Zg,Zc,cond_true,cond_false,Zf,Zv,Za,Zn,condC,Zi,Zh,Zl,ZE,ZK,Z7,hx,Int.reduceEq,decide_true,decide_false,ZnA,Xf,ZqR,VI,valueR]
theorem Zuj (L:Nat)(h1:100≤L)(d:Zd)(h:ZB d)(hL:SizeOf.sizeOf d≤L)(j:Nat)(x:Zu)(hx:d.Resources[j]? = some x):Y8 L (d,1,(j:Int),())=some (Zl6 d x):=by
 have hz:=XF d
 have mem:=List.mem_of_getElem? hx
 have hm:=List.sizeOf_lt_of_mem mem
 rw [Q7]; simp only [Zg,Zc,cond_true,cond_false,Zf,Zv,Za,Zn,condC,Zi,Zh,Zl,ZE,ZK,Z7,hx,Int.reduceEq,decide_true,decide_false,Zlk L h1 d h (Sh.of hL) x (h.Resources.2 x mem) (by omega)]
theorem Zuk (L:Nat)(d:Zd)(j:Nat)(x:Yj)(hx:d.Stores[j]? = some x):Y8 L (d,2,(j:Int),())=some (Ot x):=by
 rw [Q7]; simp only [Zg,Zc,cond_true,cond_false,Zf,Zv,Za,Zn,condC,Zi,Zh,Zl,ZE,ZK,Z7,hx,Int.reduceEq,decide_true,decide_false,Js,Xf,VI,ge_iff_le,Zu9]
theorem Zul (L:Nat)(d:Zd)(j:Nat)(x:YL)(hx:d.Belts[j]? = some x):Y8 L (d,3,(j:Int),())=some (Fb x):=by
 rw [Q7]; simp only [Zg,Zc,cond_true,cond_false,Zf,Zv,Za,Zn,condC,Zi,Zh,Zl,ZE,ZK,Z7,hx,Int.reduceEq,decide_true,decide_false,Js,Xf,Zvb]
theorem Zum (L:Nat)(h1:100≤L)(d:Zd)(h:ZB d)(hL:SizeOf.sizeOf d≤L)(j:Nat)(x:ZJ)(hx:d.Routines[j]? = some x):Y8 L (d,9,(j:Int),())=some (QH x):=by
 have hz:=XF d
 have mem:=List.mem_of_getElem? hx
 have hm:=List.sizeOf_lt_of_mem mem
 have e:=Zll L h1 x (h.Routines.2 x mem) (by omega)
 generalize QH x=z at e ⊢
 rw [Q7,show ((9:Int) == 0)=false from rfl,show ((9:Int) == 1)=false from rfl,show ((9:Int) == 2)=false from rfl,show ((9:Int) == 3)=false from rfl,show ((9:Int) == 9)=true from rfl,cond_false,cond_false,cond_false,cond_false,cond_true,Zf,hx,Zv,e,Zv]
theorem Zgp (L:Nat)(d:Zd)(k j:Int)(h:k=4∨k=5∨k=6∨k=7∨k=8):Y8 L (d,k,j,())=some 0:=by
 rw [Q7]; rcases h with rfl | rfl | rfl | rfl | rfl <;> simp only [Zg,Zc,cond_true,cond_false,Zf,Zv,Za,Zn,condC,Zi,Zh,Zl,ZE,ZK,Z7,Int.reduceEq,decide_true,decide_false]
end Go.Proofs.YtleomfgijkapfaaGreatDoor
end
section
namespace Go.Proofs.YtleomfgijkapfaaGreatDoor
open Go Go.Proofs.YtleomfgijkapfaaGreatDoor.Abs Go.Proofs.YtleomfgijkapfaaGreatDoor.Tl
set_option maxRecDepth 100000
theorem Zlh (L:Nat)(h1:100≤L)(d:Zd)(h:ZB d)(hL:SizeOf.sizeOf d≤L)(k:Nat)(p:Int×List (List UInt8×Int))(hp:(QB d)[k]? = some p)(j:Nat)(q:List UInt8×Int)(hq:p.2[j]? = some q):Y8 L (d,(k:Int),(j:Int),())=some q.2:=by
 rcases k with _ | _ | _ | _ | _ | _ | _ | _ | _ | _ | k
 ·obtain rfl:=Option.some.inj hp; obtain ⟨x,hx,rfl⟩:=Gp hq; exact Zui L d j x hx
 ·obtain rfl:=Option.some.inj hp; obtain ⟨x,hx,rfl⟩:=Gp hq; exact Zuj L h1 d h hL j x hx
 ·obtain rfl:=Option.some.inj hp; obtain ⟨x,hx,rfl⟩:=Gp hq; exact Zuk L d j x hx
 ·obtain rfl:=Option.some.inj hp; obtain ⟨x,hx,rfl⟩:=Gp hq; exact Zul L d j x hx
 ·obtain rfl:=Option.some.inj hp; obtain ⟨x,hx,rfl⟩:=Gp hq; exact Zgp L d 4 j (by simp)
 ·obtain rfl:=Option.some.inj hp; obtain ⟨x,hx,rfl⟩:=Gp hq; exact Zgp L d 5 j (by simp)
 ·obtain rfl:=Option.some.inj hp; obtain ⟨x,hx,rfl⟩:=Gp hq; exact Zgp L d 6 j (by simp)
 ·obtain rfl:=Option.some.inj hp; obtain ⟨x,hx,rfl⟩:=Gp hq; exact Zgp L d 7 j (by simp)
 ·obtain rfl:=Option.some.inj hp; obtain ⟨x,hx,rfl⟩:=Gp hq; exact Zgp L d 8 j (by simp)
 ·obtain rfl:=Option.some.inj hp; obtain ⟨x,hx,rfl⟩:=Gp hq; exact Zum L h1 d h hL j x hx
 ·exact absurd hp (by simp [QB])
theorem ZkR (L:Nat)(d:Zd)(h:ZB d)(hL:SizeOf.sizeOf d≤L):∀ p ∈ QB d,∀ q ∈ p.2,Len q.1∧q.1.length < L:=by
 have hz:=XF d
 intro p hp q hq
 simp only [QB,List.mem_cons,List.not_mem_nil,or_false] at hp
 unfold Len
 rcases hp with rfl | rfl | rfl | rfl | rfl | rfl | rfl | rfl | rfl | rfl <;> obtain ⟨x,mem,rfl⟩:=List.mem_map.1 hq
 ·have:=ZlR (fun v:XM=>v.Name) (fun x=>by cases x; simp; omega) mem; have:=(h.Vars.2 x mem).Name; simp only; omega
 ·have:=ZlR (fun v:Zu=>v.Name) (fun x=>by cases x; simp; omega) mem; have:=(h.Resources.2 x mem).Name; simp only; omega
 ·have:=ZlR (fun v:Yj=>v.Name) (fun x=>by cases x; simp; omega) mem; have:=(h.Stores.2 x mem).Name; simp only; omega
 ·have:=ZlR (fun v:YL=>v.Name) (fun x=>by cases x; simp; omega) mem; have:=(h.Belts.2 x mem).Name; simp only; omega
 ·have:=List.sizeOf_lt_of_mem mem; have:=Z4 x; have:=h.Queues.2 x mem; simp only; omega
 ·have:=List.sizeOf_lt_of_mem mem; have:=Z4 x; have:=h.Streams.2 x mem; simp only; omega
 ·have:=List.sizeOf_lt_of_mem mem; have:=Z4 x; have:=h.Tallies.2 x mem; simp only; omega
 ·have:=List.sizeOf_lt_of_mem mem; have:=Z4 x; have:=h.Levels.2 x mem; simp only; omega
 ·have:=List.sizeOf_lt_of_mem mem; have:=Z4 x; have:=h.Counts.2 x mem; simp only; omega
 ·have:=ZlR (fun v:ZJ=>v.Name) (fun x=>by cases x; simp; omega) mem; have:=(h.Routines.2 x mem).Name; simp only; omega
theorem inner (L:Nat)(h1:1000≤L)(d:Zd)(h:ZB d)(hL:SizeOf.sizeOf d≤L)(k:Nat)(p:Int×List (List UInt8×Int))(hp:(QB d)[k]? = some p)(hl:p.2.length≤32)(hk:k < 10)(self:Int×List (List UInt8)×Int×PUnit→Option Int)(s0 s:Seen)(hs:s.length≤32 * k) :
  Zq (UH d L ((QB d).map Fq) self (0,s0,(k:Int),())) L (0,s,0,())=if decide ((Y6 UQ p.2 s).1≠0)=true then some (Y6 UQ p.2 s).1 else self (0,(Y6 UQ p.2 s).2,(k:Int) + 1,()):=by
 have hg:ZG ((QB d).map Fq) (k:Int)=some (Fq p):=by rw [Zf,List.getElem?_map,hp]; rfl
 have hlen:(Fq p).length=p.2.length:=by simp [Fq]
 refine ZrN (f := UH d L ((QB d).map Fq) self (0,s0,(k:Int),())) (fun s i=>(0,s,i,())) p.2 UQ (32 * k) (fun s=>self (0,s,(k:Int) + 1,())) (by omega) (fun x s=>Zce _ _ _) (fun self1 s i x hx hi mem hsl=>?_) (fun self1 s hsl=>?_) s hs
 ·have hq:(Fq p)[i]? = some x.1:=by unfold Fq; rw [List.getElem?_map,hx]; rfl
  have hi':i < (Fq p).length:=by omega
  have hnl:=ZkR L d h hL p (List.mem_of_getElem? hp) x mem
  have hn:=FP L (by omega) x.1 s hnl.1 hnl.2 (by unfold Len; omega) (by omega)
  have hd:=Zlh L (by omega) d h hL k p hp i x hx
  rw [UH]
  simp only [hg,Zv]
  simp only [Zg,Zc,cond_true,cond_false,Zf,Zv,Za,Zn,condC,Zi,Zh,Zl,ZE,ZK,Z7,hi',hq,hn,hd,VI,apS (show s.length≤8000000000000 by omega),wrap_in (show -9223372036854775808≤(i:Int) + 1 by omega) (by omega)]
  rw [← Zcd]
  show _=bif !decide ((Yk x.1 x.2 s).1=0) then some (Yk x.1 x.2 s).1 else self1 (0,(Yk x.1 x.2 s).2,(i:Int) + 1,())
  by_cases c:(Yk x.1 x.2 s).1=0
  ·rw [Zcf c]
  ·simp [c]
 ·rw [UH,← hlen]
  simp only [hg,Zv]
  simp only [Zg,Zc,cond_true,cond_false,Zf,Zv,Za,Zn,condC,Zi,Zh,Zl,ZE,ZK,Z7,wrap_in (show -9223372036854775808≤(k:Int) + 1 by omega) (by omega)]
theorem outer (L:Nat)(h1:1000≤L)(d:Zd)(h:ZB d)(hL:SizeOf.sizeOf d≤L)(E:Option Int)(hE:(bif decide ((d.Starts.length:Int) > 32) then some (6:Int) else Zq (UI d L) L (0,0,()))=E):∀ (m k:Nat) (s:Seen),k≤10→10 - k < m→s.length≤32 * k →
  Zq (VL d L ((QB d).map Fq)) m (0,s,(k:Int),())=if decide ((Ld (((QB d).drop k).map stepD) s).1≠0)=true then some (Ld (((QB d).drop k).map stepD) s).1 else E
 | 0,_,_,_,h,_=>absurd h (Nat.not_lt_zero _)
 | m + 1,k,s,hk,hm,hs=>by
  show VL d L ((QB d).map Fq) (Zq (VL d L ((QB d).map Fq)) m) (0,s,(k:Int),())=_
  have hlen:(QB d).length=10:=rfl
  have hlm:((QB d).map Fq).length=10:=by rw [List.length_map,hlen]
  rcases Nat.lt_or_ge k 10 with hlt | hge
  ·have hp:=List.getElem?_eq_getElem (show k < (QB d).length by omega)
   generalize (QB d)[k]=p at hp
   have hg:ZG ((QB d).map Fq) (k:Int)=some (Fq p):=by rw [Zf,List.getElem?_map,hp]; rfl
   have hnl:(Fq p).length=p.2.length:=by simp [Fq]
   have hmost:=ZkQ d k p hp
   have hdrop:(QB d).drop k=p :: (QB d).drop (k + 1):=by
    rw [List.drop_eq_getElem_cons (show k < (QB d).length by omega)]
    congr 1
    exact Option.some.inj ((List.getElem?_eq_getElem (show k < (QB d).length by omega)).symm.trans hp)
   have hguard:(decide ((p.2.length:Int) > 32) || (decide ((k:Int)=9) && decide ((p.2.length:Int) > 16)))=decide (p.1 < (p.2.length:Int)):=by
    rw [hmost]
    by_cases c:k=9
    ·subst c; simp; omega
    ·rw [if_neg c,show decide ((k:Int)=9)=false by simp only [decide_eq_false_iff_not]; omega]; simp
   rw [VL,hdrop,List.map_cons,Ld]
   simp only [hlm,show decide ((k:Int) < ((10:Nat):Int))=true by simp only [decide_eq_true_eq]; omega,cond_true,hg,Zv,hnl]
   simp only [Zg,Zc,cond_true,cond_false,Zf,Zv,Za,Zn,condC,Zi,Zh,Zl,ZE,ZK,Z7,hguard]
   by_cases c:p.1 < (p.2.length:Int)
   ·have e:stepD p s=(6,s):=by unfold stepD Qu; rw [if_pos (by simpa using c)]
    simp [c,e]
   ·have e:stepD p s=Y6 UQ p.2 s:=by unfold stepD Qu; rw [if_neg (by simpa using c)]
    have hpl:p.2.length≤32:=by rw [hmost] at c; split at c <;> omega
    rw [show decide (p.1 < (p.2.length:Int))=false by simpa using c,cond_false,inner L h1 d h hL k p hp hpl hlt,e]
    have hsl:(Y6 UQ p.2 s).2.length≤32 * (k + 1):=by have:=Zkx p.2 s; omega
    have ih:=outer L h1 d h hL E hE m (k + 1) (Y6 UQ p.2 s).2 hlt (by omega) hsl
    by_cases z:(Y6 UQ p.2 s).1=0
    ·simp only [z,ne_eq,not_true_eq_false,decide_false,Bool.false_eq_true,if_false]
     exact ih
    ·simp [z]
    exact hs
  ·have:k=10:=by omega
   subst this
   rw [VL,hlm,show (QB d).drop 10=[] from rfl]
   simp only [Zg,Zc,cond_true,cond_false,Zf,Zv,Za,Zn,condC,Zi,Zh,Zl,ZE,ZK,Z7,show decide (((10:Nat):Int) < ((10:Nat):Int))=false from rfl,hE]
   simp [Ld]
theorem Zne (L:Nat)(h1:1000≤L)(d:Zd)(h:ZB d)(hL:SizeOf.sizeOf d≤L)(hd:(Ld ((QB d).map stepD) []).1=0)(hl:d.Laws.length≤32):Zq (VK d L) L ([],0,())=some (Y6 (fun l:Zcj=>Yk l.Name (Zo1 d l)) d.Laws []).1:=by
 have hs:=Sh.of hL
 have hz:=XF d
 rw [ZrN (f := VK d L) (fun s i=>(s,i,())) d.Laws (fun l:Zcj=>Yk l.Name (Zo1 d l)) 0 (fun _=>some 0) hs.law (fun x s=>Zce _ _ _) (fun self s i x hx hi mem hsl=>by
  have hm:=Zwj mem
  have e:=ZvK L d h hs (by omega) hd x (h.Laws.2 x mem) (by omega) (by omega) s (by unfold Len; omega) (by omega)
  rw [VK]
  simp only [Zg,Zc,cond_true,cond_false,Zf,Zv,Za,Zn,condC,Zi,Zh,Zl,ZE,ZK,Z7,hi,hx,e,apS (show s.length≤8000000000000 by omega),wrap_succ hi (by omega)]
  by_cases c:(Yk x.Name (Zo1 d x) s).1=0
  ·rw [Zcf c]
  ·simp [c]) (fun self s hsl=>by rw [VK]; simp only [Zg,Zc,cond_true,cond_false,Zf,Zv,Za,Zn,condC,Zi,Zh,Zl,ZE,ZK,Z7]) [] (Nat.le_refl _)]
 by_cases c:(Y6 (fun l:Zcj=>Yk l.Name (Zo1 d l)) d.Laws []).1=0 <;> simp [c]
theorem Zs2 (L:Nat)(h1:1000≤L)(d:Zd)(h:ZB d)(hL:SizeOf.sizeOf d≤L):Lr L (d,())=some (Zfj d):=by
 have hs:=Sh.of hL
 have hz:=XF d
 rw [Zly,Zif L d h hs,Zv,ZjQ,ZsK]
 have o:=outer L h1 d h hL _ rfl L 0 [] (Nat.zero_le _) (by omega) (Nat.le_refl _)
 rw [List.drop_zero] at o
 rw [show ((0:Int))=((0:Nat):Int) from rfl]
 refine o.trans ?_
 unfold Zu8
 by_cases hd:(Ld ((QB d).map stepD) []).1=0
 ·rw [if_neg (by simp [hd]),if_neg (by simp [hd])]
  have st:Zq (UI d L) L (0,0,())=some (if decide (Yb (XR d) d.Starts≠0)=true then Yb (XR d) d.Starts else L8 d):=by
   have hl:=h.Starts.1
   have lw:(bif decide ((d.Laws.length:Int) > 32) then some (6:Int) else Zq (VK d L) L ([],0,()))=some (L8 d):=by
    unfold L8 Qu
    by_cases c:32 < (d.Laws.length:Int)
    ·simp [c]
    ·rw [Zne L h1 d h hL hd (by omega)]; simp [c]
   refine SC d.Starts (fun l _=>some (if decide (Yb (XR d) l≠0)=true then Yb (XR d) l else L8 d)) hs.sta 0 (fun self n i x r hx hi mem e=>?_) (fun self n=>?_)
   ·have hm:=ZlR (fun v:QC=>v.Routine) (fun x=>by cases x; simp; omega) mem
    have hx2:SizeOf.sizeOf x.Args < SizeOf.sizeOf x:=by cases x; simp; omega
    have ha:=Z4 x.Args
    rw [UI]
    simp only [Zg,Zc,cond_true,cond_false,Zf,Zv,Za,Zn,condC,Zi,Zh,Zl,ZE,ZK,Z7,hi,hx,ZpT L d h hs x (h.Starts.2 x mem) (by omega),wrap_succ hi (by omega),e,Yb]
    by_cases c:XR d x=0 <;> simp [c]
   ·rw [UI]; simp only [Zg,Zc,cond_true,cond_false,Zf,Zv,Za,Zn,condC,Zi,Zh,Zl,ZE,ZK,Z7,lw,Yb]; rfl
  rw [st]
  unfold Cb Bl
  by_cases c:32 < (d.Starts.length:Int) <;> simp [c]
 ·rw [if_pos (by simp [hd]),if_pos (by simp [hd])]
theorem ZnG (L:Nat)(h1:1000≤L)(n:List UInt8)(hn:n.length≤140737488351232)(hnL:n.length < L)(d:Zd)(h:ZB d)(hL:SizeOf.sizeOf d≤L):IE L (⟨n,[],[d],[]⟩,())=some (M1 n d):=by
 have hs:=Sh.of hL
 have e1:=VJ L n (by unfold Len; omega) hnL (by omega)
 have e2:=FP L (by omega) d.Name [] (by have:=h.Name; unfold Len; omega) hs.nm (by simp [Len]) (by simp; omega)
 have e3:IG L (⟨n,[],[d],[]⟩,())=some 0:=by
  rw [ZiB,Zcx _ (show 2 < L by omega)]
  simp only [Af,Zta,cond_false]
 have e5:Zq (Tn ⟨n,[],[d],[]⟩ L) L ([],0,())=some (Yk d.Name (Zfj d) []).1:=by
  rw [Zcx _ (show 2 < L by omega)]
  simp only [Tn,one1,w01,e2,e3,Zv,Za,cond_true,cond_false,Zs2 L h1 d h hL,VI,apS (show ([]:List (List UInt8)).length≤8000000000000 by simp),Z7]
  rw [← Zcd]
  by_cases c:(Yk d.Name (Zfj d) []).1=0 <;> simp [c]
 have e4:Zq (Tq ⟨n,[],[d],[]⟩ L) L (0,[],0,())=some (Yk d.Name (Zfj d) []).1:=by
  rw [Zcx _ (show 2 < L by omega)]
  simp only [Tq,Zta,one1,cond_false,Xf,VI,Zv,Za,Z7,Yq,if_true,YK,e5]
  rfl
 rw [Zi7,e1,e4]
 simp only [Zv,Za,Xf,VI,Zta,Yq,if_true,YK,Z7,M1]
 by_cases a:XB n=0 <;> simp [a]
end Go.Proofs.YtleomfgijkapfaaGreatDoor
end
section
namespace Go.Proofs.YtleomfgijkapfaaGreatDoor
open Go Go.Proofs.YtleomfgijkapfaaGreatDoor.Abs Go.Proofs.YtleomfgijkapfaaGreatDoor.Tl
set_option maxRecDepth 100000
mutual
theorem Zko (L:Nat):∀ (m:Nat) (a b:Zt),ZZ a→2 * SizeOf.sizeOf a≤m→m≤L→IR L m (a,b,())=some (Nc a b)
 | 0,e,_,h,hs,_=>absurd hs (by have:=RH e; omega)
 | m + 1,e,b,h,hs,hm=>by
  have hz:=Zop e
  have ih:=Zil L m e.Kids b.Kids h.k (fun x hx=>h.Kids.2 x hx) (by omega) (by omega)
  simp only [Zg,Zc,cond_true,cond_false,Zf,Zv,Za,Zn,condC,Zi,Zh,Zl,ZE,ZK,Z7,Zlr,ih,FZ,ZhG]; simp only [Ye,Q4,if_true,if_false,Bool.false_eq_true,ne_eq,decide_not,gt_iff_lt,ge_iff_le]
  by_cases h1:e.Op=b.Op <;> by_cases h2:e.Name=b.Name <;> by_cases h3:e.N=b.N <;> simp [h1,h2,h3]
theorem Zil (L:Nat):∀ (m:Nat) (a b:List Zt),a.length≤4611686018427387→(∀ x ∈ a,ZZ x)→2 * SizeOf.sizeOf a + 1≤m→m≤L→Gw L m (a,b,())=some (if (!decide ((a.length:Int)=(b.length:Int)))=true then false else all2 Nc a b)
 | 0,e,_,h,_,hs,_=>absurd hs (by omega)
 | m + 1,a,b,h,ho,hs,hm=>by
  have hk:=Z4 a
  rcases ZsZ a b with ⟨hl1,hl2⟩ | ⟨hl1,hl2⟩
  ·have lp:Zq (Jc m a b L) L (0,())=some (all2 Nc a b):=by
    refine Zcy a b hl1 (fun l l'=>some (all2 Nc l l')) (by omega) (fun self i x y r r' hx hy hi mem e'=>?_) (fun self=>?_)
    ·have ih:=Zko L m x y (ho x mem) (by have:=List.sizeOf_lt_of_mem mem; omega) (by omega)
     rw [Jc]; simp only [Zg,Zc,cond_true,cond_false,Zf,Zv,Za,Zn,condC,Zi,Zh,Zl,ZE,ZK,Z7,hi,hx,hy,ih,wrap_succ hi (by omega),e',all2]; simp only [Ye,Q4,if_true,if_false,Bool.false_eq_true,ne_eq,decide_not,gt_iff_lt,ge_iff_le]
    ·rw [Jc]; simp only [Zg,Zc,cond_true,cond_false,Zf,Zv,Za,Zn,condC,Zi,Zh,Zl,ZE,ZK,Z7,all2]
   simp only [Zg,Zc,cond_true,cond_false,Zf,Zv,Za,Zn,condC,Zi,Zh,Zl,ZE,ZK,Z7,PU,lp,hl2,Bool.not_true]; simp only [Ye,Q4,if_true,if_false,Bool.false_eq_true,ne_eq,decide_not,gt_iff_lt,ge_iff_le]
  ·simp only [Zg,Zc,cond_true,cond_false,Zf,Zv,Za,Zn,condC,Zi,Zh,Zl,ZE,ZK,Z7,PU,hl2,Bool.not_false]; simp only [Ye,Q4,if_true,if_false,Bool.false_eq_true,ne_eq,decide_not,gt_iff_lt,ge_iff_le]
end
theorem ZnK (L:Nat)(e:Zt)(h:ZZ e)(hL:2 * SizeOf.sizeOf e≤L):Hg L (e,⟨0,[],0,[]⟩,())=some (NP e):=by
 rw [show Hg L (e,⟨0,[],0,[]⟩,())=_ from Zko L L e _ h hL (Nat.le_refl _),SS]
mutual
def Zfp (hd:Zt→Bool):Zt→Bool
 | ⟨o,a,n,ks⟩=>hd ⟨o,a,n,ks⟩ && Lt hd ks
def Lt (hd:Zt→Bool):List Zt→Bool
 | []=>true
 | x :: r=>Zfp hd x && Lt hd r
end
theorem ZlW (hd:Zt→Bool)(e:Zt):Zfp hd e=(hd e && Lt hd e.Kids):=by cases e; rw [Zfp]
def hdA (d:Zd)(c:Y4)(e:Zt):Bool :=
 if decide (e.Op=25)=true then decide (0≤e.N) && decide (e.N < c.Slots) else if decide (e.Op=26)=true then decide (0≤e.N) && decide (e.N < (d.Vars.length:Int)) else if decide (e.Op=22)=true then decide (0≤e.N) && decide (e.N < (d.Resources.length:Int)) else if decide (e.Op=23)=true then decide (0≤e.N) && decide (e.N < (d.Stores.length:Int))
 else if decide (e.Op=24)=true then decide (e.N < IntKind.i64.wrap ((d.Resources.length:Int) + (d.Queues.length:Int))) else true
def hdB (d:Zd)(c:Y4)(e:Zt):Bool :=
 if (decide (e.Op=25) && decide (c.Slots≤e.N))=true then false else if (decide (e.Op=26) && decide ((d.Vars.length:Int)≤e.N))=true then false else if (decide (e.Op=22) && decide ((d.Resources.length:Int)≤e.N))=true then false else if (decide (e.Op=23) && decide ((d.Stores.length:Int)≤e.N))=true then false
 else if (decide (e.Op=24) && decide (IntKind.i64.wrap ((d.Resources.length:Int) + (d.Queues.length:Int))≤e.N))=true then false else true
theorem Zvm (d:Zd)(c:Y4)(e:Zt)(h:Fv true e=0):hdA d c e=hdB d c e:=by
 have key:(e.Op=25∨e.Op=26∨e.Op=22∨e.Op=23)→0≤e.N:=by
  intro ho
  rcases ho with ho | ho | ho | ho <;> simp [Fv,ho,Zo2,Znv,ZaM,Zgb,Zdp] at h <;> grind
 unfold hdA hdB
 by_cases h1:e.Op=25
 ·have:=key (.inl h1); simp [h1,this]; (first | omega | (rw [← decide_not]; exact decide_eq_decide.2 (by omega)) | (split <;> simp_all <;> omega) | grind)
 by_cases h2:e.Op=26
 ·have:=key (.inr (.inl h2)); simp [h2,this]; (first | omega | (rw [← decide_not]; exact decide_eq_decide.2 (by omega)) | (split <;> simp_all <;> omega) | grind)
 by_cases h3:e.Op=22
 ·have:=key (.inr (.inr (.inl h3))); simp [h3,this]; (first | omega | (rw [← decide_not]; exact decide_eq_decide.2 (by omega)) | (split <;> simp_all <;> omega) | grind)
 by_cases h4:e.Op=23
 ·have:=key (.inr (.inr (.inr h4))); simp [h4,this]; (first | omega | (rw [← decide_not]; exact decide_eq_decide.2 (by omega)) | (split <;> simp_all <;> omega) | grind)
 by_cases h5:e.Op=24
 ·simp [h5]; (first | omega | (rw [← decide_not]; exact decide_eq_decide.2 (by omega)) | (split <;> simp_all <;> omega) | grind)
 simp [h1,h2,h3,h4,h5]
theorem ZjG {α:Type}(f:α→Int):∀ l:List α,Yb f l=0→∀ x ∈ l,f x=0
 | [],_,x,hx=>by cases hx
 | y :: l,h,x,hx=>by
  rw [Yb] at h
  by_cases c:f y=0
  ·simp [c] at h
   rcases List.mem_cons.1 hx with rfl | hx
   ·exact c
   ·exact ZjG f l h x hx
  ·simp [c] at h
mutual
theorem Zqz (d:Zd) (c:Y4):∀ e:Zt,V9 true e=0→Zfp (hdA d c) e=Zfp (hdB d c) e
 | ⟨o,a,n,ks⟩,h=>by
  rw [ZaQ] at h
  by_cases z:Fv true ⟨o,a,n,ks⟩=0
  ·simp [z] at h
   rw [Zfp,Zfp,Zvm d c _ z,ZlY d c ks (ZjG _ ks h)]
  ·simp [z] at h
theorem ZlY (d:Zd) (c:Y4):∀ l:List Zt,(∀ x ∈ l,V9 true x=0)→Lt (hdA d c) l=Lt (hdB d c) l
 | [],_=>by rw [Lt,Lt]
 | x :: l,h=>by rw [Lt,Lt,Zqz d c x (h x (List.mem_cons_self ..)),ZlY d c l fun y hy=>h y (List.mem_cons_of_mem _ hy)]
end
theorem ZnO (L:Nat)(p:Zk)(si:Int)(sc:ZC)(hs:ZG p.Sites si=some sc)(c:Y4):∀ (m:Nat) (e:Zt),ZZ e→SizeOf.sizeOf e≤m→m≤L→IV L m (p,si,c,e,())=some (Zfp (hdB sc.Decl c) e)
 | 0,e,h,hsz,_=>absurd hsz (by have:=RH e; omega)
 | m + 1,e,h,hsz,hm=>by
  have hk:=Z4 e.Kids; have hz:=Zop e; have hl:=h.k
  have lp:Zq (Ib m p si c e L) L (0,())=some (Lt (hdB sc.Decl c) e.Kids):=by
   refine SB e.Kids (fun l=>some (Lt (hdB sc.Decl c) l)) (by omega) (fun self i x r hx hi mem e'=>?_) (fun self=>?_)
   ·have ih:=ZnO L p si sc hs c m x (h.Kids.2 x mem) (by have:=P7 mem; omega) (by omega)
    rw [Ib]; simp only [Zg,Zc,cond_true,cond_false,Zf,Zv,Za,Zn,condC,Zi,Zh,Zl,ZE,ZK,Z7,hi,hx,ih,wrap_succ hi (by omega),e',Lt]
    cases Zfp (hdB sc.Decl c) x <;> rfl
   ·rw [Ib]; simp only [Zg,Zc,cond_true,cond_false,Zf,Zv,Za,Zn,condC,Zi,Zh,Zl,ZE,ZK,Z7,Lt]
  rw [Zl1,hs,Zv,lp,ZlW]
  simp only [Zg,Zc,cond_true,cond_false,Zf,Zv,Za,Zn,condC,Zi,Zh,Zl,ZE,ZK,Z7,hdB]; simp only [Ye,Q4,if_true,if_false,Bool.false_eq_true,ne_eq,decide_not,gt_iff_lt,ge_iff_le]
  (repeat' split) <;> simp_all
theorem ZlX (hd:Zt→Bool):∀ l:List Zt,(!(l.any fun y=>!(Zfp hd y)))=Lt hd l
 | []=>by rw [Lt]; rfl
 | x :: l=>by rw [List.any_cons,Lt,← ZlX hd l]; cases Zfp hd x <;> simp
theorem ZnP (L:Nat)(p:Zk)(si:Int)(sc:ZC)(hs:ZG p.Sites si=some sc)(c:Y4):∀ (m:Nat) (e:Zt),ZZ e→SizeOf.sizeOf e≤m→m≤L→ZW L m (⟨p,si,c⟩,e,())=some (Zfp (hdA sc.Decl c) e)
 | 0,e,h,hsz,_=>absurd hsz (by have:=RH e; omega)
 | m + 1,e,h,hsz,hm=>by
  have hk:=Z4 e.Kids; have hz:=Zop e; have hl:=h.k
  have lp:Zq (ZU m ⟨p,si,c⟩ e L) L (0,())=some (UF (fun y=>!(Zfp (hdA sc.Decl c) y)) e.Kids 0):=by
   refine ZhO e.Kids (fun l i=>some (UF (fun y=>!(Zfp (hdA sc.Decl c) y)) l i)) (by omega) (fun self i x r hx hi mem e'=>?_) (fun self=>?_)
   ·have ih:=ZnP L p si sc hs c m x (h.Kids.2 x mem) (by have:=P7 mem; omega) (by omega)
    rw [ZU]; simp only [Zg,Zc,cond_true,cond_false,Zf,Zv,Za,Zn,condC,Zi,Zh,Zl,ZE,ZK,Z7,hi,hx,ih,wrap_succ hi (by omega),e',UF]; simp only [Ye,Q4,if_true,if_false,Bool.false_eq_true,ne_eq,decide_not,gt_iff_lt,ge_iff_le]
   ·rw [ZU]; simp only [Zg,Zc,cond_true,cond_false,Zf,Zv,Za,Zn,condC,Zi,Zh,Zl,ZE,ZK,Z7,UF]
  have hge:decide (UF (fun y=>!(Zfp (hdA sc.Decl c) y)) e.Kids 0 ≥ 0)=e.Kids.any fun y=>!(Zfp (hdA sc.Decl c) y):=Sv _ _ 0 (Int.le_refl _)
  have hmost:∀ w o,Yn L (⟨p,si,c⟩,w,o,())=_:=fun w o=>XC L ⟨p,si,c⟩ w o
  rw [BK,show JH=ZU from rfl,show JI=ZU from rfl,show JJ=ZU from rfl,show JK=ZU from rfl,show JL=ZU from rfl,lp,ZlW]
  simp only [Zg,Zc,cond_true,cond_false,Zf,Zv,Za,Zn,condC,Zi,Zh,Zl,ZE,ZK,Z7,Vk,hmost,hs,hge,ZlX,hdA,Int.reduceEq,decide_true,decide_false]; simp only [Ye,Q4,if_true,if_false,Bool.false_eq_true,ne_eq,decide_not,gt_iff_lt,ge_iff_le,Bool.true_and]
  (repeat' split) <;> simp_all
end Go.Proofs.YtleomfgijkapfaaGreatDoor
end
section
namespace Go.Proofs.YtleomfgijkapfaaGreatDoor
open Go Go.Proofs.YtleomfgijkapfaaGreatDoor.Abs Go.Proofs.YtleomfgijkapfaaGreatDoor.Tl
set_option maxRecDepth 100000
def Zoz (p:Zk)(a b:Int):Int×Bool×PUnit:=match p.Links.find? (fun l=>decide (l.From=a) && decide (l.To=b)) with
 | some l=>(l.Delay,true,())
 | none=>(0,false,())
theorem ZnB (L:Nat)(p:Zk)(a b:Int)(h:p.Links.length≤4611686018427387)(hL:p.Links.length < L):U2 L (p,a,b,())=some (Zoz p a b):=by
 rw [Zlo,ZhO p.Links (fun l i=>some (UF (fun l:Zhs=>decide (l.From=a) && decide (l.To=b)) l i)) hL (fun self i x r hx hi _ e=>by
  rw [Bg]; simp only [Zg,Zc,cond_true,cond_false,Zf,Zv,Za,Zn,condC,Zi,Zh,Zl,ZE,ZK,Z7,hi,hx,wrap_succ hi (by omega),e,UF]; simp only [Ye,Q4,if_true,if_false,Bool.false_eq_true,ne_eq,decide_not,gt_iff_lt,ge_iff_le]) (fun self=>by rw [Bg]; simp only [Zg,Zc,cond_true,cond_false,Zf,Zv,Za,Zn,condC,Zi,Zh,Zl,ZE,ZK,Z7,UF]),Zv,Zoz]
 rcases FN (fun l:Zhs=>decide (l.From=a) && decide (l.To=b)) p.Links 0 with ⟨e1,e2⟩ | ⟨k,r,e1,e2,e3⟩
 ·rw [e1,e2]; rfl
 ·rw [e1,e2,Int.zero_add,show decide ((k:Int) < 0)=false by simp only [decide_eq_false_iff_not]; omega,cond_false,Zf,e3]; rfl
theorem Zut (L:Nat)(p:Zk)(a b:Int)(h:p.Links.length≤4611686018427387)(hL:p.Links.length < L):NM L (p,a,b,())=some (Zoz p a b):=by
 rw [ZnW,Zoz]
 refine SB p.Links (fun l=>some (match l.find? (fun l=>decide (l.From=a) && decide (l.To=b)) with | some l=>(l.Delay,true,()) | none=>(0,false,()))) hL (fun self i x r hx hi _ e=>?_) (fun self=>?_)
 ·rw [SH]; simp only [Zg,Zc,cond_true,cond_false,Zf,Zv,Za,Zn,condC,Zi,Zh,Zl,ZE,ZK,Z7,hi,hx,wrap_succ hi (by omega),e,List.find?_cons]
  cases decide (x.From=a) <;> cases decide (x.To=b) <;> rfl
 ·rw [SH]; simp only [Zg,Zc,cond_true,cond_false,Zf,Zv,Za,Zn,condC,Zi,Zh,Zl,ZE,ZK,Z7,List.find?_nil]
def Zp1 (p:Zk)(d:Zd)(c:Y4)(k:Int):Int :=
 if decide (k=1)=true then c.Slots else if decide (k=2)=true then (d.Vars.length:Int) else if decide (k=3)=true then (d.Streams.length:Int) else if decide (k=4)=true then (c.Instrs.length:Int) else if decide (k=5)=true then (d.Resources.length:Int) else if decide (k=6)=true then (d.Stores.length:Int) else if decide (k=7)=true then (d.Belts.length:Int) else if decide (k=8)=true then (d.Queues.length:Int) else if decide (k=9)=true then (p.Sites.length:Int) else if decide (k=11)=true then (d.Tallies.length:Int) else if decide (k=12)=true then (d.Levels.length:Int) else if decide (k=13)=true then (d.Counts.length:Int) else 1
def Zpk (p:Zk)(d:Zd)(c:Y4)(k x:Int):Bool:=decide (0≤x) && decide (x < Zp1 p d c k)
theorem Zup (L:Nat)(p:Zk)(si:Int)(sc:ZC)(hs:ZG p.Sites si=some sc)(c:Y4)(k x o:Int)(hk:k≠10):ZN L (⟨p,si,c⟩,k,x,o,())=some (Zpk p sc.Decl c k x):=by
 have h10:decide (k=10)=false:=by simp [hk]
 have hmost:Yn L (⟨p,si,c⟩,k,o,())=some (Zp1 p sc.Decl c k):=by
  rw [XC]; simp only [Zg,Zc,cond_true,cond_false,Zf,Zv,Za,Zn,condC,Zi,Zh,Zl,ZE,ZK,Z7,hs,h10,Zp1]; simp only [Ye,Q4,if_true,if_false,Bool.false_eq_true,ne_eq,decide_not,gt_iff_lt,ge_iff_le]
 simp only [Zg,Zc,cond_true,cond_false,Zf,Zv,Za,Zn,condC,Zi,Zh,Zl,ZE,ZK,Z7,Vk,hmost,Zpk]
theorem ZnE (L:Nat)(p:Zk)(si:Int)(sc:ZC)(hs:ZG p.Sites si=some sc)(c:Y4)(x o:Int)(so:ZC)(ho:ZG p.Sites o=some so):ZN L (⟨p,si,c⟩,10,x,o,())=some (decide (0≤x) && decide (x < (so.Routines.length:Int))):=by
 have hmost:Yn L (⟨p,si,c⟩,10,o,())=some (so.Routines.length:Int):=by
  rw [XC]; simp only [Zg,Zc,cond_true,cond_false,Zf,Zv,Za,Zn,condC,Zi,Zh,Zl,ZE,ZK,Z7,hs,ho,Int.reduceEq,decide_true,decide_false]
 simp only [Zg,Zc,cond_true,cond_false,Zf,Zv,Za,Zn,condC,Zi,Zh,Zl,ZE,ZK,Z7,Vk,hmost]
def ZuR (w:List UInt8):Int:=if w=[115,108,111,116] then 1 else if w=[118,97,114] then 2 else if w=[115,116,114,101,97,109] then 3 else if w=[105,110,115,116,114] then 4 else if w=[114,101,115,111,117,114,99,101] then 5 else if w=[115,116,111,114,101] then 6 else if w=[98,101,108,116] then 7 else if w=[113,117,101,117,101] then 8 else if w=[115,105,116,101] then 9 else if w=[116,97,108,108,121] then 11 else if w=[108,101,118,101,108] then 12 else if w=[99,111,117,110,116] then 13 else 0
def Zk4:List (List UInt8):=[[],[115,108,111,116],[118,97,114],[115,116,114,101,97,109],[105,110,115,116,114],[114,101,115,111,117,114,99,101],[115,116,111,114,101],[98,101,108,116],[113,117,101,117,101],[115,105,116,101],[116,97,108,108,121],[108,101,118,101,108],[99,111,117,110,116]]
theorem Zkd (L:Nat)(p:Zk)(si:Int)(sc:ZC)(hs:ZG p.Sites si=some sc)(c:Y4)(w:List UInt8)(hw:w ∈ Zk4)(x:Int):J9 L (p,si,c,w,x,())=some (decide (ZuR w=0) || Zpk p sc.Decl c (ZuR w) x):=by
 simp only [Zk4,List.mem_cons,List.not_mem_nil,or_false] at hw
 rcases hw with rfl | rfl | rfl | rfl | rfl | rfl | rfl | rfl | rfl | rfl | rfl | rfl | rfl <;> (rw [ZgE,ZiI,hs,show decide (x ≥ 0)=decide (0≤x) from rfl]; unfold Zpk; generalize decide (0≤x)=b; cases b <;> rfl)
structure Rel (op:Int)(f:Gn)(g:X7):Prop where
 rc:g.C=f.c
 re:g.E=f.e
 rf:g.F=f.f
 rargs:g.Args=f.args
 rflag:g.Flag=f.preempt
 rdist:f.dist=decide (op=3)
 rgdist:g.Dist=f.dist
 wa:g.A ∈ Zk4
 na:ZuR g.A=f.a
 wa0:decide (g.A=[])=decide (f.a=0)
 na10:f.a≠10
 wb0:decide (g.B=[])=decide (f.b=0)
 wb:op≠14→op≠15→g.B ∈ Zk4∧ZuR g.B=f.b∧f.b≠10
 f14:op=14→f.a=9
 f15:op=15→f.a=0
theorem ZmL (L:Nat)(op:Int)(h:1≤op∧op≤19):∃ f g gs,ZG UE op=some f∧QY L ()=some gs∧ZG gs op=some g∧Rel op f g:=by
 have:op=1∨op=2∨op=3∨op=4∨op=5∨op=6∨op=7∨op=8∨op=9∨op=10∨op=11∨op=12∨op=13∨op=14∨op=15∨op=16∨op=17∨op=18∨op=19:=by omega
 rcases this with rfl | rfl | rfl | rfl | rfl | rfl | rfl | rfl | rfl | rfl | rfl | rfl | rfl | rfl | rfl | rfl | rfl | rfl | rfl <;>
  exact ⟨_,_,_,rfl,ZiG L,rfl,⟨rfl,rfl,rfl,rfl,rfl,rfl,rfl,by decide,by decide,by decide,by decide,by decide,by decide,by decide,by decide⟩⟩
end Go.Proofs.YtleomfgijkapfaaGreatDoor
end
section
namespace Go.Proofs.YtleomfgijkapfaaGreatDoor
open Go Go.Proofs.YtleomfgijkapfaaGreatDoor.Abs Go.Proofs.YtleomfgijkapfaaGreatDoor.Tl
set_option maxRecDepth 100000
theorem Ztu (c x:Bool):(bif c then false else x)=(!c && x):=by cases c <;> rfl
theorem Zhl (i:Yo):SizeOf.sizeOf i.E < SizeOf.sizeOf i∧SizeOf.sizeOf i.F < SizeOf.sizeOf i∧SizeOf.sizeOf i.Args < SizeOf.sizeOf i∧SizeOf.sizeOf i.Dist < SizeOf.sizeOf i:=by cases i; simp; omega
def ZfI (f:Gn)(i:Yo):Bool:=(!decide (f.a=0) || decide (i.A=0)) && (!decide (f.b=0) || decide (i.B=0)) && (f.c || decide (i.C=0)) && (f.e || NP i.E) && (f.f || NP i.F) && (f.args || decide ((i.Args.length:Int)=0)) && (f.dist || RU i.Dist) && (f.preempt || !i.Flag)
theorem Zst (L:Nat)(i:Yo)(h:Gj i)(hL:2 * SizeOf.sizeOf i≤L)(f:Gn)(hf:ZG UE i.Op=some f):KQ L (i,())=some (ZfI f i):=by
 have hz:=Zhl i
 have z:=fun e (he:ZZ e) (hl:SizeOf.sizeOf e≤L)=>show UZ L (e,())=some (NP e) by simp only [Zg,Zc,cond_true,cond_false,Zf,Zv,Za,Zn,condC,Zi,Zh,Zl,ZE,ZK,Z7,Zir,ZnD L e _ he hl,SS]
 rw [Zgy,hf]
 simp only [Zg,Zc,cond_true,cond_false,Zf,Zv,Za,Zn,condC,Zi,Zh,Zl,ZE,ZK,Z7,z i.E h.E (by omega),z i.F h.F (by omega),Zez L i.Dist _ h.Dist (by omega),Ux,ZfI]
theorem ZqJ (n:Nat):(!decide ((n:Int) > 0))=decide ((n:Int)=0):=by rw [← decide_not]; exact decide_eq_decide.2 (by omega)
theorem Zsz (L:Nat)(i:Yo)(h:Gj i)(hL:2 * SizeOf.sizeOf i≤L)(f:Gn)(g:X7)(gs:List X7)(hg:QY L ()=some gs)(hg':ZG gs i.Op=some g)(r:Rel i.Op f g):IM L (i,())=some (ZfI f i):=by
 have hz:=Zhl i
 rw [ZiL,hg,Za,Zv,hg',Zv]
 simp only [Zg,Zc,cond_true,cond_false,Zf,Zv,Za,Zn,condC,Zi,Zh,Zl,ZE,ZK,Z7,ZnK L i.E h.E (by omega),ZnK L i.F h.F (by omega),FO L i.Dist _ h.Dist (by omega),Ux,r.wa0,r.wb0,r.rc,r.re,r.rf,r.rargs,r.rflag,r.rgdist,Ztu,Bool.not_and,Bool.not_not,ZqJ,ZfI]
 congr 1
 ac_rfl
def ZfM (f:Gn)(i:Yo):List Zt:=(bif f.e then [i.E] else []) ++ ((bif f.f then [i.F] else []) ++ (bif f.args then i.Args else []))
theorem apE (l m:List Zt)(h:(l.length + m.length) * 56≤140737488355328):apT 56 l m=some (l ++ m):=by unfold apT; rw [if_pos h]
theorem Zwc (i:Yo)(ha:i.Args.length * 56≤140737488351232):apT 56 [] [i.E]=some [i.E]∧apT 56 [] [i.F]=some [i.F]∧apT 56 [i.E] [i.F]=some ([i.E] ++ [i.F])∧apT 56 [] i.Args=some i.Args∧apT 56 [i.E] i.Args=some ([i.E] ++ i.Args)∧apT 56 [i.F] i.Args=some ([i.F] ++ i.Args)∧apT 56 ([i.E] ++ [i.F]) i.Args=some ([i.E] ++ [i.F] ++ i.Args) :=
 ⟨apE [] [i.E] (by simp),apE [] [i.F] (by simp),apE _ _ (by simp),apE [] i.Args (by simp only [List.length_nil]; omega),apE _ _ (by simp only [List.length_cons,List.length_nil]; omega),apE _ _ (by simp only [List.length_cons,List.length_nil]; omega),apE _ _ (by simp only [List.cons_append,List.nil_append,List.length_cons,List.length_nil]; omega)⟩
theorem Zgq (L:Nat)(n:Int):J5 L (n,())=some (btw n 1 19):=Zgz L n
theorem Zdw (L:Nat)(n:Int):Kt L (n,())=some (btw n 1 19):=ZiK L n
theorem ZpO (L:Nat)(i:Yo)(h:Gj i)(hk:btw i.Op 1 19=true)(f:Gn)(hf:ZG UE i.Op=some f):Wi L (i,())=some (ZfM f i):=by
 have ha:=h.Args.1
 simp only [Zg,Zc,cond_true,cond_false,Zf,Zv,Za,Zn,condC,Zi,Zh,Zl,ZE,ZK,Z7,PS,Zgq,hk,hf,Bool.not_true]
 unfold ZfM
 obtain ⟨a0,a1,a2,a3,a4,a5,a6⟩:=Zwc i ha
 cases f.e <;> cases f.f <;> cases f.args <;> simp only [cond_true,cond_false,a0,a1,a2,a3,a4,a5,a6,Zv,List.nil_append,List.append_nil,List.append_assoc]
theorem ZpS (L:Nat)(i:Yo)(h:Gj i)(hk:btw i.Op 1 19=true)(f:Gn)(g:X7)(gs:List X7)(hg:QY L ()=some gs)(hg':ZG gs i.Op=some g)(r:Rel i.Op f g):IK L (i,())=some (ZfM f i):=by
 have ha:=h.Args.1
 simp only [Zg,Zc,cond_true,cond_false,Zf,Zv,Za,Zn,condC,Zi,Zh,Zl,ZE,ZK,Z7,ZiF,Zdw,hk,hg,hg',r.re,r.rf,r.rargs,Bool.not_true]
 unfold ZfM
 obtain ⟨a0,a1,a2,a3,a4,a5,a6⟩:=Zwc i ha
 cases f.e <;> cases f.f <;> cases f.args <;> simp only [cond_true,cond_false,a0,a1,a2,a3,a4,a5,a6,Zv,List.nil_append,List.append_nil,List.append_assoc]
theorem Zty (f:Gn)(i:Yo)(h:Gj i):(ZfM f i).length≤4611686018427387∧(ZfM f i).length≤2 + i.Args.length∧∀ x ∈ ZfM f i,ZZ x∧SizeOf.sizeOf x < SizeOf.sizeOf i:=by
 have hz:=Zhl i
 have ha:=h.Args.1
 have hl:(ZfM f i).length≤2 + i.Args.length:=by
  unfold ZfM; cases f.e <;> cases f.f <;> cases f.args <;> simp <;> omega
 refine ⟨by omega,hl,fun x hx=>?_⟩
 unfold ZfM at hx
 rcases List.mem_append.1 hx with hx | hx
 ·cases he:f.e <;> rw [he] at hx
  ·cases hx
  ·rw [List.mem_singleton.1 hx]; exact ⟨h.E,by omega⟩
 rcases List.mem_append.1 hx with hx | hx
 ·cases he:f.f <;> rw [he] at hx
  ·cases hx
  ·rw [List.mem_singleton.1 hx]; exact ⟨h.F,by omega⟩
 ·cases he:f.args <;> rw [he] at hx
  ·cases hx
  ·have hx:x ∈ i.Args:=hx
   exact ⟨h.Args.2 x hx,by have:=List.sizeOf_lt_of_mem hx; omega⟩
def esR (d:Zd)(c:Y4)(t:Int):List Zt→Int
 | []=>t
 | x :: r=>if decide (WI true x≠0)=true then WI true x else if (!(Zfp (hdA d c) x))=true then 2 else esR d c t r
theorem lpA (L:Nat)(h1:1000≤L)(p:Zk)(si:Int)(sc:ZC)(hs:ZG p.Sites si=some sc)(c:Y4)(i:Yo)(h:Gj i)(hL:2 * SizeOf.sizeOf i≤L)(f:Gn)(op:f.dist=decide (i.Op=3)):Zq (Y0 ⟨p,si,c⟩ i L f (ZfM f i)) L (0,())=some (esR sc.Decl c (if decide (i.Op=3)=true then O4 i.Dist else 0) (ZfM f i)):=by
 obtain ⟨e1,e2,e3⟩:=Zty f i h
 have hz:=Zhl i; have hk:=Z4 i.Args
 refine SB (ZfM f i) (fun l=>some (esR sc.Decl c (if decide (i.Op=3)=true then O4 i.Dist else 0) l)) (by omega) (fun self j x r hx hi mem e=>?_) (fun self=>?_)
 ·obtain ⟨o1,o2⟩:=e3 x mem
  rw [Y0]
  simp only [Zg,Zc,cond_true,cond_false,Zf,Zv,Za,Zn,condC,Zi,Zh,Zl,ZE,ZK,Z7,hi,hx,Zie L x o1 (by omega),show Wy L (⟨p,si,c⟩,x,())=_ from ZnP L p si sc hs c L x o1 (by omega) (Nat.le_refl _),wrap_succ hi (by omega),e,esR]; simp only [Ye,Q4,if_true,if_false,Bool.false_eq_true,ne_eq,decide_not,gt_iff_lt,ge_iff_le]
 ·rw [Y0]; simp only [Zg,Zc,cond_true,cond_false,Zf,Zv,Za,Zn,condC,Zi,Zh,Zl,ZE,ZK,Z7,op,H8 L i.Dist h.Dist (by omega) (by omega),esR]; simp only [Ye,Q4,if_true,if_false,Bool.false_eq_true,ne_eq,decide_not,gt_iff_lt,ge_iff_le]
theorem ZfH (x:Zt)(h:WI true x=0):V9 true x=0:=by
 unfold WI at h
 by_cases a:60 < Zm4 x
 ·simp [a] at h
 by_cases b:12 < ZlN x
 ·simp [a,b] at h
 simpa [a,b] using h
theorem lpB (L:Nat)(h1:1000≤L)(p:Zk)(si:Int)(sc:ZC)(hs:ZG p.Sites si=some sc)(c:Y4)(i:Yo)(h:Gj i)(hL:2 * SizeOf.sizeOf i≤L)(f:Gn):Zq (KI p si c i L (ZfM f i)) L (0,())=some (esR sc.Decl c (if decide (i.Op=3)=true then O4 i.Dist else 0) (ZfM f i)):=by
 obtain ⟨e1,e2,e3⟩:=Zty f i h
 have hz:=Zhl i; have hk:=Z4 i.Args
 refine SB (ZfM f i) (fun l=>some (esR sc.Decl c (if decide (i.Op=3)=true then O4 i.Dist else 0) l)) (by omega) (fun self j x r hx hi mem e=>?_) (fun self=>?_)
 ·obtain ⟨o1,o2⟩:=e3 x mem
  rw [KI]
  simp only [Zg,Zc,cond_true,cond_false,Zf,Zv,Za,Zn,condC,Zi,Zh,Zl,ZE,ZK,Z7,hi,hx,Zgs L (by omega) x o1 (by omega),show Em L (p,si,c,x,())=_ from ZnO L p si sc hs c L x o1 (by omega) (Nat.le_refl _),wrap_succ hi (by omega),e,esR]
  by_cases z:WI true x=0
  ·rw [Zqz sc.Decl c x (ZfH x z)]
   cases Zfp (hdB sc.Decl c) x <;> simp [z]
  ·simp [z]
 ·rw [KI]; simp only [Zg,Zc,cond_true,cond_false,Zf,Zv,Za,Zn,condC,Zi,Zh,Zl,ZE,ZK,Z7,MV L i.Dist h.Dist (by omega),esR]; simp only [Ye,Q4,if_true,if_false,Bool.false_eq_true,ne_eq,decide_not,gt_iff_lt,ge_iff_le]
end Go.Proofs.YtleomfgijkapfaaGreatDoor
end
section
namespace Go.Proofs.YtleomfgijkapfaaGreatDoor
open Go Go.Proofs.YtleomfgijkapfaaGreatDoor.Abs Go.Proofs.YtleomfgijkapfaaGreatDoor.Tl
set_option maxRecDepth 100000
theorem ZmN {α:Type}(l:List α)(n:Int)(h0:0≤n)(h:n < l.length):∃ x,ZG l n=some x∧x ∈ l:=by
 have hn:n.toNat < l.length:=by omega
 refine ⟨l[n.toNat],?_,List.getElem_mem hn⟩
 unfold ZG; rw [if_pos h0]; exact List.getElem?_eq_getElem hn
theorem ZcY (L:Nat)(p:Zk)(o:Int)(so:ZC)(ho:ZG p.Sites o=some so)(i:Yo) :
  ((decide (0≤i.B) && decide (i.B < (so.Routines.length:Int)))=false∧VU L (p,o,i,())=some 2) ∨
  ((decide (0≤i.B) && decide (i.B < (so.Routines.length:Int)))=true∧∃ cd,ZG so.Routines i.B=some cd∧VU L (p,o,i,())=some (bif !decide ((i.Args.length:Int)=cd.Params) then 8 else 0)):=by
 rw [ZiH,ho,Zv]
 by_cases h:0≤i.B∧i.B < (so.Routines.length:Int)
 ·refine .inr ⟨by simp [h.1,h.2],?_⟩
  obtain ⟨cd,hc,_⟩:=ZmN so.Routines i.B h.1 h.2
  refine ⟨cd,hc,?_⟩
  rw [show (decide (i.B < 0) || decide (i.B ≥ (so.Routines.length:Int)))=false by simp only [Bool.or_eq_false_iff,decide_eq_false_iff_not]; omega,hc]
  simp only [Zg,Zc,cond_true,cond_false,Zf,Zv,Za,Zn,condC,Zi,Zh,Zl,ZE,ZK,Z7]
 ·refine .inl ⟨by simp only [Bool.and_eq_false_iff,decide_eq_false_iff_not]; omega,?_⟩
  rw [show (decide (i.B < 0) || decide (i.B ≥ (so.Routines.length:Int)))=true by simp only [Bool.or_eq_true,decide_eq_true_eq]; omega]
  rfl
theorem orN (a b:Bool):(!b && !a)=!(a || b):=by cases a <;> cases b <;> rfl
theorem ZkY (L:Nat)(h1:1000≤L)(p:Zk)(hp:p.Links.length≤4611686018427387)(hpL:p.Links.length < L)(si:Int)(sc:ZC)(hs:ZG p.Sites si=some sc)(c:Y4)(i:Yo)(h:Gj i)(hL:2 * SizeOf.sizeOf i≤L) :
  ∃ v,YJ L (⟨p,si,c⟩,i,())=some v∧QZ L (p,si,c,i,())=some v:=by
 rw [L9,ZiJ,show Ji=Y0 from rfl,show Jj=Y0 from rfl,Zgq,Zdw]
 by_cases hk:btw i.Op 1 19=true
 ·obtain ⟨f,g,gs,hf,hg,hg',r⟩:=ZmL L i.Op (by simpa [btw] using hk)
  rw [Zst L i h hL f hf,Zsz L i h hL f g gs hg hg' r,hf,ZpO L i h hk f hf,ZpS L i h hk f g gs hg hg' r]
  have la:=lpA L h1 p si sc hs c i h hL f r.rdist
  have lb:=lpB L h1 p si sc hs c i h hL f
  generalize esR sc.Decl c (if decide (i.Op=3)=true then O4 i.Dist else 0) (ZfM f i)=V at la lb
  cases hcl:ZfI f i
  ·exact ⟨1,by simp only [Zg,Zc,cond_true,cond_false,Zf,Zv,Za,Zn,condC,Zi,Zh,Zl,ZE,ZK,Z7,hk,Bool.not_true,Bool.not_false,Bool.or_true,Bool.false_or],by simp only [Zg,Zc,cond_true,cond_false,Zf,Zv,Za,Zn,condC,Zi,Zh,Zl,ZE,ZK,Z7,hk,Bool.not_true,Bool.not_false,Bool.or_true,Bool.false_or]⟩
  simp only [ZeK,hg,Zv,hg',Zup L p si sc hs c f.a i.A 0 r.na10]
  have iA:=Zkd L p si sc hs c g.A r.wa i.A
  rw [r.na] at iA
  by_cases hA:(decide (f.a=0) || Zpk p sc.Decl c f.a i.A)=true
  ·have hA':(!(Zpk p sc.Decl c f.a i.A) && !decide (f.a=0))=false:=by rw [orN,hA]; rfl
   rw [hA] at iA
   by_cases h14:i.Op=14
   ·
    have ha9:=r.f14 h14
    rw [ha9] at hA
    have hA2:0≤i.A∧i.A < (p.Sites.length:Int):=by simpa [Zpk,Zp1] using hA
    obtain ⟨so,ho,_⟩:=ZmN p.Sites i.A hA2.1 hA2.2
    have e14:decide (i.Op=14)=true:=by simp [h14]
    have e15:decide (i.Op=15)=false:=by simp [h14]
    have hb10:=ZnE L p si sc hs c i.B i.A so ho
    simp only [ZE,Z7,e14,e15,cond_true,cond_false,Zv]
    simp only [hA',hk,iA,cond_true,cond_false,Zv,Bool.not_true,Bool.or_false,ZnB L p si i.A hp hpL,Zut L p si i.A hp hpL]
    simp only [Zh,hb10,ho,Zv,Za,cond_false,Bool.not_true,la,lb]
    cases hq:(!(Zoz p si i.A).2.1 || !decide ((Zoz p si i.A).1=i.C))
    ·rcases ZcY L p i.A so ho i with ⟨b1,b2⟩ | ⟨b1,cd,b2,b3⟩
     ·exact ⟨2,by simp only [cond_true,cond_false,Zv,Za,Zn,condC,Zi,Zh,Zl,ZE,Z7,Bool.not_true,Bool.not_false,b1,Bool.not_false] <;> rfl,by simp only [cond_true,cond_false,Zv,Za,Zn,condC,Zi,Zh,Zl,ZE,Z7,Bool.not_true,Bool.not_false,b2] <;> rfl⟩
     ·cases hz:decide ((i.Args.length:Int)=cd.Params)
      ·exact ⟨8,by simp only [cond_true,cond_false,Zv,Za,Zn,condC,Zi,Zh,Zl,ZE,Z7,Bool.not_true,Bool.not_false,b1,b2,hz,Bool.not_true,Bool.not_false] <;> rfl,by simp only [cond_true,cond_false,Zv,Za,Zn,condC,Zi,Zh,Zl,ZE,Z7,Bool.not_true,Bool.not_false,b3,hz,Bool.not_true,Bool.not_false] <;> rfl⟩
      ·exact ⟨V,by simp only [cond_true,cond_false,Zv,Za,Zn,condC,Zi,Zh,Zl,ZE,Z7,Bool.not_true,Bool.not_false,b1,b2,hz,Bool.not_true,Bool.not_false] <;> rfl,by simp only [cond_true,cond_false,Zv,Za,Zn,condC,Zi,Zh,Zl,ZE,Z7,Bool.not_true,Bool.not_false,b3,hz,Bool.not_true,Bool.not_false] <;> rfl⟩
    ·exact ⟨16,by simp only [cond_true,cond_false,Zv,Za,Zn,condC,Zi,Zh,Zl,ZE,Z7,Bool.not_true,Bool.not_false] <;> rfl,by simp only [cond_true,cond_false,Zv,Za,Zn,condC,Zi,Zh,Zl,ZE,Z7,Bool.not_true,Bool.not_false] <;> rfl⟩
   ·by_cases h15:i.Op=15
    ·have e14:decide (i.Op=14)=false:=by simp [h15]
     have e15:decide (i.Op=15)=true:=by simp [h15]
     have hb10:=ZnE L p si sc hs c i.B si sc hs
     simp only [ZE,Z7,e14,e15,cond_true,cond_false,Zv]
     simp only [hA',hk,iA,cond_true,cond_false,Zv,Bool.not_true,Bool.or_false]
     simp only [Zh,hb10,hs,Zv,Za,cond_false,Bool.not_true,la,lb]
     rcases ZcY L p si sc hs i with ⟨b1,b2⟩ | ⟨b1,cd,b2,b3⟩
     ·exact ⟨2,by simp only [cond_true,cond_false,Zv,Za,Zn,condC,Zi,Zh,Zl,ZE,Z7,Bool.not_true,Bool.not_false,b1,Bool.not_false] <;> rfl,by simp only [cond_true,cond_false,Zv,Za,Zn,condC,Zi,Zh,Zl,ZE,Z7,Bool.not_true,Bool.not_false,b2] <;> rfl⟩
     ·cases hz:decide ((i.Args.length:Int)=cd.Params)
      ·exact ⟨8,by simp only [cond_true,cond_false,Zv,Za,Zn,condC,Zi,Zh,Zl,ZE,Z7,Bool.not_true,Bool.not_false,b1,b2,hz,Bool.not_true,Bool.not_false] <;> rfl,by simp only [cond_true,cond_false,Zv,Za,Zn,condC,Zi,Zh,Zl,ZE,Z7,Bool.not_true,Bool.not_false,b3,hz,Bool.not_true,Bool.not_false] <;> rfl⟩
      ·exact ⟨V,by simp only [cond_true,cond_false,Zv,Za,Zn,condC,Zi,Zh,Zl,ZE,Z7,Bool.not_true,Bool.not_false,b1,b2,hz,Bool.not_true,Bool.not_false] <;> rfl,by simp only [cond_true,cond_false,Zv,Za,Zn,condC,Zi,Zh,Zl,ZE,Z7,Bool.not_true,Bool.not_false,b3,hz,Bool.not_true,Bool.not_false] <;> rfl⟩
    ·obtain ⟨w1,w2,w3⟩:=r.wb h14 h15
     have e14:decide (i.Op=14)=false:=by simp [h14]
     have e15:decide (i.Op=15)=false:=by simp [h15]
     have iB:=Zkd L p si sc hs c g.B w1 i.B
     rw [w2] at iB
     simp only [cond_true,cond_false,Zv,Za,Zn,condC,Zi,Zh,Zl,ZE,Z7,Bool.not_true,Bool.not_false,hk,hA',iA,iB,e14,e15,Bool.not_true,Bool.or_false,Zup L p si sc hs c f.b i.B 0 w3,la,lb]
     cases decide (f.b=0) <;> cases Zpk p sc.Decl c f.b i.B
     ·exact ⟨2,rfl,rfl⟩
     ·exact ⟨V,rfl,rfl⟩
     ·exact ⟨V,rfl,rfl⟩
     ·exact ⟨V,rfl,rfl⟩
  ·rw [Bool.not_eq_true] at hA
   have hA':(!(Zpk p sc.Decl c f.a i.A) && !decide (f.a=0))=true:=by rw [orN,hA]; rfl
   rw [hA] at iA
   exact ⟨2,by simp only [cond_true,cond_false,Zv,Za,Zn,condC,Zi,Zh,Zl,ZE,Z7,Bool.not_true,Bool.not_false,hk,hA',Bool.not_true,Bool.or_false] <;> rfl,by simp only [cond_true,cond_false,Zv,Za,Zn,condC,Zi,Zh,Zl,ZE,Z7,Bool.not_true,Bool.not_false,hk,iA,Bool.not_true,Bool.not_false,Bool.or_false] <;> rfl⟩
 ·rw [Bool.not_eq_true] at hk
  exact ⟨1,by simp only [cond_true,cond_false,Zv,Za,Zn,condC,Zi,Zh,Zl,ZE,Z7,Bool.not_true,Bool.not_false,hk,Bool.not_false,Bool.true_or] <;> rfl,by simp only [cond_true,cond_false,Zv,Za,Zn,condC,Zi,Zh,Zl,ZE,Z7,Bool.not_true,Bool.not_false,hk,Bool.not_false,Bool.true_or] <;> rfl⟩
end Go.Proofs.YtleomfgijkapfaaGreatDoor
end
section
namespace Go.Proofs.YtleomfgijkapfaaGreatDoor
open Go Go.Proofs.YtleomfgijkapfaaGreatDoor.Abs Go.Proofs.YtleomfgijkapfaaGreatDoor.Tl
set_option maxRecDepth 100000
theorem Zoq (c:Y4):SizeOf.sizeOf c.Name < SizeOf.sizeOf c∧SizeOf.sizeOf c.Instrs < SizeOf.sizeOf c:=by cases c; simp; omega
theorem ZtN {α:Type}{f:(Int×PUnit→Option Int)→Int×PUnit→Option Int}(l:List α)(V:α→Int)(T:Option Int){m:Nat}(hm:l.length < m)
  (h1:∀ self (i:Nat) x,l[i]? = some x→i < l.length→x ∈ l→f self ((i:Int),())=bif !decide (V x=0) then some (V x) else self ((i:Int) + 1,()))
  (h2:∀ self,f self ((l.length:Int),())=T):Zq f m (0,())=if decide (Yb V l≠0)=true then some (Yb V l) else T :=
 SB l (fun l=>if decide (Yb V l≠0)=true then some (Yb V l) else T) hm (fun self i x r hx hi mem e=>by
  rw [h1 self i x hx hi mem,e,Yb]
  by_cases c:V x=0 <;> simp [c]) (fun self=>by rw [h2]; rfl)
theorem Ah (L:Nat)(h1:1000≤L)(p:Zk)(hp:p.Links.length≤4611686018427387)(hpL:p.Links.length < L)(si:Int)(sc:ZC)(hs:ZG p.Sites si=some sc)(c:Y4)(h:ZlS c)(hL:2 * SizeOf.sizeOf c≤L) :
  ∃ v,ZY L (p,si,c,())=some v∧YI L (p,si,c,())=some v:=by
 have hz:=Zoq c
 have hk:=Z4 c.Instrs; have hl:=h.Instrs.1
 have hn1:=Qb L c.Name (by have:=h.Name; unfold Len; omega) (by have:=Z4 c.Name; omega)
 have hn2:=VJ L c.Name (by have:=h.Name; unfold Len; omega) (by have:=Z4 c.Name; omega) (by omega)
 have hV:∀ i ∈ c.Instrs,YJ L (⟨p,si,c⟩,i,())=some ((QZ L (p,si,c,i,())).getD 0)∧QZ L (p,si,c,i,())=some ((QZ L (p,si,c,i,())).getD 0):=fun i mem=>by
  have:=List.sizeOf_lt_of_mem mem
  obtain ⟨v,e1,e2⟩:=ZkY L h1 p hp hpL si sc hs c i (h.Instrs.2 i mem) (by omega)
  rw [e1,e2]; exact ⟨rfl,rfl⟩
 obtain ⟨V,hV'⟩:∃ V:Yo→Int,∀ i ∈ c.Instrs,YJ L (⟨p,si,c⟩,i,())=some (V i)∧QZ L (p,si,c,i,())=some (V i):=⟨_,hV⟩
 by_cases ge:c.Instrs=[]
 ·have e0:decide ((c.Instrs.length:Int)=0)=true:=by rw [ge]; rfl
  refine ⟨_,by rw [Rw]; simp only [hn1,Zv,ZE,Z7,e0,cond_true,Zl]; rfl,?_⟩
  rw [PV]; simp only [hn2,Zv,ZE,Z7,e0,cond_true,Zl]
 ·have hpos:0 < c.Instrs.length:=List.length_pos_iff.2 ge
  have hw:IntKind.i64.wrap ((c.Instrs.length:Int) - 1)=((c.Instrs.length - 1:Nat):Int):=by rw [wrap_in (by omega) (by omega)]; omega
  have hx:=List.getElem?_eq_getElem (show c.Instrs.length - 1 < c.Instrs.length by omega)
  generalize c.Instrs[c.Instrs.length - 1]=x at hx
  have la:=ZtN (f := Ve p si c L) c.Instrs V (some (bif !decide (x.Op=19) && !decide (x.Op=4) then 8 else 0)) (m := L) (by omega) (fun self i y hy hi mem=>by
   rw [Ve]; simp only [Zg hi,cond_true,Zf,hy,Zv,(hV' y mem).1,Z7,wrap_succ hi (by omega)]) (fun self=>by
   rw [Ve]; simp only [Zc,cond_false,hw,Zf,hx,Zv,Z7,Zl])
  have lb:=ZtN (f := Je p si c L) c.Instrs V (some (bif !decide (x.Op=19) && !decide (x.Op=4) then 8 else 0)) (m := L) (by omega) (fun self i y hy hi mem=>by
   rw [Je]; simp only [Zg hi,cond_true,Zf,hy,Zv,Za,(hV' y mem).2,Z7,wrap_succ hi (by omega)]) (fun self=>by
   rw [Je]; simp only [Zc,cond_false,hw,Zf,hx,Zv,Z7,Zl])
  rw [Q4] at la lb
  refine ⟨_,by rw [Rw]; simp only [la,hn1,Zv,ZE,Z7,Zl]; rfl,?_⟩
  rw [PV]; simp only [lb,hn2,Zv,ZE,Z7,Zl]
end Go.Proofs.YtleomfgijkapfaaGreatDoor
end
section
namespace Go.Proofs.YtleomfgijkapfaaGreatDoor
open Go Go.Proofs.YtleomfgijkapfaaGreatDoor.Abs Go.Proofs.YtleomfgijkapfaaGreatDoor.Tl
set_option maxRecDepth 100000
def agL:List Y4→List ZJ→Bool
 | c :: l,r :: m=>if (!(decide (c.Name=r.Name) && decide (c.Params=(r.Params.length:Int)) && decide ((r.Body.length:Int)=0)))=true then false else agL l m
 | _,_=>true
def agB (s:ZC):Bool:=decide ((s.Routines.length:Int)=(s.Decl.Routines.length:Int)) && agL s.Routines s.Decl.Routines
theorem ZpN (L:Nat)(s:ZC)(h:s.Routines.length≤4611686018427387)(hL:s.Routines.length < L):Ui L (s,())=some (agB s):=by
 rcases ZsZ s.Routines s.Decl.Routines with ⟨e1,e2⟩ | ⟨e1,e2⟩
 ·have lp:=Zcy (f := VX s L) s.Routines s.Decl.Routines e1 (fun l m=>some (agL l m)) hL (fun self i x y r r' hx hy hi _ e=>by
   rw [VX]; simp only [Zg,Zc,cond_true,cond_false,Zf,Zv,Za,Zn,condC,Zi,Zh,Zl,ZE,ZK,Z7,hi,hx,hy,Zbf,wrap_succ hi (by omega),e,agL]; simp only [Ye,Q4,if_true,if_false,Bool.false_eq_true,ne_eq,decide_not,gt_iff_lt,ge_iff_le]) (fun self=>by rw [VX]; simp only [Zg,Zc,cond_true,cond_false,Zf,Zv,Za,Zn,condC,Zi,Zh,Zl,ZE,ZK,Z7,agL])
  rw [PQ,lp,agB,Z7,e2]; rfl
 ·rw [PQ,agB,Z7,e2]; rfl
theorem ZpP (L:Nat)(s:ZC)(h:s.Routines.length≤4611686018427387)(hL:s.Routines.length < L):Hq L (s,())=some (agB s):=by
 rcases ZsZ s.Routines s.Decl.Routines with ⟨e1,e2⟩ | ⟨e1,e2⟩
 ·have lp:=Zcy (f := Ia s) s.Routines s.Decl.Routines e1 (fun l m=>some (agL l m)) hL (fun self i x y r r' hx hy hi _ e=>by
   rw [Ia]; simp only [Zg,Zc,cond_true,cond_false,Zf,Zv,Za,Zn,condC,Zi,Zh,Zl,ZE,ZK,Z7,hi,hx,hy,wrap_succ hi (by omega),e,agL]
   rw [show decide ((y.Body.length:Int) > 0)=!decide ((y.Body.length:Int)=0) by rw [← ZqJ,Bool.not_not],decide_eq_decide.2 (⟨Eq.symm,Eq.symm⟩:y.Name=x.Name↔x.Name=y.Name),decide_eq_decide.2 (⟨Eq.symm,Eq.symm⟩:(y.Params.length:Int)=x.Params↔x.Params=(y.Params.length:Int))]
   cases decide ((y.Body.length:Int)=0) <;> cases decide (x.Name=y.Name) <;> cases decide (x.Params=(y.Params.length:Int)) <;> rfl) (fun self=>by rw [Ia]; simp only [Zg,Zc,cond_true,cond_false,Zf,Zv,Za,Zn,condC,Zi,Zh,Zl,ZE,ZK,Z7,agL])
  rw [Zdy,lp,agB,Z7,e2]; rfl
 ·rw [Zdy,agB,Z7,e2]; rfl
def BI (l:Zhs):Int×Int:=(l.From,l.To)
def Lu (p:Zk):List (Int×Int)→List Zhs→Int
 | _,[]=>0
 | seen,x :: r=>if (decide (x.From < 0) || decide (x.From ≥ (p.Sites.length:Int)) || decide (x.To < 0) || decide (x.To ≥ (p.Sites.length:Int)) || decide (x.From=x.To) || decide (x.Delay < 1) || decide (x.Delay > 1000000000))=true then 2
  else if seen.contains (BI x)=true then 4 else Lu p (seen ++ [BI x]) r
theorem ZfZ (l:List (Int×Int))(s:Int×Int):hasK (MK.pint IntKind.i64) l s=l.contains s:=by
 induction l with
 | nil=>rfl
 | cons x l ih =>
  rw [List.contains_cons,← ih]
  show (BEq.beq s.1 x.1 && BEq.beq s.2 x.2 || hasK (MK.pint IntKind.i64) l s)=_
  congr 1
theorem ZlV (l:List (Int×Int))(s:Int×Int)(h:l.contains s=false):EL (MK.pint IntKind.i64) l s=l ++ [s]:=by
 unfold EL; rw [ZfZ,h]; rfl
theorem Zmb (x:Zhs)(n:Int):(decide ((if x.To < x.From then x.To else x.From) < 0) || decide ((if x.To > x.From then x.To else x.From) ≥ n) || decide (x.From=x.To))=(decide (x.From < 0) || decide (x.From ≥ n) || decide (x.To < 0) || decide (x.To ≥ n) || decide (x.From=x.To)):=by
 rw [Bool.eq_iff_iff]
 simp only [Bool.or_eq_true,decide_eq_true_eq]
 split <;> split <;> omega
theorem ZnC (L:Nat)(p:Zk)(h:p.Links.length≤4611686018427387)(hL:p.Links.length < L):UY L (p,())=some (if decide (32 < (p.Links.length:Int))=true then 6 else Lu p [] p.Links):=by
 have lp:=Zge (f := Jn p) p.Links (fun (s:List (Int×Int)) i=>(i,s,())) (fun l s=>some (Lu p s l)) (fun self s i x r hx hi mem e=>by
  rw [Jn]
  simp only [Zg,Zc,cond_true,cond_false,Zf,Zv,Za,Zn,condC,Zi,Zh,Zl,ZE,ZK,Z7,hi,hx,Zmb,wrap_succ hi (by omega),e,ZfZ,Lu]
  generalize (decide (x.From < 0) || decide (x.From ≥ (p.Sites.length:Int)) || decide (x.To < 0) || decide (x.To ≥ (p.Sites.length:Int)) || decide (x.From=x.To))=a
  show _=some (if (a || decide (x.Delay < 1) || decide (x.Delay > 1000000000))=true then 2 else if s.contains (x.From,x.To)=true then 4 else Lu p (s ++ [(x.From,x.To)]) r)
  cases hc:s.contains (x.From,x.To)
  ·rw [ZlV _ _ hc,e]; cases a <;> cases decide (x.Delay < 1) <;> cases decide (x.Delay > 1000000000) <;> rfl
  ·cases a <;> cases decide (x.Delay < 1) <;> cases decide (x.Delay > 1000000000) <;> rfl) (fun self s=>by rw [Jn]; simp only [Zg,Zc,cond_true,cond_false,Zf,Zv,Za,Zn,condC,Zi,Zh,Zl,ZE,ZK,Z7,Lu]) L 0 [] (Nat.zero_le _) (by omega)
 rw [List.drop_zero] at lp
 rw [Ziq,show Zq (Jn p) L (0,[],())=_ from lp]
 simp only [Ye,Q4,if_true,if_false,Bool.false_eq_true,ne_eq,decide_not,gt_iff_lt,ge_iff_le]
end Go.Proofs.YtleomfgijkapfaaGreatDoor
end
section
namespace Go.Proofs.YtleomfgijkapfaaGreatDoor
open Go Go.Proofs.YtleomfgijkapfaaGreatDoor.Abs Go.Proofs.YtleomfgijkapfaaGreatDoor.Tl
set_option maxRecDepth 100000
theorem Zk9 (L:Nat)(p:Zk)(h:p.Links.length≤4611686018427387)(self:Int×Int×PUnit→Option Int)(i:Nat)(hi:i≤p.Links.length)(hL:p.Links.length < L)(y:Zhs) :
  Zq (UJ p self (0,(i:Int),()) y) L (0,0,())=if ((p.Links.take i).map BI).contains (BI y)=true then some 4 else self (0,IntKind.i64.wrap ((i:Int) + 1),()):=by
 have hlen:(p.Links.take i).length=i:=by rw [List.length_take]; omega
 have:=Fp (f := UJ p self (0,(i:Int),()) y) i (fun j=>(0,j,())) (fun j=>if (((p.Links.take i).drop j).map BI).contains (BI y)=true then some 4 else self (0,IntKind.i64.wrap ((i:Int) + 1),())) (fun self1 j hj e=>by
  have hjl:j < p.Links.length:=by omega
  have hx:=List.getElem?_eq_getElem hjl
  have hd:(p.Links.take i).drop j=p.Links[j] :: (p.Links.take i).drop (j + 1):=by
   rw [List.drop_eq_getElem_cons (show j < (p.Links.take i).length by omega),List.getElem_take]
  rw [hd,UJ]
  simp only [show decide ((j:Int) < (i:Int))=true by simp only [decide_eq_true_eq]; omega,cond_true,Zf,hx,Zv,ZE,Zn,wrap_in (show -9223372036854775808≤(j:Int) + 1 by omega) (by omega),e,List.map_cons,List.contains_cons]
  generalize p.Links[j]=x
  have hb:(BI y == BI x)=(decide (x.From=y.From) && decide (x.To=y.To)):=by
   show (BEq.beq y.From x.From && BEq.beq y.To x.To)=_
   rw [ZE,ZE,decide_eq_decide.2 (⟨Eq.symm,Eq.symm⟩:y.From=x.From↔x.From=y.From),decide_eq_decide.2 (⟨Eq.symm,Eq.symm⟩:y.To=x.To↔x.To=y.To)]
  rw [hb]
  cases decide (x.From=y.From) <;> cases decide (x.To=y.To) <;> rfl) (fun self1=>by
  rw [UJ]
  simp only [Zc,cond_false]
  rw [List.drop_eq_nil_of_le (by omega)]; rfl) L 0 (Nat.zero_le _) (by omega)
 rw [List.drop_zero] at this
 exact this
theorem Zs1 (L:Nat)(p:Zk)(h:p.Links.length≤4611686018427387)(hL:p.Links.length < L):Ho L (p,())=some (if decide (32 < (p.Links.length:Int))=true then 6 else Lu p [] p.Links):=by
 have lp:=Fp (f := UK p L) p.Links.length (fun i=>(0,i,())) (fun i=>some (Lu p ((p.Links.take i).map BI) (p.Links.drop i))) (fun self i hi e=>by
  have hx:=List.getElem?_eq_getElem hi
  have ht:(p.Links.take (i + 1)).map BI=(p.Links.take i).map BI ++ [BI p.Links[i]]:=by
   rw [List.take_succ,hx,List.map_append]; rfl
  rw [List.drop_eq_getElem_cons hi,Lu]
  rw [ht] at e
  rw [UK]
  simp only [Zg hi,cond_true,Zf,hx,Zv,ZE,Zk9 L p h self i (Nat.le_of_lt hi) hL,wrap_succ hi (by omega),e]
  rw [Ye]
  split
  ·rfl
  ·split <;> rfl) (fun self=>by
  rw [UK,List.drop_length]; simp only [Zc,cond_false,Lu]) L 0 (Nat.zero_le _) (by omega)
 rw [List.drop_zero] at lp
 rw [Zl0,show Zq (UK p L) L (0,0,())=_ from lp]
 simp only [Ye,Q4,if_true,if_false,Bool.false_eq_true,ne_eq,decide_not,gt_iff_lt,ge_iff_le]
 rfl
end Go.Proofs.YtleomfgijkapfaaGreatDoor
end
section
namespace Go.Proofs.YtleomfgijkapfaaGreatDoor
open Go Go.Proofs.YtleomfgijkapfaaGreatDoor.Abs Go.Proofs.YtleomfgijkapfaaGreatDoor.Tl
set_option maxRecDepth 100000
def VA (n:List UInt8):Seen→List ZC→Int
 | _,[]=>0
 | seen,x :: r=>if decide (M1 n x.Decl≠0)=true then M1 n x.Decl else if seen.contains x.Decl.Name=true then 4 else if (!(agB x))=true then 8 else VA n (seen ++ [x.Decl.Name]) r
theorem Zra (p:Zk){s:ZC}(h:s ∈ p.Sites):SizeOf.sizeOf s.Decl < SizeOf.sizeOf p∧SizeOf.sizeOf s.Routines < SizeOf.sizeOf p∧SizeOf.sizeOf p.Name < SizeOf.sizeOf p∧p.Sites.length < SizeOf.sizeOf p∧p.Links.length < SizeOf.sizeOf p:=by
 have h1:=List.sizeOf_lt_of_mem h
 have h2:SizeOf.sizeOf s.Decl < SizeOf.sizeOf s∧SizeOf.sizeOf s.Routines < SizeOf.sizeOf s:=by cases s; simp; omega
 have h3:SizeOf.sizeOf p.Sites < SizeOf.sizeOf p∧SizeOf.sizeOf p.Name < SizeOf.sizeOf p∧SizeOf.sizeOf p.Links < SizeOf.sizeOf p:=by cases p; simp; omega
 have h4:=Z4 p.Sites; have h5:=Z4 p.Links
 omega
theorem Zms (L:Nat)(h1:1000≤L)(p:Zk)(h:Xt p)(hL:2 * SizeOf.sizeOf p≤L)(hne:p.Sites.length < L)(T:Int)(hT:∀ seen:Seen,(bT (UY L (p,())) fun (y:Int)=>bif y != (0:Int) then some y else Zq (Xb p L) L (0,0,seen,()))=some T) :
  Zq (Vd p L) L (0,0,[],())=some (if decide (VA p.Name [] p.Sites≠0)=true then VA p.Name [] p.Sites else T):=by
 have hl:=h.Sites.1
 have:=Zge (f := Vd p L) p.Sites (fun (s:Seen) i=>(0,i,s,())) (fun l s=>some (if decide (VA p.Name s l≠0)=true then VA p.Name s l else T)) (fun self s i x r hx hi mem e=>by
  have hz:=Zra p mem
  have ok:=h.Sites.2 x mem
  have hr:=ok.Routines.1
  have e1:=ZpR L (by omega) p.Name h.Name (by have:=Z4 p.Name; omega) x.Decl ok.Decl (by omega)
  have e2:=ZpN L x (by omega) (by have:=Z4 x.Routines; omega)
  rw [Vd]
  simp only [Zg hi,cond_true,Zf,hx,Zv,e1,e2,Z7,Zeg,wrap_succ hi (by omega),e,VA]
  by_cases a:M1 p.Name x.Decl=0
  ·rcases Bool.eq_false_or_eq_true (s.contains x.Decl.Name) with b | b
   ·have b':x.Decl.Name ∈ s:=List.contains_iff_mem.1 b
    simp [a,b']
   ·have b':¬ x.Decl.Name ∈ s:=fun hm=>by rw [List.contains_iff_mem.2 hm] at b; cases b
    rw [Zjx _ _ b,e]
    rcases Bool.eq_false_or_eq_true (agB x) with g | g <;> simp [a,b',g]
  ·simp [a]) (fun self s=>by rw [Vd]; simp only [Zc,cond_false,hT,VA]; rfl) L 0 [] (Nat.zero_le _) (by omega)
 rw [List.drop_zero] at this
 exact this
end Go.Proofs.YtleomfgijkapfaaGreatDoor
end
section
namespace Go.Proofs.YtleomfgijkapfaaGreatDoor
open Go Go.Proofs.YtleomfgijkapfaaGreatDoor.Abs Go.Proofs.YtleomfgijkapfaaGreatDoor.Tl
set_option maxRecDepth 100000
theorem ZsI (L:Nat)(p:Zk)(h:p.Sites.length≤4611686018427387)(self:Int×Int×PUnit→Option Int)(i:Nat)(y:ZC)(hy:p.Sites[i]? = some y)(hi:i < p.Sites.length)(hL:p.Sites.length < L)(hf:Hq L (y,())=some (agB y)) :
  Zq (Ju p L self (0,(i:Int),())) L (0,0,())=if ((p.Sites.take i).map fun s=>s.Decl.Name).contains y.Decl.Name=true then some 4 else bif !(agB y) then some 8 else self (0,IntKind.i64.wrap ((i:Int) + 1),()):=by
 have hlen:(p.Sites.take i).length=i:=by rw [List.length_take]; omega
 have:=Fp (f := Ju p L self (0,(i:Int),())) i (fun j=>(0,j,())) (fun j=>if (((p.Sites.take i).drop j).map fun s=>s.Decl.Name).contains y.Decl.Name=true then some 4 else bif !(agB y) then some 8 else self (0,IntKind.i64.wrap ((i:Int) + 1),())) (fun self1 j hj e=>by
  have hjl:j < p.Sites.length:=by omega
  have hx:=List.getElem?_eq_getElem hjl
  have hd:(p.Sites.take i).drop j=p.Sites[j] :: (p.Sites.take i).drop (j + 1):=by
   rw [List.drop_eq_getElem_cons (show j < (p.Sites.take i).length by omega),List.getElem_take]
  rw [hd,Ju]
  simp only [show decide ((j:Int) < (i:Int))=true by simp only [decide_eq_true_eq]; omega,cond_true,Zf,hx,hy,Zv,ZK,wrap_in (show -9223372036854775808≤(j:Int) + 1 by omega) (by omega),e,List.map_cons,List.contains_cons]
  generalize p.Sites[j]=x
  rw [decide_eq_decide.2 (⟨Eq.symm,Eq.symm⟩:y.Decl.Name=x.Decl.Name↔x.Decl.Name=y.Decl.Name)]
  cases decide (x.Decl.Name=y.Decl.Name) <;> rfl) (fun self1=>by
  rw [Ju]
  simp only [Zc,cond_false,Zf,hy,Zv,hf]
  rw [List.drop_eq_nil_of_le (by omega)]; rfl) L 0 (Nat.zero_le _) (by omega)
 rw [List.drop_zero] at this
 exact this
theorem ZsD (L:Nat)(h1:1000≤L)(p:Zk)(h:Xt p)(hL:2 * SizeOf.sizeOf p≤L)(hne:p.Sites.length < L)(T:Int)(hT:(bT (Ho L (p,())) fun (y:Int)=>Zq (Qo p L) L (y,0,()))=some T) :
  Zq (Jw p L) L (0,0,())=some (if decide (VA p.Name [] p.Sites≠0)=true then VA p.Name [] p.Sites else T):=by
 have hl:=h.Sites.1
 have:=Fp (f := Jw p L) p.Sites.length (fun i=>(0,i,())) (fun i=>some (if decide (VA p.Name ((p.Sites.take i).map fun s=>s.Decl.Name) (p.Sites.drop i)≠0)=true then VA p.Name ((p.Sites.take i).map fun s=>s.Decl.Name) (p.Sites.drop i) else T)) (fun self i hi e=>by
  have hx:=List.getElem?_eq_getElem hi
  have ht:((p.Sites.take (i + 1)).map fun s=>s.Decl.Name)=((p.Sites.take i).map fun s=>s.Decl.Name) ++ [p.Sites[i].Decl.Name]:=by
   rw [List.take_succ,hx,List.map_append]; rfl
  have mem:=List.getElem_mem hi
  rw [List.drop_eq_getElem_cons hi,VA]
  rw [ht] at e
  generalize p.Sites[i]=x at hx e mem
  have hz:=Zra p mem
  have ok:=h.Sites.2 x mem
  have hr:=ok.Routines.1
  have e1:=ZnG L h1 p.Name h.Name (by have:=Z4 p.Name; omega) x.Decl ok.Decl (by omega)
  have e2:=ZpP L x (by omega) (by have:=Z4 x.Routines; omega)
  rw [Jw]
  simp only [Zg hi,cond_true,Zf,hx,Zv,Za,e1,Z7,ZsI L p (by omega) self i x hx hi hne e2,wrap_succ hi (by omega),e]
  by_cases a:M1 p.Name x.Decl=0
  ·by_cases b:x.Decl.Name ∈ (p.Sites.take i).map fun s=>s.Decl.Name
   ·rw [List.contains_iff_mem.2 b]
    simp only [a,ne_eq,not_true_eq_false,decide_false,decide_true,Bool.not_true,Bool.not_false,Bool.false_eq_true,if_false,if_true,cond_true,cond_false] <;> rfl
   ·have b':((p.Sites.take i).map fun s=>s.Decl.Name).contains x.Decl.Name=false:=by rw [← Bool.not_eq_true,List.contains_iff_mem]; exact b
    rw [b']
    rcases Bool.eq_false_or_eq_true (agB x) with g | g <;> simp only [a,g,ne_eq,not_true_eq_false,decide_false,decide_true,Bool.not_true,Bool.not_false,Bool.false_eq_true,if_false,if_true,cond_true,cond_false] <;> rfl
  ·simp [a]) (fun self=>by
  rw [Jw,List.drop_length]; simp only [Zc,cond_false,hT,VA]; rfl) L 0 (Nat.zero_le _) (by omega)
 rw [List.drop_zero] at this
 exact this
end Go.Proofs.YtleomfgijkapfaaGreatDoor
end
section
namespace Go.Proofs.YtleomfgijkapfaaGreatDoor
open Go Go.Proofs.YtleomfgijkapfaaGreatDoor.Abs Go.Proofs.YtleomfgijkapfaaGreatDoor.Tl
set_option maxRecDepth 100000
def rX (V:Int→Y4→Int):Int→List ZC→Int
 | _,[]=>0
 | i,x :: r=>if decide (Yb (V i) x.Routines≠0)=true then Yb (V i) x.Routines else rX V (i + 1) r
theorem ZoO (L:Nat)(p:Zk)(V:Int→Y4→Int)(self:Int×Int×List (List UInt8)×PUnit→Option Int)(i:Nat)(seen s0:Seen)(y:ZC)(hl:y.Routines.length≤4611686018427387)(hL:y.Routines.length < L)(hV:∀ c ∈ y.Routines,ZY L (p,(i:Int),c,())=some (V i c)) :
  Zq (Vb p L self (0,(i:Int),s0,()) y) L (0,0,seen,())=if decide (Yb (V i) y.Routines≠0)=true then some (Yb (V i) y.Routines) else self (0,IntKind.i64.wrap ((i:Int) + 1),seen,()):=by
 have:=Zge (f := Vb p L self (0,(i:Int),s0,()) y) y.Routines (fun (_:Unit) j=>(0,j,seen,())) (fun l _=>if decide (Yb (V i) l≠0)=true then some (Yb (V i) l) else self (0,IntKind.i64.wrap ((i:Int) + 1),seen,())) (fun self1 s j x r hx hi mem e=>by
  rw [Vb]
  simp only [Zg hi,cond_true,Zf,hx,Zv,hV x mem,Z7,wrap_succ hi (by omega),e (),Yb]
  by_cases a:V i x=0 <;> simp [a]) (fun self1 s=>by rw [Vb]; simp only [Zc,cond_false,Yb]; rfl) L 0 () (Nat.zero_le _) (by omega)
 rw [List.drop_zero] at this
 exact this
theorem Ztr (L:Nat)(p:Zk)(V:Int→Y4→Int)(h:p.Sites.length≤4611686018427387)(hL:p.Sites.length < L)(hr:∀ y ∈ p.Sites,y.Routines.length≤4611686018427387∧y.Routines.length < L)(hV:∀ (i:Nat) y,p.Sites[i]? = some y→∀ c ∈ y.Routines,ZY L (p,(i:Int),c,())=some (V i c))(seen:Seen) :
  Zq (Xb p L) L (0,0,seen,())=some (rX V 0 p.Sites):=by
 have:=Fp (f := Xb p L) p.Sites.length (fun i=>(0,i,seen,())) (fun i=>some (rX V i (p.Sites.drop i))) (fun self i hi e=>by
  have hx:=List.getElem?_eq_getElem hi
  have mem:=List.getElem_mem hi
  rw [List.drop_eq_getElem_cons hi,rX]
  generalize p.Sites[i]=y at hx mem
  rw [Xb]
  simp only [Zg hi,cond_true,Zf,hx,Zv,ZoO L p V self i seen seen y (hr y mem).1 (hr y mem).2 (hV i y hx),wrap_succ hi (by omega),e]
  by_cases a:Yb (V i) y.Routines=0 <;> simp [a]) (fun self=>by rw [Xb,List.drop_length]; simp only [Zc,cond_false,rX]) L 0 (Nat.zero_le _) (by omega)
 rw [List.drop_zero] at this
 exact this
theorem Zqf (L:Nat)(p:Zk)(V:Int→Y4→Int)(self:Int×Int×PUnit→Option Int)(i:Nat)(e0 n:Int)(y:ZC)(hy:p.Sites[i]? = some y)(hl:y.Routines.length≤4611686018427387)(hL:y.Routines.length < L)(hV:∀ c ∈ y.Routines,YI L (p,(i:Int),c,())=some (V i c)) :
  Zq (Jv p L self (e0,(i:Int),())) L (n,0,())=self (if decide (n=0)=true then Yb (V i) y.Routines else n,IntKind.i64.wrap ((i:Int) + 1),()):=by
 refine SC (f := Jv p L self (e0,(i:Int),())) y.Routines (fun l n=>self (if decide (n=0)=true then Yb (V i) l else n,IntKind.i64.wrap ((i:Int) + 1),())) hL n (fun self1 n j x r hx hi mem e=>?_) (fun self1 n=>?_)
 ·rw [Jv]
  simp only [Zf,hy,Zv,Za,Zg hi,cond_true,hx,hV x mem,ZE,wrap_succ hi (by omega),e,Yb]
  by_cases a:n=0
  ·by_cases b:V i x=0 <;> simp [a,b]
  ·simp [a]
 ·rw [Jv]
  simp only [Zf,hy,Zv,Zc,cond_false,Yb]
  by_cases a:n=0 <;> simp [a]
theorem ZvP (L:Nat)(p:Zk)(V:Int→Y4→Int)(h:p.Sites.length≤4611686018427387)(hL:p.Sites.length < L)(hr:∀ y ∈ p.Sites,y.Routines.length≤4611686018427387∧y.Routines.length < L)(hV:∀ (i:Nat) y,p.Sites[i]? = some y→∀ c ∈ y.Routines,YI L (p,(i:Int),c,())=some (V i c))(n:Int) :
  Zq (Qo p L) L (n,0,())=some (if decide (n=0)=true then rX V 0 p.Sites else n):=by
 have key:∀ (m i:Nat) (n:Int),i≤p.Sites.length→p.Sites.length - i < m→Zq (Qo p L) m (n,(i:Int),())=some (if decide (n=0)=true then rX V i (p.Sites.drop i) else n):=by
  intro m
  induction m with
  | zero=>intro i n _ h; exact absurd h (Nat.not_lt_zero _)
  | succ m ih =>
   intro i n hi hm
   show Qo p L (Zq (Qo p L) m) (n,(i:Int),())=_
   rcases Nat.lt_or_ge i p.Sites.length with hlt | hge
   ·have hx:=List.getElem?_eq_getElem hlt
    have mem:=List.getElem_mem hlt
    rw [List.drop_eq_getElem_cons hlt,rX]
    generalize p.Sites[i]=y at hx mem
    rw [Qo]
    simp only [Zg hlt,cond_true,Zqf L p V _ i n n y hx (hr y mem).1 (hr y mem).2 (hV i y hx),wrap_succ hlt (by omega)]
    rw [show ((i:Int) + 1)=((i + 1:Nat):Int) from rfl,ih (i + 1) _ hlt (by omega)]
    by_cases a:n=0
    ·by_cases b:Yb (V i) y.Routines=0 <;> simp [a,b]
    ·simp [a]
   ·have:i=p.Sites.length:=by omega
    subst this
    rw [Qo,List.drop_length]; simp only [Zc,cond_false,rX]
    by_cases a:n=0 <;> simp [a]
 have:=key L 0 n (Nat.zero_le _) (by omega)
 rw [List.drop_zero] at this
 exact this
end Go.Proofs.YtleomfgijkapfaaGreatDoor
end
section
namespace Go.Proofs.YtleomfgijkapfaaGreatDoor
open Go Go.Proofs.YtleomfgijkapfaaGreatDoor.Abs Go.Proofs.YtleomfgijkapfaaGreatDoor.Tl
set_option maxRecDepth 100000
theorem Zdf (L:Nat)(h1:1000≤L)(p:Zk)(h:Xt p)(hL:2 * SizeOf.sizeOf p≤L):∃ v,XV L (p,())=some v∧IJ L (p,())=some v:=by
 have h3:SizeOf.sizeOf p.Sites < SizeOf.sizeOf p∧SizeOf.sizeOf p.Name < SizeOf.sizeOf p∧SizeOf.sizeOf p.Links < SizeOf.sizeOf p:=by cases p; simp; omega
 have h4:=Z4 p.Sites; have h5:=Z4 p.Links; have h6:=Z4 p.Name
 have hs:=h.Sites.1; have hl:=h.Links.1
 have hn1:=Qb L p.Name (by have:=h.Name; unfold Len; omega) (by omega)
 have hn2:=VJ L p.Name (by have:=h.Name; unfold Len; omega) (by omega) (by omega)
 have hr:∀ y ∈ p.Sites,y.Routines.length≤4611686018427387∧y.Routines.length < L:=fun y mem=>by
  have hz:=Zra p mem
  have:=(h.Sites.2 y mem).Routines.1
  have:=Z4 y.Routines
  omega
 have hV:∀ (i:Nat) y,p.Sites[i]? = some y→∀ c ∈ y.Routines,ZY L (p,(i:Int),c,())=some ((YI L (p,(i:Int),c,())).getD 0)∧YI L (p,(i:Int),c,())=some ((YI L (p,(i:Int),c,())).getD 0):=fun i y hy c hc=>by
  have mem:=List.mem_of_getElem? hy
  have hz:=Zra p mem
  have:=List.sizeOf_lt_of_mem hc
  obtain ⟨v,e1,e2⟩:=Ah L h1 p (by omega) (by omega) (i:Int) y (by rw [Zf]; exact hy) c ((h.Sites.2 y mem).Routines.2 c hc) (by omega)
  rw [e1,e2]; exact ⟨rfl,rfl⟩
 obtain ⟨V,hV'⟩:∃ V:Int→Y4→Int,∀ (i:Nat) y,p.Sites[i]? = some y→∀ c ∈ y.Routines,ZY L (p,(i:Int),c,())=some (V i c)∧YI L (p,(i:Int),c,())=some (V i c):=⟨fun i c=>(YI L (p,i,c,())).getD 0,hV⟩
 have ca:=ZnC L p (by omega) (by omega)
 have ra:=Zs1 L p (by omega) (by omega)
 generalize (if decide (32 < (p.Links.length:Int))=true then 6 else Lu p [] p.Links)=A at ca ra
 have c1:=Zms L h1 p h hL (by omega) (if decide (A=0)=true then rX V 0 p.Sites else A) (fun seen=>by
  rw [ca,Zv,Ztr L p V (by omega) (by omega) hr (fun i y hy c hc=>(hV' i y hy c hc).1) seen,Z7]
  by_cases a:A=0 <;> simp [a])
 have r1:=ZsD L h1 p h hL (by omega) (if decide (A=0)=true then rX V 0 p.Sites else A) (by
  rw [ra,Zv,ZvP L p V (by omega) (by omega) hr (fun i y hy c hc=>(hV' i y hy c hc).2) A])
 refine ⟨_,by rw [EW]; simp only [c1,hn1,Zv,ZE,Z7,Zl]; rfl,?_⟩
 rw [ZiE]; simp only [r1,hn2,Zv,ZE,Z7,Zl]
end Go.Proofs.YtleomfgijkapfaaGreatDoor
end
section
namespace Go.Proofs.YtleomfgijkapfaaGreatDoor
open Go Go.Proofs.YtleomfgijkapfaaGreatDoor.Abs Go.Proofs.YtleomfgijkapfaaGreatDoor.Tl
set_option maxRecDepth 100000
theorem Zh6 (L:Nat)(h1:1000≤L)(p:Zk)(h:Xt p)(hL:2 * SizeOf.sizeOf p≤L)(hf:∃ b,VP L (p,())=some b):QK L (p,())=some true:=by
 obtain ⟨b,hb⟩:=hf
 obtain ⟨v,e1,e2⟩:=Zdf L h1 p h hL
 rw [PT,hb,Zv,e1,e2]
 cases b <;> simp [Zv]
theorem Znm {τ σ ρ:Type}{f:(τ→Option ρ)→τ→Option ρ}(n:Nat)(pk:σ→Int→τ)
  (h1:∀ self s (i:Nat),i < n→(∀ s',∃ r,self (pk s' ((i:Int) + 1))=some r)→∃ r,f self (pk s i)=some r)
  (h2:∀ self s,∃ r,f self (pk s n)=some r):∀ (m i:Nat) (s:σ),i≤n→n - i < m→∃ r,Zq f m (pk s i)=some r
 | 0,_,_,_,h=>absurd h (Nat.not_lt_zero _)
 | m + 1,i,s,hi,hm=>by
  show ∃ r,f (Zq f m) (pk s i)=some r
  rcases Nat.lt_or_ge i n with hlt | hge
  ·exact h1 _ s i hlt fun s'=>Znm n pk h1 h2 m (i + 1) s' hlt (by omega)
  ·have:i=n:=by omega
   subst this
   exact h2 _ s
theorem Zsw (L:Nat)(c:Y4)(h:c.Instrs.length≤4611686018427387)(hL:c.Instrs.length < L):∃ r,Vs L (c,())=some r:=by
 rw [ZeA]
 exact Znm (f := VZ c) c.Instrs.length (fun (_:Unit) i=>(i,())) (fun self _ i hi e=>by
  have hx:=List.getElem?_eq_getElem hi
  generalize c.Instrs[i]=x at hx
  obtain ⟨r,e⟩:=e ()
  rw [VZ]
  simp only [Zg hi,cond_true,Zf,hx,Zv,wrap_succ hi (by omega),e,Zl]
  exact ⟨_,rfl⟩) (fun self _=>by rw [VZ]; simp only [Zc,cond_false]; exact ⟨_,rfl⟩) L 0 () (Nat.zero_le _) (by omega)
theorem Zt0 (L:Nat)(self:Bool×Int×PUnit→Option Bool)(i:Nat)(b0:Bool)(y:ZC)(hs:∀ b,∃ r,self (b,IntKind.i64.wrap ((i:Int) + 1),())=some r)(hl:y.Decl.Routines.length≤4611686018427387)(hL:y.Decl.Routines.length < L)(hc:∀ r ∈ y.Decl.Routines,∃ n,VS L (r.Body,())=some n)(b:Bool):∃ r,Zq (Jp L self (b0,(i:Int),()) y) L (b,0,())=some r :=
 Znm (f := Jp L self (b0,(i:Int),()) y) y.Decl.Routines.length (fun b i=>(b,i,())) (fun self1 b j hj e=>by
  have hx:=List.getElem?_eq_getElem hj
  have mem:=List.getElem_mem hj
  generalize y.Decl.Routines[j]=x at hx mem
  obtain ⟨r,e⟩:=e b
  obtain ⟨n,hn⟩:=hc x mem
  rw [Jp]
  simp only [Zg hj,cond_true,Zf,hx,Zv,hn,wrap_succ hj (by omega),e,Zl]
  exact ⟨_,rfl⟩) (fun self1 b=>by rw [Jp]; simp only [Zc,cond_false]; exact hs b) L 0 b (Nat.zero_le _) (by omega)
theorem Zt1 (L:Nat)(p:Zk)(self:Bool×Int×PUnit→Option Bool)(i:Nat)(b0:Bool)(y:ZC)(hy:p.Sites[i]? = some y)(hs:∀ b,∃ r,self (b,IntKind.i64.wrap ((i:Int) + 1),())=some r)(hl:y.Decl.Routines.length≤4611686018427387)(hL:y.Decl.Routines.length < L)(hc:∀ r ∈ y.Decl.Routines,∃ n,VS L (r.Body,())=some n)(hl2:y.Routines.length≤4611686018427387)(hL2:y.Routines.length < L)(hg:∀ c ∈ y.Routines,∃ r,Vs L (c,())=some r)(b:Bool):∃ r,Zq (Jq p L self (b0,(i:Int),()) y) L (b,0,())=some r :=
 Znm (f := Jq p L self (b0,(i:Int),()) y) y.Routines.length (fun b i=>(b,i,())) (fun self1 b j hj e=>by
  have hx:=List.getElem?_eq_getElem hj
  have mem:=List.getElem_mem hj
  generalize y.Routines[j]=x at hx mem
  obtain ⟨r,e⟩:=e b
  obtain ⟨n,hn⟩:=hg x mem
  rw [Jq]
  simp only [Zf,hy,Zg hj,cond_true,hx,Zv,hn,wrap_succ hj (by omega),e,Zl]
  exact ⟨_,rfl⟩) (fun self1 b=>by
  rw [Jq]; simp only [Zf,hy,Zv,Zc,cond_false]; exact Zt0 L self i b0 y hs hl hL hc b) L 0 b (Nat.zero_le _) (by omega)
theorem Zun (L:Nat)(p:Zk)(h:Xt p)(hL:2 * SizeOf.sizeOf p≤L):∃ b,VP L (p,())=some b:=by
 have h3:SizeOf.sizeOf p.Sites < SizeOf.sizeOf p:=by cases p; simp; omega
 have h4:=Z4 p.Sites; have hs:=h.Sites.1
 rw [Ziu]
 exact Znm (f := KF p L) p.Sites.length (fun b i=>(b,i,())) (fun self b i hi e=>by
  have hx:=List.getElem?_eq_getElem hi
  have mem:=List.getElem_mem hi
  generalize p.Sites[i]=y at hx mem
  have hz:=Zra p mem
  have ok:=h.Sites.2 y mem
  have hzd:=XF y.Decl
  have k1:=Z4 y.Decl.Routines; have k2:=Z4 y.Routines
  have o1:=ok.Decl.Routines.1; have o2:=ok.Routines.1
  obtain ⟨r,hr⟩:=Zt1 L p self i b y hx (fun b'=>by rw [wrap_succ hi (by omega)]; exact e b') (by omega) (by omega) (fun r hr=>by
   have hm:=List.sizeOf_lt_of_mem hr
   have hrz:=Zor r
   exact ⟨_,PO L L r.Body (ok.Decl.Routines.2 r hr).p.2.2 (by omega) (Nat.le_refl _)⟩) (by omega) (by omega) (fun c hc=>by
   have hm:=List.sizeOf_lt_of_mem hc
   have hcz:=Zoq c
   have:=Z4 c.Instrs
   have:=(ok.Routines.2 c hc).Instrs.1
   exact Zsw L c (by omega) (by omega)) b
  rw [KF]
  simp only [Zg hi,cond_true,Zf,hx,Zv,hr,Zl]
  exact ⟨_,rfl⟩) (fun self b=>by rw [KF]; simp only [Zc,cond_false]; exact ⟨_,rfl⟩) L 0 false (Nat.zero_le _) (by omega)
theorem F5 (L:Nat)(h1:1000≤L)(p:Zk)(h:Xt p)(hL:2 * SizeOf.sizeOf p≤L):QK L (p,())=some true:=Zh6 L h1 p h hL (Zun L p h hL)
end Go.Proofs.YtleomfgijkapfaaGreatDoor
end
noncomputable section
namespace Go.Proofs.YtleomfgijkapfaaGreatDoor
open Go Go.Proofs.YtleomfgijkapfaaGreatDoor.Abs Go.Proofs.YtleomfgijkapfaaGreatDoor.Tl
set_option maxRecDepth 100000
set_option maxHeartbeats 0
def VO (L:Nat)(x:Zk×PUnit):Option Bool:=fT [Zjr,Ee L,Gv L,Md L,Du L] L Gz [.rnd [.slot 2 .bool,.slot 3 (.int .i64)],.rnd [.slot 2 .bool,.slot 4 (.int .i64)],.rnd [.slot 7 (.int .i64)]] (.one .bool) [.row 19] x
def Ef (L:Nat):Sum tT:=mU 8 [.row 19] (.one .bool) (VO L)
theorem SL:SX Ef:=fun h=>sT h (Zb (Zof h) (Zb (Zd7 h) (Zb (Ry h) (Zb (Ai h) (Zb (Zbx h) Zr))))) rfl (by kernel_rfl) fun _=>rfl
def WJ:Zk→Nat→(Bool×Int×PUnit→Option Bool)→Bool×Int×PUnit→(Bool×Int×PUnit→Option Bool)→Bool×Int×PUnit→Option Bool:=fun x0 L self acc self_1 acc_1=>bT (ZG x0.2 acc.2.1) fun y=>bif decide (acc_1.2.1 < (↑y.2.length:Int)) then bT (ZG x0.2 acc.2.1) fun y=>bT (ZG y.2 acc_1.2.1) fun y=>bT (bT (ZY L (x0,acc.2.1,y,())) fun y=>some y) fun y=>bif y != 0 then some false else self_1 (acc_1.1,Go.IntKind.i64.wrap (acc_1.2.1 + 1),()) else bT (U2 L (x0,acc.2.1,acc.2.1,())) fun y=>bif y.2.1 then some false else self (acc_1.1,Go.IntKind.i64.wrap (acc.2.1 + 1),())
def QE:Zk→Nat→(Int×PUnit→Option Bool)→Int×PUnit→Option Bool:=fun x0 L self acc=>bif decide (acc.1 < (↑x0.3.length:Int)) then bT (ZG x0.3 acc.1) fun y=>bT (ZG x0.3 acc.1) fun y_1=>bT (bT (U2 L (x0,y.1,y_1.2,())) fun y=>some y) fun y=>bT (bif (!y.2.1) == false then bT (ZG x0.3 acc.1) fun y_2=>some (y.1 != y_2.3) else some true) fun y_2=>bif y_2 || decide (y.1 < 1) then some false else self (Go.IntKind.i64.wrap (acc.1 + 1),()) else some true
def YZ:Zk→Nat→(Bool×Int×PUnit→Option Bool)→Bool×Int×PUnit→Option Bool:=fun x0 L self acc=>bif decide (acc.2.1 < (↑x0.2.length:Int)) then bT (ZG x0.2 acc.2.1) fun y=>bT (ZG x0.2 acc.2.1) fun y_1=>bif (↑y.2.length:Int) != (↑y_1.Decl.11.length:Int) then some false else Zq (WJ x0 L self acc) L (acc.1,0,()) else Zq (QE x0 L) L (0,())
theorem SG (L:Nat)(x0:Zk):VO L (x0,())=bT (VP L (x0,())) fun y=>bT (bif (!y) == false then bT (XV L (x0,())) fun y=>some (y != 0) else some true) fun y=>bif y then some true else Zq (YZ x0 L) L (false,0,()):=by kernel_rfl
end Go.Proofs.YtleomfgijkapfaaGreatDoor
end
section
namespace Go.Proofs.YtleomfgijkapfaaGreatDoor
open Go Go.Proofs.YtleomfgijkapfaaGreatDoor.Abs Go.Proofs.YtleomfgijkapfaaGreatDoor.Tl
set_option maxRecDepth 100000
theorem ZvV (x:Zk):SizeOf.sizeOf x.Sites < SizeOf.sizeOf x∧SizeOf.sizeOf x.Links < SizeOf.sizeOf x:=by cases x; simp; omega
end Go.Proofs.YtleomfgijkapfaaGreatDoor
end
section
namespace Go.Proofs.YtleomfgijkapfaaGreatDoor
open Go Go.Proofs.YtleomfgijkapfaaGreatDoor.Abs Go.Proofs.YtleomfgijkapfaaGreatDoor.Tl
set_option maxRecDepth 100000
theorem Zqx (n:List UInt8):∀ (l:List ZC) (s:Seen),VA n s l=0→∀ y ∈ l,agB y=true
 | [],_,_,y,h=>by cases h
 | x :: l,s,h,y,hy=>by
  rw [VA] at h
  split at h
  ·rename_i a; simp only [decide_eq_true_eq] at a; exact absurd h a
  ·split at h
   ·cases h
   ·split at h
    ·cases h
    ·rename_i a
     rcases List.mem_cons.1 hy with rfl | hy
     ·simpa using a
     ·exact Zqx n l _ h y hy
theorem ZfQ {α:Type}(V:α→Int):∀ l:List α,Yb V l=0→∀ c ∈ l,V c=0
 | [],_,c,h=>by cases h
 | x :: l,h,c,hc=>by
  rw [Yb] at h
  by_cases a:V x=0
  ·simp [a] at h
   rcases List.mem_cons.1 hc with rfl | hc
   ·exact a
   ·exact ZfQ V l h c hc
  ·simp [a] at h
theorem Zuz (V:Int→Y4→Int):∀ (l:List ZC) (i:Nat),rX V i l=0→∀ (k:Nat) y,l[k]? = some y→∀ c ∈ y.Routines,V ((i + k:Nat):Int) c=0
 | [],_,_,k,y,h=>by simp at h
 | x :: l,i,h,k,y,hy=>by
  rw [rX] at h
  split at h
  ·rename_i a; simp only [decide_eq_true_eq] at a; exact absurd h a
  ·rename_i a
   have a:Yb (V i) x.Routines=0:=by simpa using a
   cases k with
   | zero=>simp at hy; subst hy; exact ZfQ (V i) _ a
   | succ k =>
    have:=Zuz V l (i + 1) h k y (by simpa using hy)
    intro c hc
    have e:=this c hc
    rw [show i + (k + 1)=i + 1 + k by omega]; exact e
theorem ZoU (L:Nat)(h1:1000≤L)(p:Zk)(h:Xt p)(hL:2 * SizeOf.sizeOf p≤L)(e:XV L (p,())=some 0) :
  (∀ y ∈ p.Sites,agB y=true)∧(p.Links.length≤32∧Lu p [] p.Links=0)∧∀ (i:Nat) y,p.Sites[i]? = some y→∀ c ∈ y.Routines,ZY L (p,(i:Int),c,())=some 0:=by
 have h3:SizeOf.sizeOf p.Sites < SizeOf.sizeOf p∧SizeOf.sizeOf p.Name < SizeOf.sizeOf p∧SizeOf.sizeOf p.Links < SizeOf.sizeOf p:=by cases p; simp; omega
 have h4:=Z4 p.Sites; have h5:=Z4 p.Links; have h6:=Z4 p.Name
 have hs:=h.Sites.1; have hl:=h.Links.1
 have hn1:=Qb L p.Name (by have:=h.Name; unfold Len; omega) (by omega)
 have hr:∀ y ∈ p.Sites,y.Routines.length≤4611686018427387∧y.Routines.length < L:=fun y mem=>by
  have hz:=Zra p mem
  have:=(h.Sites.2 y mem).Routines.1
  have:=Z4 y.Routines
  omega
 obtain ⟨V,hV⟩:∃ V:Int→Y4→Int,∀ (i:Nat) y,p.Sites[i]? = some y→∀ c ∈ y.Routines,ZY L (p,(i:Int),c,())=some (V i c):=⟨fun i c=>(ZY L (p,i,c,())).getD 0,fun i y hy c hc=>by
  have mem:=List.mem_of_getElem? hy
  have hz:=Zra p mem
  have:=List.sizeOf_lt_of_mem hc
  obtain ⟨v,e1,e2⟩:=Ah L h1 p (by omega) (by omega) (i:Int) y (by rw [Zf]; exact hy) c ((h.Sites.2 y mem).Routines.2 c hc) (by omega)
  show _=some ((ZY L (p,(i:Int),c,())).getD 0)
  rw [e1]; rfl⟩
 have ca:=ZnC L p (by omega) (by omega)
 generalize hA:(if decide (32 < (p.Links.length:Int))=true then 6 else Lu p [] p.Links)=A at ca
 have c1:=Zms L h1 p h hL (by omega) (if decide (A=0)=true then rX V 0 p.Sites else A) (fun seen=>by
  rw [ca,Zv,Ztr L p V (by omega) (by omega) hr hV seen,Z7]
  by_cases a:A=0 <;> simp [a])
 rw [EW,hn1,Zv,c1] at e
 by_cases a1:XB p.Name=0
 rotate_left
 ·rw [Z7,decide_eq_false a1] at e; exact absurd (Option.some.inj e) a1
 by_cases a2:(p.Sites.length:Int)=0
 ·simp [a1,a2] at e
 by_cases a3:(p.Sites.length:Int) > 16
 ·have a3':decide ((p.Sites.length:Int) > 16)=true:=by simpa using a3
  rw [a3',Z7,a1,ZE,decide_eq_false a2] at e; cases e
 have a3':decide ((p.Sites.length:Int) > 16)=false:=by simpa using a3
 rw [a3',Z7,a1,ZE,decide_eq_false a2] at e
 replace e:(if decide (VA p.Name [] p.Sites≠0)=true then VA p.Name [] p.Sites else if decide (A=0)=true then rX V 0 p.Sites else A)=0:=Option.some.inj e
 split at e
 ·rename_i b; simp only [decide_eq_true_eq] at b; exact absurd e b
 rename_i b
 have b:VA p.Name [] p.Sites=0:=by simpa using b
 split at e
 rotate_left
 ·rename_i d; exact absurd e (by simpa using d)
 rename_i d
 have d:A=0:=by simpa using d
 rw [d] at hA
 refine ⟨Zqx p.Name p.Sites [] b,?_,fun i y hy c hc=>?_⟩
 ·split at hA
  ·cases hA
  ·rename_i g; exact ⟨by simp at g; omega,hA⟩
 ·have:=Zuz V p.Sites 0 e i y hy c hc
  rw [Nat.zero_add] at this
  rw [hV i y hy c hc,this]
theorem Zmc (p:Zk):∀ (l:List Zhs) (s:List (Int×Int)),Lu p s l=0→∀ x ∈ l,(0≤x.From∧x.From < p.Sites.length∧0≤x.To∧x.To < p.Sites.length∧x.From≠x.To∧1≤x.Delay∧x.Delay≤1000000000)∧BI x ∉ s∧l.find? (fun y=>decide (y.From=x.From) && decide (y.To=x.To))=some x
 | [],_,_,x,h=>by cases h
 | y :: l,s,h,x,hx=>by
  rw [Lu] at h
  split at h
  ·cases h
  rename_i a
  split at h
  ·cases h
  rename_i b
  have a':0≤y.From∧y.From < p.Sites.length∧0≤y.To∧y.To < p.Sites.length∧y.From≠y.To∧1≤y.Delay∧y.Delay≤1000000000:=by
   simp only [Bool.or_eq_true,decide_eq_true_eq,not_or] at a; omega
  have b':BI y ∉ s:=fun m=>b (List.contains_iff_mem.2 m)
  rcases List.mem_cons.1 hx with rfl | hx
  ·exact ⟨a',b',by simp [List.find?_cons]⟩
  ·obtain ⟨c1,c2,c3⟩:=Zmc p l _ h x hx
   refine ⟨c1,fun m=>c2 (List.mem_append_left _ m),?_⟩
   have:(decide (y.From=x.From) && decide (y.To=x.To))=false:=by
    rw [← Bool.not_eq_true,Bool.and_eq_true,decide_eq_true_eq,decide_eq_true_eq]
    rintro ⟨d1,d2⟩
    exact c2 (List.mem_append_right _ (by simp [BI,d1,d2]))
   rw [List.find?_cons,this]; exact c3
theorem ZmG {l:List Zhs}{a b:Int}(h:∀ x ∈ l,x.From=a→x.To≠b):l.find? (fun y=>decide (y.From=a) && decide (y.To=b))=none:=by
 rw [List.find?_eq_none]
 intro x hx
 rw [Bool.and_eq_true,decide_eq_true_eq,decide_eq_true_eq]
 rintro ⟨e1,e2⟩
 exact h x hx e1 e2
theorem Zij (L:Nat)(p:Zk)(h:Xt p)(hL:2 * SizeOf.sizeOf p≤L)(g1:∀ y ∈ p.Sites,agB y=true)(g2:Lu p [] p.Links=0)(g3:∀ (i:Nat) y,p.Sites[i]? = some y→∀ c ∈ y.Routines,ZY L (p,(i:Int),c,())=some 0) :
  Zq (YZ p L) L (false,0,())=some true:=by
 have z:=ZvV p; have h4:=Z4 p.Sites; have h5:=Z4 p.Links; have hs:=h.Sites.1; have hl:=h.Links.1
 have ha:=Zmc p p.Links [] g2
 have l1:Zq (QE p L) L (0,())=some true:=by
  refine SB p.Links (fun _=>some true) (by omega) (fun self i x r hx hi mem e=>?_) (fun self=>by rw [QE]; simp only [Zc,cond_false])
  obtain ⟨c1,-,c3⟩:=ha x mem
  have ea:Zoz p x.From x.To=(x.Delay,true,()):=by rw [Zoz,c3]
  rw [QE]
  simp only [Zg hi,cond_true,Zf,hx,Zv,ZnB L p x.From x.To (by omega) (by omega),ea,wrap_succ hi (by omega),e]
  have:decide (x.Delay < 1)=false:=by simp; omega
  simp [Zv,this]
 have l2:=SC (f := YZ p L) p.Sites (fun _ s=>if s=false then some true else none) (m := L) (by omega) false
 refine (Fp (f := YZ p L) p.Sites.length (fun i=>(false,i,())) (fun _=>some true) (fun self i hi e=>?_) (fun self=>?_) L 0 (Nat.zero_le _) (by omega))
 ·have hx:=List.getElem?_eq_getElem hi
  have mem:=List.getElem_mem hi
  generalize p.Sites[i]=y at hx mem
  have hy:=(h.Sites.2 y mem).Routines.1
  have hz:=Zra p mem; have hq:=Z4 y.Routines
  have hag:=g1 y mem
  have hlen:((y.Routines.length:Int) != (y.Decl.Routines.length:Int))=false:=by
   unfold agB at hag; rw [Bool.and_eq_true] at hag; rw [Z7,hag.1]; rfl
  have ea:Zoz p (i:Int) (i:Int)=(0,false,()):=by
   rw [Zoz,ZmG (fun x hx e1 e2=>(ha x hx).1.2.2.2.2.1 (by rw [e1,e2]))]
  have lr:Zq (WJ p L self (false,(i:Int),())) L (false,0,())=some true:=by
   refine Fp (f := WJ p L self (false,(i:Int),())) y.Routines.length (fun k=>(false,k,())) (fun _=>some true) (fun self1 k hk e1=>?_) (fun self1=>?_) L 0 (Nat.zero_le _) (by omega)
   ·have hx1:=List.getElem?_eq_getElem hk
    have mem1:=List.getElem_mem hk
    generalize y.Routines[k]=c at hx1 mem1
    rw [WJ]
    simp only [Zf,hx,Zv,Zg hk,cond_true,hx1,g3 i y hx c mem1,wrap_succ hk (by omega),e1]
    rfl
   ·rw [WJ]
    simp only [Zf,hx,Zv,Zc,cond_false,ZnB L p (i:Int) (i:Int) (by omega) (by omega),ea,wrap_succ hi (by omega),e]
  rw [YZ]
  simp only [Zg hi,cond_true,Zf,hx,Zv,hlen,cond_false,lr]
 ·rw [YZ]; simp only [Zc,cond_false,l1]
theorem Zbd (L:Nat)(h1:1000≤L)(p:Zk)(h:Xt p)(hL:2 * SizeOf.sizeOf p≤L):VO L (p,())=some true:=by
 obtain ⟨b,e1⟩:=Zun L p h hL
 obtain ⟨v,e2,_⟩:=Zdf L h1 p h hL
 rw [SG,e1,Zv,e2]
 by_cases a:v=0
 ·subst a
  obtain ⟨g1,g2,g3⟩:=ZoU L h1 p h hL e2
  cases b
  ·rfl
  ·simp [Zv,Zij L p h hL g1 g2.2 g3]
 ·have a':(v != (0:Int))=true:=by rw [Z7,decide_eq_false a]; rfl
  cases b <;> simp [Zv,a']
end Go.Proofs.YtleomfgijkapfaaGreatDoor
end
