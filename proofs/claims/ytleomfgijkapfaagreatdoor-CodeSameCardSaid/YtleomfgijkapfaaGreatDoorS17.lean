import Derived.Test.YtleomfgijkapfaaGreatDoorS16
set_option linter.all false
section
namespace Go.Proofs.YtleomfgijkapfaaGreatDoor
open Go Go.Proofs.YtleomfgijkapfaaGreatDoor.Abs Go.Proofs.YtleomfgijkapfaaGreatDoor.Tl
set_option maxRecDepth 100000
theorem Zdp {α:Type}(nm:α→List UInt8)(s:List UInt8)(l:List α):decide (Iw (fun x=>decide (nm x=s)) l 0 ≥ 0)=(l.map nm).contains s:=by
 rw [show decide (Iw (fun x=>decide (nm x=s)) l 0 ≥ 0)=_ from CG _ l 0 (Int.le_refl _),← Zmq,List.any_map]
 congr 1; funext x; exact decide_eq_decide.2 ⟨Eq.symm,Eq.symm⟩
theorem Vh (d:Zc):SizeOf.sizeOf d.Name < SizeOf.sizeOf d∧SizeOf.sizeOf d.Vars < SizeOf.sizeOf d∧SizeOf.sizeOf d.Resources < SizeOf.sizeOf d∧SizeOf.sizeOf d.Stores < SizeOf.sizeOf d∧SizeOf.sizeOf d.Belts < SizeOf.sizeOf d∧SizeOf.sizeOf d.Queues < SizeOf.sizeOf d∧SizeOf.sizeOf d.Streams < SizeOf.sizeOf d∧SizeOf.sizeOf d.Tallies < SizeOf.sizeOf d∧SizeOf.sizeOf d.Levels < SizeOf.sizeOf d∧SizeOf.sizeOf d.Counts < SizeOf.sizeOf d∧SizeOf.sizeOf d.Routines < SizeOf.sizeOf d∧SizeOf.sizeOf d.Starts < SizeOf.sizeOf d∧SizeOf.sizeOf d.Laws < SizeOf.sizeOf d:=by
 cases d; simp; omega
structure Sh (L:Nat)(d:Zc):Prop where
 nm:d.Name.length < L
 vars:d.Vars.length < L
 res:d.Resources.length < L
 sto:d.Stores.length < L
 bel:d.Belts.length < L
 que:d.Queues.length < L
 str:d.Streams.length < L
 tal:d.Tallies.length < L
 lev:d.Levels.length < L
 cnt:d.Counts.length < L
 rou:d.Routines.length < L
 sta:d.Starts.length < L
 law:d.Laws.length < L
theorem Sh.of {L:Nat}{d:Zc}(h:SizeOf.sizeOf d≤L):Sh L d:=by
 have:=Vh d
 constructor
 ·have:=Zu d.Name; omega
 ·have:=Zu d.Vars; omega
 ·have:=Zu d.Resources; omega
 ·have:=Zu d.Stores; omega
 ·have:=Zu d.Belts; omega
 ·have:=Zu d.Queues; omega
 ·have:=Zu d.Streams; omega
 ·have:=Zu d.Tallies; omega
 ·have:=Zu d.Levels; omega
 ·have:=Zu d.Counts; omega
 ·have:=Zu d.Routines; omega
 ·have:=Zu d.Starts; omega
 ·have:=Zu d.Laws; omega
theorem Zo3 (L:Nat)(d:Zc)(t:JC)(h:ZA d)(hL:d.Stores.length < L):Zo (Vy d t) L (0,())=some (Iw (fun x:ZO=>decide (x.Name=t.Name)) d.Stores 0):=by
 have:=h.st
 exact Zk1 d.Stores (fun l i=>some (Iw (fun x:ZO=>decide (x.Name=t.Name)) l i)) hL (fun self i x r hx hi _ e=>by
  rw [Vy]; simp only [Ze,Zb,cond_true,cond_false,Zd,Zq,Za,Zi,condC,Zk,Zj,Zh,Zx,Z5,Zw,hi,hx,wrap_succ hi (by omega),e,Iw]; simp only [Y3,XE,if_true,if_false,Bool.false_eq_true,ne_eq,decide_not,gt_iff_lt,ge_iff_le]) (fun self=>by rw [Vy]; simp only [Ze,Zb,cond_true,cond_false,Zd,Zq,Za,Zi,condC,Zk,Zj,Zh,Zx,Z5,Zw,Iw])
theorem ZxC (L:Nat)(d:Zc)(t:JC)(h:ZA d)(hs:Sh L d):OE L (d,t,())=some (Zfl d t):=by
 have:=h.st
 have sl:=Zo3 L d t h hs.sto
 rw [Zjl,show AA=Vy from rfl,show AB=Vy from rfl]
 simp only [Ze,Zb,cond_true,cond_false,Zd,Zq,Za,Zi,condC,Zk,Zj,Zh,Zx,Z5,Zw,ZfW L d t.Name (by unfold Len; omega) hs.rou,sl,ZfV L d.Counts t.Name (by unfold Len; omega) hs.cnt,Kz,Zdp,Zfl,Zfm]; simp only [Y3,XE,if_true,if_false,Bool.false_eq_true,ne_eq,decide_not,gt_iff_lt,ge_iff_le]
theorem Zz9 {l:List RV}{x:RV}(h:x ∈ l):x.Terms.length < SizeOf.sizeOf l∧x.Name.length < SizeOf.sizeOf l:=by
 have:=List.sizeOf_lt_of_mem h
 have h1:=Zu x.Terms; have h2:=Zu x.Name
 have:SizeOf.sizeOf x.Terms < SizeOf.sizeOf x∧SizeOf.sizeOf x.Name < SizeOf.sizeOf x:=by cases x; simp; omega
 omega
theorem Em {α σ:Type}(f:α→Int)(s:σ):∀ l:List α,We (fun x s=>(f x,s)) l s=(Y2 f l,s)
 | []=>rfl
 | x :: l=>by rw [We,Em f s l,Y2]; split <;> rfl
theorem Zx8 (L:Nat)(d:Zc)(h:ZA d)(hL:SizeOf.sizeOf d≤L):OC L (d,())=some (PM d):=by
 have hs:=Sh.of hL
 have hz:=Vh d
 have hl:d.Laws.length≤4611686018427387:=by have:=h.Laws.1; omega
 have lp:=ZgL (f := GL d L) d.Laws (fun l:RV=>Y9 l.Name (Zrs d l)) hs.law ([]:Seen) (fun self s i x hx hi mem=>by
  have hsz:=Zz9 mem
  have ok:=h.Laws.2 x mem
  have hn:=X0 L x.Name (by have:=ok.Name; unfold Len; omega) (by omega)
  have ht:=ok.t
  have tl:=fun s:Seen=>ZgL (f := GK d L x) x.Terms (fun t s=>(Zfl d t,s)) (show x.Terms.length < L by omega) s (fun self s i t hx hi mem=>by
   rw [GK]; simp only [Ze,Zb,cond_true,cond_false,Zd,Zq,Za,Zi,condC,Zk,Zj,Zh,Zx,Z5,Zw,hi,hx,ZxC L d t h hs,wrap_succ hi (by omega)]) (fun self s=>by rw [GK]; simp only [Ze,Zb,cond_true,cond_false,Zd,Zq,Za,Zi,condC,Zk,Zj,Zh,Zx,Z5,Zw])
  simp only [Em] at tl
  rw [GL]
  simp only [Ze,cond_true,Zd,Zq,Zw,GG,hi,hx,hn]
  simp only [Ze,Zb,cond_true,cond_false,Zd,Zq,Za,Zi,condC,Zk,Zj,Zh,Zx,Z5,Zw,Zzk,tl,wrap_succ hi (by omega)]
  simp only [Y9,Zrs,Sv]
  by_cases a:(YM x.Name s).1=0 <;> by_cases b:x.Terms=[] <;> by_cases c:8 < (x.Terms.length:Int) <;> by_cases e:Y2 (Zfl d) x.Terms=0 <;> rcases Bool.eq_false_or_eq_true (inB x.Total) with g | g <;> simp [a,b,c,e,g,Zq])
  (fun self s=>by rw [GL]; simp only [Ze,Zb,cond_true,cond_false,Zd,Zq,Za,Zi,condC,Zk,Zj,Zh,Zx,Z5,Zw])
 rw [Zjj,Iq 32 (fun l:RV=>Y9 l.Name (Zrs d l)) d.Laws [] lp,Zq]
 rfl
end Go.Proofs.YtleomfgijkapfaaGreatDoor
end
section
namespace Go.Proofs.YtleomfgijkapfaaGreatDoor
open Go Go.Proofs.YtleomfgijkapfaaGreatDoor.Abs Go.Proofs.YtleomfgijkapfaaGreatDoor.Tl
set_option maxRecDepth 100000
theorem ZsH (L:Nat)(a b:List Y1)(h:a.length + b.length≤1000)(hL:2 < L):Ym L ([a,b],())=some (a ++ b):=by
 have w1:IntKind.i64.wrap (0 + (a.length:Int))=a.length:=by rw [Int.zero_add]; exact wrap_in (by omega) (by omega)
 have w2:IntKind.i64.wrap ((a.length:Int) + b.length)=(a.length:Int) + b.length:=wrap_in (by omega) (by omega)
 have n1:decide ((a.length:Int) < 0)=false:=by simp only [decide_eq_false_iff_not]; omega
 have n2:decide ((a.length:Int) + b.length < 0)=false:=by simp only [decide_eq_false_iff_not]; omega
 have g:Zsa [] ((a.length:Int) + b.length)=some []:=by unfold Zsa; rw [if_pos ⟨rfl,by omega,by omega⟩]
 have p1:apT 24 [] a=some a:=by unfold apT; rw [if_pos (by simp only [List.length_nil]; omega)]; rfl
 have p2:apT 24 a b=some (a ++ b):=by unfold apT; rw [if_pos (by omega)]
 rw [VE,ZeQ _ hL]
 simp only [Qc,two,w01,Zq,cond_true,cond_false,w1,w2,n1,n2,g,ZeQ (YF _) hL,YF,p1,p2]
theorem ZyX {α σ:Type}{f:(Int×σ×PUnit→Option Int)→Int×σ×PUnit→Option Int}(l:List α)(step:α→σ→Int×σ)(e:Int){m:Nat}(hm:l.length < m)(s:σ)
  (h1:∀ self s (i:Nat) x,l[i]? = some x→i < l.length→x ∈ l→f self ((i:Int),s,())=bif !decide ((step x s).1=0) then some (step x s).1 else self ((i:Int) + 1,(step x s).2,()))
  (h2:∀ self s,f self ((l.length:Int),s,())=some e):Zo f m (0,s,())=some (if decide ((We step l s).1≠0)=true then (We step l s).1 else e) :=
 ZiF l (fun s i=>(i,s,())) (fun l s=>some (if decide ((We step l s).1≠0)=true then (We step l s).1 else e)) (fun self s i x r hx hi mem e=>by
  rw [h1 self s i x hx hi mem,e,We]
  by_cases c:(step x s).1=0 <;> simp [c]) (fun self s=>by rw [h2]; rfl) m 0 s (Nat.zero_le _) (by omega)
theorem Zyp {l:List Y1}{x:Y1}(h:x ∈ l):x.Name.length < SizeOf.sizeOf l:=by
 have:=List.sizeOf_lt_of_mem h
 have h2:=Zu x.Name
 have:SizeOf.sizeOf x.Name < SizeOf.sizeOf x:=by cases x; simp; omega
 omega
theorem ZjO (r:ZJ):SizeOf.sizeOf r.Name < SizeOf.sizeOf r∧SizeOf.sizeOf r.Params < SizeOf.sizeOf r∧SizeOf.sizeOf r.Locals < SizeOf.sizeOf r∧SizeOf.sizeOf r.Body < SizeOf.sizeOf r:=by cases r; simp; omega
theorem Zq6 (L:Nat)(h1:100≤L)(r:ZJ)(h:Ic r)(hL:SizeOf.sizeOf r≤L):Ud L (r,())=some (XN r):=by
 have hz:=ZjO r
 have hp:=h.p
 have hw:IntKind.i64.wrap ((r.Params.length:Int) + (r.Locals.length:Int))=(r.Params.length:Int) + (r.Locals.length:Int):=wrap_in (by omega) (by omega)
 rw [ZdI,hw,XN]
 by_cases hc:6 < (r.Params.length:Int)∨16 < (r.Params.length:Int) + (r.Locals.length:Int)
 ·rw [if_pos (by simpa using hc),show (decide ((r.Params.length:Int) > 6) || decide ((r.Params.length:Int) + (r.Locals.length:Int) > 16))=true by simpa using hc]; rfl
 ·have hf:(decide ((r.Params.length:Int) > 6) || decide ((r.Params.length:Int) + (r.Locals.length:Int) > 16))=false:=by
   simp only [Bool.or_eq_false_iff,decide_eq_false_iff_not]; omega
  have hf':¬ ((decide (6 < (r.Params.length:Int)) || decide (16 < (r.Params.length:Int) + (r.Locals.length:Int)))=true):=by simpa using hc
  rw [if_neg hf',hf,cond_false,ZsH L _ _ (by omega) (by omega),Zq]
  have hlen:(r.Params ++ r.Locals).length≤16:=by rw [List.length_append]; omega
  exact ZyX (f := VW r L (r.Params ++ r.Locals)) (r.Params ++ r.Locals) (fun f:Y1=>Y9 f.Name (Zdi f)) (ZaI r.Body) (by omega) [] (fun self s i x hx hi mem=>by
   have ok:Zcm x∧x.Name.length < L:=by
    rcases List.mem_append.1 mem with m | m
    ·exact ⟨h.Params.2 x m,by have:=Zyp m; omega⟩
    ·exact ⟨h.Locals.2 x m,by have:=Zyp m; omega⟩
   have hn:=X0 L x.Name (by have:=ok.1.Name; unfold Len; omega) ok.2
   rw [VW]
   simp only [Ze,cond_true,Zd,Zq,Zw,GG,hi,hx,hn]
   simp only [Ze,Zb,cond_true,cond_false,Zd,Zq,Za,Zi,condC,Zk,Zj,Zh,Zx,Z5,Zw,ZmS,wrap_succ hi (by omega)]
   simp only [Y9,Zdi]
   by_cases a:(YM x.Name s).1=0 <;> rcases Bool.eq_false_or_eq_true (btw x.Ty 1 3) with g | g <;> simp [a,g]) (fun self s=>by
   rw [VW]; simp only [Ze,Zb,cond_true,cond_false,Zd,Zq,Za,Zi,condC,Zk,Zj,Zh,Zx,Z5,Zw,ZsP L h1 r.Body h.p.2.2 (by omega)])
theorem ZoK {α:Type}[SizeOf α](g:α→List UInt8)(hg:∀ x,SizeOf.sizeOf (g x) < SizeOf.sizeOf x){l:List α}{x:α}(h:x ∈ l):(g x).length < SizeOf.sizeOf l∧SizeOf.sizeOf x < SizeOf.sizeOf l:=by
 have h1:=List.sizeOf_lt_of_mem h
 have h2:=Zu (g x)
 have h3:=hg x
 omega
theorem ZpP (L:Nat)(d:Zc)(h:d.Queues.length * 16≤140737488351232∧∀ y ∈ d.Queues,y.length≤140737488351232)(hL:SizeOf.sizeOf d.Queues≤L)(s:Seen):Zo (GX d L) L (0,s,())=some ((We YM d.Queues s).1,(We YM d.Queues s).2,()):=by
 have hk:=Zu d.Queues
 refine ZgL d.Queues YM (by omega) s (fun self s i x hx hi mem=>?_) (fun self s=>by rw [GX]; simp only [Ze,Zb,cond_true,cond_false,Zd,Zq,Za,Zi,condC,Zk,Zj,Zh,Zx,Z5,Zw])
 have h1:=List.sizeOf_lt_of_mem mem
 have hn:=X0 L x (by have:=h.2 x mem; unfold Len; omega) (by have:=Zu x; omega)
 rw [GX]
 simp only [Ze,cond_true,Zd,Zq,Zw,GG,hi,hx,hn]
 simp only [Ze,Zb,cond_true,cond_false,Zd,Zq,Za,Zi,condC,Zk,Zj,Zh,Zx,Z5,Zw,wrap_succ hi (by omega)]
theorem ZwS (L:Nat)(d:Zc)(h:ZA d)(hL:SizeOf.sizeOf d≤L)(s:Seen):Zo (GM d L) L (0,s,())=some ((We (fun v:WO=>Y9 v.Name (RU v)) d.Vars s).1,(We (fun v:WO=>Y9 v.Name (RU v)) d.Vars s).2,()):=by
 have hz:=Vh d
 have hs:=Sh.of hL
 have hl:=h.Vars.1
 refine ZgL d.Vars _ hs.vars s (fun self s i x hx hi mem=>?_) (fun self s=>by rw [GM]; simp only [Ze,Zb,cond_true,cond_false,Zd,Zq,Za,Zi,condC,Zk,Zj,Zh,Zx,Z5,Zw])
 have hm:=ZoK (fun v:WO=>v.Name) (fun x=>by cases x; simp; omega) mem
 have hn:=X0 L x.Name (by have:=(h.Vars.2 x mem).Name; unfold Len; omega) (by omega)
 rw [GM]
 simp only [Ze,cond_true,Zd,Zq,Zw,GG,hi,hx,hn]
 simp only [Ze,Zb,cond_true,cond_false,Zd,Zq,Za,Zi,condC,Zk,Zj,Zh,Zx,Z5,Zw,ZmS,ZtL,wrap_succ hi (by omega)]
 simp only [Y9,RU]
 by_cases a:(YM x.Name s).1=0 <;> rcases Bool.eq_false_or_eq_true (btw x.Ty 1 3) with g | g <;> rcases Bool.eq_false_or_eq_true (fitsT x.Ty x.N) with g' | g' <;> simp [a,g,g']
theorem ZyR (L:Nat)(h1:100≤L)(d:Zc)(h:ZA d)(hL:SizeOf.sizeOf d≤L)(s:Seen):Zo (GN d L) L (0,s,())=some ((We (fun v:Zn=>Y9 v.Name (Zoy d v)) d.Resources s).1,(We (fun v:Zn=>Y9 v.Name (Zoy d v)) d.Resources s).2,()):=by
 have hz:=Vh d
 have hs:=Sh.of hL
 have hl:=h.Resources.1
 refine ZgL d.Resources _ hs.res s (fun self s i x hx hi mem=>?_) (fun self s=>by rw [GN]; simp only [Ze,Zb,cond_true,cond_false,Zd,Zq,Za,Zi,condC,Zk,Zj,Zh,Zx,Z5,Zw])
 have hm:=ZoK (fun v:Zn=>v.Name) (fun x=>by cases x; simp; omega) mem
 have ok:=h.Resources.2 x mem
 have hx2:SizeOf.sizeOf x.Fault < SizeOf.sizeOf x∧SizeOf.sizeOf x.Shift < SizeOf.sizeOf x:=by cases x; simp; omega
 have hsh:=Zu x.Shift
 have hn:=X0 L x.Name (by have:=ok.Name; unfold Len; omega) (by omega)
 rw [GN]
 simp only [Ze,cond_true,Zd,Zq,Zw,GG,hi,hx,hn]
 simp only [Ze,Zb,cond_true,cond_false,Zd,Zq,Za,Zi,condC,Zk,Zj,Zh,Zx,Z5,Zw,Kz,Zoc L x ok (by omega),ZnY L d h hL x.Fault ok.Fault (by omega) h1,wrap_succ hi (by omega)]
 simp only [Y9,Zoy]
 by_cases a:(YM x.Name s).1=0 <;> rcases Bool.eq_false_or_eq_true (btw x.Units 0 1000) with g | g <;> by_cases b:Zrx x=0 <;> simp [a,g,b]
theorem ZyU (L:Nat)(d:Zc)(h:ZA d)(hL:SizeOf.sizeOf d≤L)(s:Seen):Zo (GU d L) L (0,s,())=some ((We (fun v:ZO=>Y9 v.Name (Rz v)) d.Stores s).1,(We (fun v:ZO=>Y9 v.Name (Rz v)) d.Stores s).2,()):=by
 have hz:=Vh d
 have hs:=Sh.of hL
 have hl:=h.Stores.1
 refine ZgL d.Stores _ hs.sto s (fun self s i x hx hi mem=>?_) (fun self s=>by rw [GU]; simp only [Ze,Zb,cond_true,cond_false,Zd,Zq,Za,Zi,condC,Zk,Zj,Zh,Zx,Z5,Zw])
 have hm:=ZoK (fun v:ZO=>v.Name) (fun x=>by cases x; simp; omega) mem
 have hn:=X0 L x.Name (by have:=(h.Stores.2 x mem).Name; unfold Len; omega) (by omega)
 rw [GU]
 simp only [Ze,cond_true,Zd,Zq,Zw,GG,hi,hx,hn]
 simp only [Ze,Zb,cond_true,cond_false,Zd,Zq,Za,Zi,condC,Zk,Zj,Zh,Zx,Z5,Zw,Kz,wrap_succ hi (by omega)]
 simp only [Y9,Rz]
 by_cases a:(YM x.Name s).1=0 <;> rcases Bool.eq_false_or_eq_true (btw x.Room 1 1000) with g | g <;> by_cases b:x.Policy < 1 <;> by_cases c:3 < x.Policy <;> simp [a,g,b,c]
theorem ZyQ (L:Nat)(d:Zc)(h:ZA d)(hL:SizeOf.sizeOf d≤L)(s:Seen):Zo (GV d L) L (0,s,())=some ((We (fun v:Yo=>Y9 v.Name (Zbx v)) d.Belts s).1,(We (fun v:Yo=>Y9 v.Name (Zbx v)) d.Belts s).2,()):=by
 have hz:=Vh d
 have hs:=Sh.of hL
 have hl:=h.Belts.1
 refine ZgL d.Belts _ hs.bel s (fun self s i x hx hi mem=>?_) (fun self s=>by rw [GV]; simp only [Ze,Zb,cond_true,cond_false,Zd,Zq,Za,Zi,condC,Zk,Zj,Zh,Zx,Z5,Zw])
 have hm:=ZoK (fun v:Yo=>v.Name) (fun x=>by cases x; simp; omega) mem
 have hn:=X0 L x.Name (by have:=(h.Belts.2 x mem).Name; unfold Len; omega) (by omega)
 rw [GV]
 simp only [Ze,cond_true,Zd,Zq,Zw,GG,hi,hx,hn]
 simp only [Ze,Zb,cond_true,cond_false,Zd,Zq,Za,Zi,condC,Zk,Zj,Zh,Zx,Z5,Zw,Kz,wrap_succ hi (by omega)]
 simp only [Y9,Zbx]
 by_cases a:(YM x.Name s).1=0 <;> rcases Bool.eq_false_or_eq_true (btw x.Length 1 1000) with g | g <;> rcases Bool.eq_false_or_eq_true (btw x.Step 1 1000) with g' | g' <;> simp [a,g,g']
theorem ZyS (L:Nat)(h1:100≤L)(d:Zc)(h:ZA d)(hL:SizeOf.sizeOf d≤L)(s:Seen):Zo (GY d L) L (0,s,())=some ((We (fun v:ZJ=>Y9 v.Name (XN v)) d.Routines s).1,(We (fun v:ZJ=>Y9 v.Name (XN v)) d.Routines s).2,()):=by
 have hz:=Vh d
 have hs:=Sh.of hL
 have hl:=h.Routines.1
 refine ZgL d.Routines _ hs.rou s (fun self s i x hx hi mem=>?_) (fun self s=>by rw [GY]; simp only [Ze,Zb,cond_true,cond_false,Zd,Zq,Za,Zi,condC,Zk,Zj,Zh,Zx,Z5,Zw])
 have hm:=ZoK (fun v:ZJ=>v.Name) (fun x=>by cases x; simp; omega) mem
 have ok:=h.Routines.2 x mem
 have hn:=X0 L x.Name (by have:=ok.Name; unfold Len; omega) (by omega)
 rw [GY]
 simp only [Ze,cond_true,Zd,Zq,Zw,GG,hi,hx,hn]
 simp only [Ze,Zb,cond_true,cond_false,Zd,Zq,Za,Zi,condC,Zk,Zj,Zh,Zx,Z5,Zw,Zq6 L h1 x ok (by omega),wrap_succ hi (by omega)]
 simp only [Y9]
 by_cases a:(YM x.Name s).1=0 <;> simp [a]
theorem ZyT (L:Nat)(d:Zc)(h:ZA d)(hL:SizeOf.sizeOf d≤L)(s:Seen):Zo (XF d L) L (0,s,())=some (Y2 (Jw d) d.Starts,s,()):=by
 have hz:=Vh d
 have hs:=Sh.of hL
 have hl:=h.Starts.1
 have:=ZgL (f := XF d L) d.Starts (fun x s=>(Jw d x,s)) hs.sta s (fun self s i x hx hi mem=>by
  have hm:=ZoK (fun v:Qm=>v.Routine) (fun x=>by cases x; simp; omega) mem
  have hx2:SizeOf.sizeOf x.Args < SizeOf.sizeOf x:=by cases x; simp; omega
  have ha:=Zu x.Args
  rw [XF]
  simp only [Ze,Zb,cond_true,cond_false,Zd,Zq,Za,Zi,condC,Zk,Zj,Zh,Zx,Z5,Zw,hi,hx,ZvB L d h hs.rou x (h.Starts.2 x mem) (by omega),wrap_succ hi (by omega)]) (fun self s=>by rw [XF]; simp only [Ze,Zb,cond_true,cond_false,Zd,Zq,Za,Zi,condC,Zk,Zj,Zh,Zx,Z5,Zw])
 rw [Em] at this
 exact this
theorem D5 {σ:Type}(P:Int×σ)(r:List (σ→Int×σ)){X:Option (Int×σ×PUnit)}(h:X=some ((P6 r P.2).1,(P6 r P.2).2,()))(f:σ→Int×σ)(s:σ)(hP:f s=P):(bif P.1 != 0 then some (P.1,P.2,()) else X)=some ((P6 (f :: r) s).1,(P6 (f :: r) s).2,()):=by
 subst h; subst hP
 rw [P6]
 by_cases c:(f s).1=0 <;> simp [c,Zw]
theorem ZxB (L:Nat)(h1:100≤L)(d:Zc)(h:ZA d)(hL:SizeOf.sizeOf d≤L):OD L (d,())=some (ZhD d):=by
 have hz:=Vh d
 have e0:=fun s=>Iq 32 (fun v:WO=>Y9 v.Name (RU v)) d.Vars s (ZwS L d h hL s)
 have e1:=fun s=>Iq 32 (fun v:Zn=>Y9 v.Name (Zoy d v)) d.Resources s (ZyR L h1 d h hL s)
 have e2:=fun s=>Iq 32 (fun v:ZO=>Y9 v.Name (Rz v)) d.Stores s (ZyU L d h hL s)
 have e3:=fun s=>Iq 32 (fun v:Yo=>Y9 v.Name (Zbx v)) d.Belts s (ZyQ L d h hL s)
 have e4:=fun s=>Iq 32 YM d.Queues s (ZpP L d h.Queues (by omega) s)
 have e5:=fun s:Seen=>Iq 32 YM d.Streams s (show Zo (Aw d L) L (0,s,())=_ from ZpP L { d with Queues:=d.Streams } h.Streams (show SizeOf.sizeOf d.Streams≤L by omega) s)
 have e6:=fun s:Seen=>Iq 32 YM d.Tallies s (show Zo (Az d L) L (0,s,())=_ from ZpP L { d with Queues:=d.Tallies } h.Tallies (show SizeOf.sizeOf d.Tallies≤L by omega) s)
 have e7:=fun s:Seen=>Iq 32 YM d.Levels s (show Zo (A7 d L) L (0,s,())=_ from ZpP L { d with Queues:=d.Levels } h.Levels (show SizeOf.sizeOf d.Levels≤L by omega) s)
 have e8:=fun s:Seen=>Iq 32 YM d.Counts s (show Zo (A8 d L) L (0,s,())=_ from ZpP L { d with Queues:=d.Counts } h.Counts (show SizeOf.sizeOf d.Counts≤L by omega) s)
 have e9:=fun s=>Iq 16 (fun v:ZJ=>Y9 v.Name (XN v)) d.Routines s (ZyS L h1 d h hL s)
 have ea:∀ s:Seen,(bif decide ((d.Starts.length:Int) > 32) then some (6,s,()) else Zo (XF d L) L (0,s,()))=some (Sv 32 (Jw d) d.Starts,s,()):=fun s=>by
  rw [ZyT L d h hL s]; unfold Sv; by_cases c:32 < (d.Starts.length:Int) <;> simp [c]
 rw [Zjk]
 simp only [e0,e1,e2,e3,e4,e5,e6,e7,e8,e9,ea,Zq,Zx8 L d h hL]
 have fin:∀ s:Seen,(bif PM d != 0 then some (PM d,s,()) else some (0,s,()))=some ((P6 [fun s:Seen=>(PM d,s)] s).1,(P6 [fun s:Seen=>(PM d,s)] s).2,()):=fun s=>by
  rw [P6,P6,Zw]; by_cases c:PM d=0 <;> simp [c]
 have key:=D5 _ _ (D5 _ _ (D5 _ _ (D5 _ _ (D5 _ _ (D5 _ _ (D5 _ _ (D5 _ _ (D5 _ _ (D5 _ _ (D5 (Sv 32 (Jw d) d.Starts,_) _ (fin _) (fun s=>(Sv 32 (Jw d) d.Starts,s)) _ rfl) (Xz 16 (fun v:ZJ=>Y9 v.Name (XN v)) d.Routines) _ rfl) (Xz 32 YM d.Counts) _ rfl) (Xz 32 YM d.Levels) _ rfl) (Xz 32 YM d.Tallies) _ rfl) (Xz 32 YM d.Streams) _ rfl) (Xz 32 YM d.Queues) _ rfl) (Xz 32 (fun v:Yo=>Y9 v.Name (Zbx v)) d.Belts) _ rfl) (Xz 32 (fun v:ZO=>Y9 v.Name (Rz v)) d.Stores) _ rfl) (Xz 32 (fun v:Zn=>Y9 v.Name (Zoy d v)) d.Resources) _ rfl) (Xz 32 (fun v:WO=>Y9 v.Name (RU v)) d.Vars) ([]:Seen) rfl
 exact (congrArg (fun o:Option (Int×Seen×PUnit)=>bT o fun y=>some y.1) key).trans rfl
end Go.Proofs.YtleomfgijkapfaaGreatDoor
end
section
namespace Go.Proofs.YtleomfgijkapfaaGreatDoor
open Go Go.Proofs.YtleomfgijkapfaaGreatDoor.Abs Go.Proofs.YtleomfgijkapfaaGreatDoor.Tl
set_option maxRecDepth 100000
def M1 (n:List UInt8)(d:Zc):Int:=if decide (J5 n≠0)=true then J5 n else (Y9 d.Name (ZhD d) []).1
theorem one1 {α:Type}(a:α):Z8 [a] 0=some a∧decide ((0:Int) < (([a].length:Nat):Int))=true∧decide ((1:Int) < (([a].length:Nat):Int))=false∧decide ((([a].length:Nat):Int) > 16)=false∧decide ((([a].length:Nat):Int)=0)=false∧decide ((([a].length:Nat):Int) > 0)=true∧decide ((([a].length:Nat):Int)≤16)=true :=
 ⟨Zd [a] 0,by simp,by simp,by simp,by simp,by simp,by simp⟩
theorem Zwo (α:Type):decide ((0:Int) < ((([]:List α).length:Nat):Int))=false∧decide (((([]:List α).length:Nat):Int) > 32)=false∧decide (((([]:List α).length:Nat):Int)≤32)=true:=⟨rfl,rfl,rfl⟩
theorem ZsM (L:Nat)(h1:100≤L)(n:List UInt8)(hn:n.length≤140737488351232)(hnL:n.length < L)(d:Zc)(h:ZA d)(hL:SizeOf.sizeOf d≤L):Hm L (⟨n,[],[d],[]⟩,())=some (M1 n d):=by
 have hs:=Sh.of hL
 have e1:=X0 L n (by unfold Len; omega) hnL
 have e2:=X0 L d.Name (by have:=h.Name; unfold Len; omega) hs.nm
 have e3:Ho L (⟨n,[],[d],[]⟩,())=some 0:=by
  rw [Zhk,ZeQ _ (show 2 < L by omega)]
  simp only [NC,Zwo,cond_false,Zq]
 have e4:Zo (OX ⟨n,[],[d],[]⟩ L) L (0,[],())=some (0,[],()):=by
  rw [ZeQ _ (show 2 < L by omega)]
  simp only [OX,Zwo,cond_false]
 rw [Zhi]
 simp only [ZeQ (OY ⟨n,[],[d],[]⟩ L) (show 2 < L by omega),OY,one1,Zwo,w01,e1,e2,e3,e4,GG,Zq,cond_true,cond_false,Zw,Zx,ZxB L h1 d h hL]
 simp only [M1,Y9]
 by_cases a:J5 n=0 <;> by_cases b:(YM d.Name []).1=0 <;> by_cases c:ZhD d=0 <;> simp [a,b,c,Zq]
theorem KA (L:Nat)(a b c:Int):ZN L (a,b,c,())=some (btw a b c):=Zjr L a b c
theorem U3 (L:Nat)(a b:Int):ZB L (a,b,())=some (WE a b):=by
 simp only [Ze,Zb,cond_true,cond_false,Zd,Zq,Za,Zi,condC,Zk,Zj,Zh,Zx,Z5,Zw,Zlp,WE]; simp only [Y3,XE,if_true,if_false,Bool.false_eq_true,ne_eq,decide_not,gt_iff_lt,ge_iff_le]
theorem Vz (L:Nat)(a:Bool)(b:Int):Zr L (a,b,())=some (YG a b):=by
 simp only [Ze,Zb,cond_true,cond_false,Zd,Zq,Za,Zi,condC,Zk,Zj,Zh,Zx,Z5,Zw,Zjq,YG]; simp only [Y3,XE,if_true,if_false,Bool.false_eq_true,ne_eq,decide_not,gt_iff_lt,ge_iff_le]
theorem Zq1 (L:Nat)(t:Int):Ob L (t,())=some (ZjP t):=Zlo L t
theorem ZtJ (L:Nat)(t n:Int):TY L (t,n,())=some (fitsT t n):=by
 simp only [Ze,Zb,cond_true,cond_false,Zd,Zq,Za,Zi,condC,Zk,Zj,Zh,Zx,Z5,Zw,Zon,Zv7,KA,fitsT]; simp only [Y3,XE,if_true,if_false,Bool.false_eq_true,ne_eq,decide_not,gt_iff_lt,ge_iff_le]
theorem Zm7 (s:List UInt8)(l:List (List UInt8)):decide (Iw (fun k=>decide (k=s)) l 0 < 0)=!(l.contains s):=by
 have:=Zdp (fun x:List UInt8=>x) s l
 rw [List.map_id'] at this
 rw [← this,show decide (Iw (fun k=>decide (k=s)) l 0 < 0)=!decide (Iw (fun k=>decide (k=s)) l 0 ≥ 0) by rw [← decide_not]; congr 1; exact propext Int.not_le.symm]
theorem Zca (L:Nat)(h1:100≤L)(s:List UInt8)(seen:Seen)(hs:Len s)(hsL:s.length < L)(hl:Len seen)(hL:seen.length < L):Jo L (s,seen,())=some (ZaM s seen):=by
 simp only [Ze,Zb,cond_true,cond_false,Zd,Zq,Za,Zi,condC,Zk,Zj,Zh,Zx,Z5,Zw,Zlr,U4 L s hs hsL h1,ZiP L seen s hl hL,Vz,U3,Zm7,ZaM]
theorem apS {l:List (List UInt8)}{a:List UInt8}(h:l.length≤8000000000000):apT 16 l [a]=some (l ++ [a]):=by unfold apT; rw [if_pos (by simp only [List.length_cons,List.length_nil]; omega)]
theorem ZpX {α τ ρ:Type}{f:(τ→Option ρ)→τ→Option ρ}(l:List α)(nm:α→List UInt8)(pk:List (List UInt8)→Int→τ)(o:Option ρ){m:Nat}(hm:l.length < m)
  (h1:∀ self s (i:Nat) x,l[i]? = some x→i < l.length→s.length≤i→f self (pk s i)=self (pk (s ++ [nm x]) ((i:Int) + 1)))
  (h2:∀ self,f self (pk (l.map nm) (l.length:Nat))=o):Zo f m (pk [] 0)=o:=by
 have key:∀ (m i:Nat),i≤l.length→l.length - i < m→Zo f m (pk ((l.take i).map nm) i)=o:=by
  intro m
  induction m with
  | zero=>intro i _ h; exact absurd h (Nat.not_lt_zero _)
  | succ m ih =>
   intro i hi hm
   show f (Zo f m) _=_
   rcases Nat.lt_or_ge i l.length with hlt | hge
   ·have hx:=List.getElem?_eq_getElem hlt
    rw [h1 _ _ i _ hx hlt (by rw [List.length_map,List.length_take]; omega),← ih (i + 1) hlt (by omega)]
    rw [List.take_succ,hx,List.map_append]; rfl
   ·have:i=l.length:=by omega
    subst this
    rw [List.take_length,h2]
 exact key m 0 (Nat.zero_le _) (by omega)
theorem ZkJ (L:Nat)(d:Zc)(h:ZA d)(hs:Sh L d):UD L (d,())=some ((VK d).map (·.2)):=by
 have a1:=h.Vars.1; have a2:=h.Resources.1; have a3:=h.Stores.1; have a4:=h.Belts.1; have a5:=h.Routines.1
 rw [Zln]
 refine ZpX d.Vars (·.Name) (fun s i=>(i,s,[],[],[],[],[],[],[],[],[],())) _ hs.vars (fun self s i x hx hi hsl=>by
  rw [Dq]; simp only [Ze,Zb,cond_true,cond_false,Zd,Zq,Za,Zi,condC,Zk,Zj,Zh,Zx,Z5,Zw,hi,hx,wrap_succ hi (by omega),apS (show s.length≤8000000000000 by omega)]) (fun self=>?_)
 rw [Dq]; simp only [Ze,Zb,cond_true,cond_false,Zd,Zq,Za,Zi,condC,Zk,Zj,Zh,Zx,Z5,Zw]
 refine ZpX d.Resources (·.Name) (fun s i=>(i,_,s,[],[],[],[],[],[],[],[],())) _ hs.res (fun self s i x hx hi hsl=>by
  rw [Dp]; simp only [Ze,Zb,cond_true,cond_false,Zd,Zq,Za,Zi,condC,Zk,Zj,Zh,Zx,Z5,Zw,hi,hx,wrap_succ hi (by omega),apS (show s.length≤8000000000000 by omega)]) (fun self=>?_)
 rw [Dp]; simp only [Ze,Zb,cond_true,cond_false,Zd,Zq,Za,Zi,condC,Zk,Zj,Zh,Zx,Z5,Zw]
 refine ZpX d.Stores (·.Name) (fun s i=>(i,_,_,s,[],[],[],[],[],[],[],())) _ hs.sto (fun self s i x hx hi hsl=>by
  rw [Dn]; simp only [Ze,Zb,cond_true,cond_false,Zd,Zq,Za,Zi,condC,Zk,Zj,Zh,Zx,Z5,Zw,hi,hx,wrap_succ hi (by omega),apS (show s.length≤8000000000000 by omega)]) (fun self=>?_)
 rw [Dn]; simp only [Ze,Zb,cond_true,cond_false,Zd,Zq,Za,Zi,condC,Zk,Zj,Zh,Zx,Z5,Zw]
 refine ZpX d.Belts (·.Name) (fun s i=>(i,_,_,_,s,[],[],[],[],[],[],())) _ hs.bel (fun self s i x hx hi hsl=>by
  rw [Dl]; simp only [Ze,Zb,cond_true,cond_false,Zd,Zq,Za,Zi,condC,Zk,Zj,Zh,Zx,Z5,Zw,hi,hx,wrap_succ hi (by omega),apS (show s.length≤8000000000000 by omega)]) (fun self=>?_)
 rw [Dl]; simp only [Ze,Zb,cond_true,cond_false,Zd,Zq,Za,Zi,condC,Zk,Zj,Zh,Zx,Z5,Zw]
 refine ZpX d.Routines (·.Name) (fun s i=>(i,_,_,_,_,_,_,_,_,_,s,())) _ hs.rou (fun self s i x hx hi hsl=>by
  rw [Dk]; simp only [Ze,Zb,cond_true,cond_false,Zd,Zq,Za,Zi,condC,Zk,Zj,Zh,Zx,Z5,Zw,hi,hx,wrap_succ hi (by omega),apS (show s.length≤8000000000000 by omega)]) (fun self=>?_)
 rw [Dk]; simp only [Ze,Zb,cond_true,cond_false,Zd,Zq,Za,Zi,condC,Zk,Zj,Zh,Zx,Z5,Zw]
 rfl
end Go.Proofs.YtleomfgijkapfaaGreatDoor
end
section
namespace Go.Proofs.YtleomfgijkapfaaGreatDoor
open Go Go.Proofs.YtleomfgijkapfaaGreatDoor.Abs Go.Proofs.YtleomfgijkapfaaGreatDoor.Tl
set_option maxRecDepth 100000
theorem ZiD (L:Nat)(d:Zc)(h:ZA d)(hs:Sh L d):∀ p ∈ VK d,Len p.2∧p.2.length < L:=by
 have a1:=h.Vars.1; have a2:=h.Resources.1; have a3:=h.Stores.1; have a4:=h.Belts.1; have a5:=h.Routines.1
 have b1:=h.Queues.1; have b2:=h.Streams.1; have b3:=h.Tallies.1; have b4:=h.Levels.1; have b5:=h.Counts.1
 obtain ⟨c1,c2,c3,c4,c5,c6,c7,c8,c9,c10,c11,c12,c13⟩:=hs
 intro p hp
 simp only [VK,List.mem_cons,List.not_mem_nil,or_false] at hp
 unfold Len
 rcases hp with rfl | rfl | rfl | rfl | rfl | rfl | rfl | rfl | rfl | rfl <;> simp only [List.length_map] <;> omega
theorem Zu3 (s:List UInt8)(l:List (List UInt8)):decide (Iw (fun k=>decide (k=s)) l 0 ≥ 0)=l.contains s:=by
 have:=Zdp (fun x:List UInt8=>x) s l
 rwa [List.map_id'] at this
theorem Zxz (L:Nat)(d:Zc)(h:ZA d)(hs:Sh L d)(hL:100≤L)(s:List UInt8):Xm L (d,s,())=some (Tz s (VK d)):=by
 rw [Zoo,ZkJ L d h hs,Zq]
 have lp:=ZeR (f := MN s L ((VK d).map (·.2))) ((VK d).map (·.2)) ((VK d).map (·.1)) (by simp) (fun l l'=>some (Tz s (l'.zip l))) (m := L) (show 10 < L by omega) (fun self i x y r r' hx hy hi mem e=>by
  have hi2:i < 10:=hi
  obtain ⟨p,hp,rfl⟩:=List.mem_map.1 mem
  have hk:=ZiD L d h hs p hp
  have hy':[[118,97,114],[114,101,115,111,117,114,99,101],[115,116,111,114,101],[98,101,108,116],[113,117,101,117,101],[115,116,114,101,97,109],[116,97,108,108,121],[108,101,118,101,108],[99,111,117,110,116],[114,111,117,116,105,110,101]][i]? = some y:=hy
  rw [MN]
  simp only [Ze,Zb,cond_true,cond_false,Zd,Zq,Za,Zi,condC,Zk,Zj,Zh,Zx,Z5,Zw,hi,hx,ZiP L p.2 s hk.1 hk.2,Zu3]
  rw [wrap_in (by omega) (by omega),e]
  simp only [hy',Zq,Zh,List.zip_cons_cons,Tz]; simp only [Y3,XE,if_true,if_false,Bool.false_eq_true,ne_eq,decide_not,gt_iff_lt,ge_iff_le]) (fun self=>by rw [MN]; simp only [Ze,Zb,cond_true,cond_false,Zd,Zq,Za,Zi,condC,Zk,Zj,Zh,Zx,Z5,Zw,List.zip_nil_right,Tz])
 rw [lp]
 congr 2
theorem CU (d:Zc)(h:(P6 ((XJ d).map stepD) []).1=0)(nm:List UInt8)(p:List UInt8×List (List UInt8))(hp:p ∈ VK d):decide (Tz nm (VK d)=p.1)=p.2.contains nm:=by
 have key:Tz nm (VK d)=p.1↔nm ∈ p.2:=by
  refine ZfL nm (VK d) ?_ ?_ ?_ p hp
  ·have:=(ZtQ _ _ h).1
   have h2:((XJ d).map Zb6).Pairwise (fun a b=>∀ x ∈ a,x ∉ b):=List.pairwise_map.2 this
   rw [← ZmA] at h2
   exact List.pairwise_map.1 h2
  ·simp only [VK,List.map_cons,List.map_nil]; decide
  ·simp only [VK,List.map_cons,List.map_nil]; decide
 rw [← List.contains_iff_mem] at key
 by_cases c:Tz nm (VK d)=p.1
 ·rw [key.1 c]; simp [c]
 ·have:p.2.contains nm=false:=by
   rw [← Bool.not_eq_true]; exact fun e=>c (key.2 e)
  rw [this]; simp [c]
theorem Zth (t:JC)(b:Bool):WE (WE (YG true 1) (YG b 5)) (YG (btw t.Coef (-1000) 1000 && !decide (t.Coef=0)) 2)=Zfm t b:=by
 unfold Zfm
 rcases Bool.eq_false_or_eq_true (btw t.Coef (-1000) 1000) with h3 | h3 <;> by_cases c:t.Coef=0 <;> cases b <;> simp [WE,YG,c,h3]
theorem ZvA (L:Nat)(d:Zc)(h:ZA d)(hs:Sh L d)(hL:100≤L)(hd:(P6 ((XJ d).map stepD) []).1=0)(t:JC):PH L (d,t,())=some (Zfl d t):=by
 have hR:=CU d hd t.Name ([114,111,117,116,105,110,101],d.Routines.map (·.Name)) (by simp [VK])
 have hS:=CU d hd t.Name ([115,116,111,114,101],d.Stores.map (·.Name)) (by simp [VK])
 have hQ:=CU d hd t.Name ([99,111,117,110,116],d.Counts) (by simp [VK])
 simp only at hR hS hQ
 have z:∀ x,WE (WE (YG false 1) x)=fun _=>1:=fun x=>by funext y; simp [WE,YG]
 simp only [Ze,Zb,cond_true,cond_false,Zd,Zq,Za,Zi,condC,Zk,Zj,Zh,Zx,Z5,Zw,Zoq,Vz,U3,Zxz L d h hs hL,KA,hR,hS,hQ,reduceCtorEq,decide_false,decide_true,Bool.not_false,Bool.not_true,Zth,z,Zfl]
 simp only [Y3,XE,if_true,if_false,Bool.false_eq_true,ne_eq,decide_not,gt_iff_lt,ge_iff_le]
theorem Zmz (a b c:Int):WE (WE a b) c=WE a (WE b c):=by
 unfold WE
 by_cases h:a=0 <;> by_cases h2:b=0 <;> simp [h,h2]
theorem ZrS {α:Type}(f:α→Int)(x:α)(r:List α):WE (f x) (Y2 f r)=Y2 f (x :: r):=by
 unfold WE; rw [Y2]
theorem ZrT (a:Int):WE a 0=a:=by unfold WE; by_cases h:a=0 <;> simp [h]
theorem Zzl (L:Nat)(d:Zc)(h:ZA d)(hs:Sh L d)(hL:100≤L)(hd:(P6 ((XJ d).map stepD) []).1=0)(l:RV)(ok:Zka l)(hl:l.Terms.length < L)(hn:l.Name.length < L)(seen:Seen)(h1:Len seen)(h2:seen.length < L):FT L (d,l,seen,())=some (Y9 l.Name (Zrs d l) seen).1:=by
 have ht:=ok.t
 have lp:=fun n=>Zb5 (f := Pq d l L) l.Terms (fun r n=>some (WE (WE n (Y2 (Zfl d) r)) (YG (inB l.Total) 2))) hl n (fun self n i x r hx hi mem e=>by
  rw [Pq]; simp only [Ze,Zb,cond_true,cond_false,Zd,Zq,Za,Zi,condC,Zk,Zj,Zh,Zx,Z5,Zw,hi,hx,ZvA L d h hs hL hd x,U3,wrap_succ hi (by omega),e,Zmz,← ZrS]) (fun self n=>by
  rw [Pq]; simp only [Ze,Zb,cond_true,cond_false,Zd,Zq,Za,Zi,condC,Zk,Zj,Zh,Zx,Z5,Zw,Zv7,Vz,U3,Y2,ZrT])
 simp only [Ze,Zb,cond_true,cond_false,Zd,Zq,Za,Zi,condC,Zk,Zj,Zh,Zx,Z5,Zw,ZqK,Zca L hL l.Name seen (by have:=ok.Name; unfold Len; omega) hn h1 h2,Vz,U3,lp]
 rw [Ze7]
 simp only [Zmz]
 congr 2
 unfold Zrs Sv
 by_cases a:l.Terms=[] <;> by_cases b:8 < (l.Terms.length:Int) <;> by_cases c:Y2 (Zfl d) l.Terms=0 <;> rcases Bool.eq_false_or_eq_true (inB l.Total) with g | g <;> simp [a,b,c,g,WE,YG]
theorem Zm5 {α:Type}(nm:α→List UInt8)(s:List UInt8):∀ (l:List α) (i:Int),Iw (fun k=>decide (k=s)) (l.map nm) i=Iw (fun x=>decide (nm x=s)) l i
 | [],_=>rfl
 | x :: l,i=>by simp only [List.map_cons,Iw,Zm5 nm s l]
theorem ZnZ (L:Nat)(d:Zc)(h:ZA d)(hs:Sh L d)(s:List UInt8):Ht L (d,s,())=some (Iw (fun r:ZJ=>decide (r.Name=s)) d.Routines 0):=by
 have hk:=ZiD L d h hs ([114,111,117,116,105,110,101],d.Routines.map (·.Name)) (by simp [VK])
 rw [Zhp,ZkJ L d h hs,Zq,show Z8 ((VK d).map (·.2)) 9=some (d.Routines.map (·.Name)) from Zd _ 9,Zq,ZiP L _ s hk.1 hk.2,Zq,Zm5]
theorem Zox (L:Nat)(s:Qm)(r:ZJ)(hp:r.Params.length≤4611686018427387)(he:r.Params.length=s.Args.length)(hL:r.Params.length < L):Zo (Oy s L r) L (0,())=some (RY (Zbe s) r.Params s.Args):=by
 refine ZeR r.Params s.Args he (fun p a=>some (RY (Zbe s) p a)) hL (fun self i x y q q' hx hy hi _ e=>?_) (fun self=>?_)
 ·rw [Oy]; simp only [Ze,Zb,cond_true,cond_false,Zd,Zq,Za,Zi,condC,Zk,Zj,Zh,Zx,Z5,Zw,hi,hx,hy,ZtJ,wrap_succ hi (by omega),e,RY]; simp only [Y3,XE,if_true,if_false,Bool.false_eq_true,ne_eq,decide_not,gt_iff_lt,ge_iff_le]
 ·rw [Oy,← Zre]; simp only [Ze,Zb,cond_true,cond_false,Zd,Zq,Za,Zi,condC,Zk,Zj,Zh,Zx,Z5,Zw,KA,Vz,RY,ZlJ]; simp only [Y3,XE,if_true,if_false,Bool.false_eq_true,ne_eq,decide_not,gt_iff_lt,ge_iff_le]
theorem ZsO (L:Nat)(d:Zc)(h:ZA d)(hs:Sh L d)(s:Qm)(hs':Be s)(hsL:s.Args.length < L):L8 L (d,s,())=some (Jw d s):=by
 rw [Zls,ZnZ L d h hs s.Routine,Zq,Jw]
 rcases ZbY (fun r:ZJ=>decide (r.Name=s.Routine)) d.Routines 0 with ⟨a,b⟩ | ⟨k,r,a,b,c⟩
 ·rw [a,b]; rfl
 ·have ok:=h.Routines.2 r (List.mem_of_getElem? c)
  rw [a,b,Int.zero_add,show decide ((k:Int) < 0)=false by simp only [decide_eq_false_iff_not]; omega,cond_false,Zd,c,Zq]
  simp only
  rcases Zwn s.Args r.Params with ⟨e1,e2⟩ | ⟨e1,e2⟩
  ·rw [Zox L s r ok.p.1 e1.symm (by omega),Zw,e2]; simp only [Y3,XE,if_true,if_false,Bool.false_eq_true,ne_eq,decide_not,gt_iff_lt,ge_iff_le,e2,Bool.not_true,cond_false]
  ·rw [Zw,e2]; simp only [Y3,XE,if_true,if_false,Bool.false_eq_true,ne_eq,decide_not,gt_iff_lt,ge_iff_le,e2,Bool.not_false,cond_true]
theorem ZuK {α τ:Type}{f:(τ→Option Int)→τ→Option Int}(pk:Seen→Int→τ)(l:List α)(step:α→Seen→Int×Seen)(c:Nat)(e:Seen→Option Int){m:Nat}(hm:l.length < m)
  (hst:∀ x s,(step x s).2.length≤s.length + 1)
  (h1:∀ self s (i:Nat) x,l[i]? = some x→i < l.length→x ∈ l→s.length≤c + i→f self (pk s i)=bif !decide ((step x s).1=0) then some (step x s).1 else self (pk (step x s).2 ((i:Int) + 1)))
  (h2:∀ self s,s.length≤c + l.length→f self (pk s (l.length:Nat))=e s) (s:Seen) (hs:s.length≤c):Zo f m (pk s 0)=if decide ((We step l s).1≠0)=true then some (We step l s).1 else e (We step l s).2:=by
 have key:∀ (m i:Nat) (s:Seen),i≤l.length→l.length - i < m→s.length≤c + i→Zo f m (pk s i)=if decide ((We step (l.drop i) s).1≠0)=true then some (We step (l.drop i) s).1 else e (We step (l.drop i) s).2:=by
  intro m
  induction m with
  | zero=>intro i s _ h; exact absurd h (Nat.not_lt_zero _)
  | succ m ih =>
   intro i s hi hm hsl
   show f (Zo f m) _=_
   rcases Nat.lt_or_ge i l.length with hlt | hge
   ·have hx:=List.getElem?_eq_getElem hlt
    have:=ih (i + 1) (step l[i] s).2 hlt (by omega) (by have:=hst l[i] s; omega)
    rw [h1 _ s i _ hx hlt (List.getElem_mem hlt) hsl,List.drop_eq_getElem_cons hlt,We,show ((i:Int) + 1)=((i + 1:Nat):Int) from rfl,this]
    by_cases z:(step l[i] s).1=0 <;> simp [z]
   ·have:i=l.length:=by omega
    subst this
    rw [List.drop_length,h2 _ s hsl]; rfl
 exact key m 0 s (Nat.zero_le _) (by omega) (by omega)
theorem Ze8 (s:List UInt8)(r:Int)(seen:Seen):(Y9 s r seen).2.length≤seen.length + 1:=by
 have h:(YM s seen).2.length≤seen.length + 1:=by
  unfold YM
  split
  ·exact Nat.le_succ _
  ·split
   ·exact Nat.le_succ _
   ·simp
 unfold Y9
 split <;> exact h
end Go.Proofs.YtleomfgijkapfaaGreatDoor
end
section
namespace Go.Proofs.YtleomfgijkapfaaGreatDoor
open Go Go.Proofs.YtleomfgijkapfaaGreatDoor.Abs Go.Proofs.YtleomfgijkapfaaGreatDoor.Tl
set_option maxRecDepth 100000
theorem Ze9 {s:List UInt8}{r:Int}{seen:Seen}(h:(Y9 s r seen).1=0):(Y9 s r seen).2=seen ++ [s]:=(Zro h).1
theorem Zob (L:Nat)(h1:100≤L)(r:ZJ)(h:Ic r)(hL:SizeOf.sizeOf r≤L):Hu L (r,())=some (XN r):=by
 have hz:=ZjO r
 have hp:=h.p
 have hw:IntKind.i64.wrap ((r.Params.length:Int) + (r.Locals.length:Int))=(r.Params.length:Int) + (r.Locals.length:Int):=wrap_in (by omega) (by omega)
 rw [Zhq,hw,XN]
 by_cases hc:6 < (r.Params.length:Int)∨16 < (r.Params.length:Int) + (r.Locals.length:Int)
 ·rw [if_pos (by simpa using hc),show (decide ((r.Params.length:Int) > 6) || decide ((r.Params.length:Int) + (r.Locals.length:Int) > 16))=true by simpa using hc]; rfl
 ·have hf:(decide ((r.Params.length:Int) > 6) || decide ((r.Params.length:Int) + (r.Locals.length:Int) > 16))=false:=by
   simp only [Bool.or_eq_false_iff,decide_eq_false_iff_not]; omega
  have hf':¬ ((decide (6 < (r.Params.length:Int)) || decide (16 < (r.Params.length:Int) + (r.Locals.length:Int)))=true):=by simpa using hc
  have hlen:(r.Params ++ r.Locals).length≤16:=by rw [List.length_append]; omega
  have p1:apT 24 [] r.Params=some r.Params:=by unfold apT; rw [if_pos (by simp only [List.length_nil]; omega)]; rfl
  have p2:apT 24 r.Params r.Locals=some (r.Params ++ r.Locals):=by unfold apT; rw [if_pos (by omega)]
  rw [if_neg hf',hf,cond_false,p1,Zq,p2,Zq]
  rw [ZuK (f := UN r L (r.Params ++ r.Locals)) (fun s i=>(s,i,())) (r.Params ++ r.Locals) (fun f:Y1=>Y9 f.Name (Zdi f)) 0 (fun _=>some (ZaI r.Body)) (by omega) (fun x s=>Ze8 _ _ _) (fun self s i x hx hi mem hsl=>by
   have ok:Zcm x∧x.Name.length < L:=by
    rcases List.mem_append.1 mem with m | m
    ·exact ⟨h.Params.2 x m,by have:=Zyp m; omega⟩
    ·exact ⟨h.Locals.2 x m,by have:=Zyp m; omega⟩
   have hn:=Zca L h1 x.Name s (by have:=ok.1.Name; unfold Len; omega) ok.2 (by unfold Len; omega) (by omega)
   rw [UN]
   simp only [Ze,Zb,cond_true,cond_false,Zd,Zq,Za,Zi,condC,Zk,Zj,Zh,Zx,Z5,Zw,hi,hx,hn,Zq1,Vz,U3,ZwC,apS (show s.length≤8000000000000 by omega),wrap_succ hi (by omega)]
   rw [← Ze7]
   by_cases c:(Y9 x.Name (Zdi x) s).1=0
   ·rw [Ze9 c]
   ·simp [c]) (fun self s hsl=>by
   rw [UN]; simp only [Ze,Zb,cond_true,cond_false,Zd,Zq,Za,Zi,condC,Zk,Zj,Zh,Zx,Z5,Zw,Zq7 L h1 r.Body h.p.2.2 (by omega)]) [] (Nat.le_refl _)]
  rw [XE]; rfl
theorem ZlA (L:Nat)(d:Zn)(h:YL d)(hL:d.Shift.length < L)(hc:IntKind.i64.wrap (d.Cycle - 1)=d.Cycle - 1):Zo (Vb d L) L (0,())=some (Zry d.Cycle none d.Shift):=by
 have hl:=h.s
 refine Zdu (f := Vb d L) d.Shift.length (fun i=>(i,())) (fun i=>some (Zry d.Cycle (Zhd d.Shift i) (d.Shift.drop i))) (fun self i hi e=>?_) (fun self=>?_) L 0 (Nat.zero_le _) (by omega)
 ·have hx:=List.getElem?_eq_getElem hi
  rw [List.drop_eq_getElem_cons hi,Zry]
  rw [show Zhd d.Shift (i + 1)=some (d.Shift[i].At_) by rw [Zhd,hx]; rfl] at e
  rw [Vb]
  simp only [Ze,Zb,cond_true,cond_false,Zd,Zq,Za,Zi,condC,Zk,Zj,Zh,Zx,Z5,Zw,hi,hx,KA,wrap_succ hi (by omega),e,hc,ZqG _ _ _ hi hl]; simp only [Y3,XE,if_true,if_false,Bool.false_eq_true,ne_eq,decide_not,gt_iff_lt,ge_iff_le]
 ·rw [Vb]; simp only [Ze,Zb,cond_true,cond_false,Zd,Zq,Za,Zi,condC,Zk,Zj,Zh,Zx,Z5,Zw,List.drop_length,Zry]
theorem ZkM (L:Nat)(d:Zn)(h:YL d)(hL:d.Shift.length < L):UU L (d,())=some (Zrx d):=by
 simp only [Ze,Zb,cond_true,cond_false,Zd,Zq,Za,Zi,condC,Zk,Zj,Zh,Zx,Z5,Zw,Zfa,KA,Vz,Zrx]
 by_cases hc:btw d.Cycle 1 1000000000=true
 ·have:=ZlA L d h hL (by simp only [btw,Bool.and_eq_true,decide_eq_true_eq] at hc; exact wrap_in (by omega) (by omega))
  rw [this]; simp only [Y3,XE,if_true,if_false,Bool.false_eq_true,ne_eq,decide_not,gt_iff_lt,ge_iff_le,YG]
  by_cases a:d.Cycle=0 <;> simp [a]
 ·rw [Bool.not_eq_true] at hc
  simp only [Y3,XE,if_true,if_false,Bool.false_eq_true,ne_eq,decide_not,gt_iff_lt,ge_iff_le,hc,Bool.not_false,YG]
  by_cases a:d.Cycle=0 <;> simp [a]
theorem Zoa (L:Nat)(h1:100≤L)(d:Zc)(h:ZA d)(hs:Sh L d)(x:Zn)(ok:YL x)(hx:SizeOf.sizeOf x≤L):UV L (d,x,())=some (Zoy d x):=by
 have hx2:SizeOf.sizeOf x.Fault < SizeOf.sizeOf x∧SizeOf.sizeOf x.Shift < SizeOf.sizeOf x∧SizeOf.sizeOf x.Fault.Up < SizeOf.sizeOf x.Fault∧SizeOf.sizeOf x.Fault.Down < SizeOf.sizeOf x.Fault:=by
  obtain ⟨a,b,c,d,⟨e,f,g⟩⟩:=x; simp; omega
 have hsh:=Zu x.Shift
 have hst:=h.st
 rw [← ZvO]
 simp only [Ze,Zb,cond_true,cond_false,Zd,Zq,Za,Zi,condC,Zk,Zj,Zh,Zx,Z5,Zw,Zfb,KA,Vz,U3,ZkM L x ok (by omega),AO L x.Fault.Up _ ok.Fault.Up (by omega),AO L x.Fault.Down _ ok.Fault.Down (by omega),H7,ZiP L d.Streams x.Fault.Stream (by unfold Len; omega) hs.str,Pn L x.Fault.Up ok.Fault.Up (by omega),Pn L x.Fault.Down ok.Fault.Down (by omega),Zm7,Zzq]; simp only [Y3,XE,if_true,if_false,Bool.false_eq_true,ne_eq,decide_not,gt_iff_lt,ge_iff_le]
theorem Zx0 (L:Nat)(d:Zc)(j:Nat)(x:WO)(hx:d.Vars[j]? = some x):Wl L (d,0,(j:Int),())=some (RU x):=by
 rw [XG]; simp only [Ze,Zb,cond_true,cond_false,Zd,Zq,Za,Zi,condC,Zk,Zj,Zh,Zx,Z5,Zw,hx,Int.reduceEq,decide_true,decide_false,Zq1,Vz,ZtJ,U3,valueR]
theorem Zx1 (L:Nat)(h1:100≤L)(d:Zc)(h:ZA d)(hL:SizeOf.sizeOf d≤L)(j:Nat)(x:Zn)(hx:d.Resources[j]? = some x):Wl L (d,1,(j:Int),())=some (Zoy d x):=by
 have hz:=Vh d
 have mem:=List.mem_of_getElem? hx
 have hm:=List.sizeOf_lt_of_mem mem
 rw [XG]; simp only [Ze,Zb,cond_true,cond_false,Zd,Zq,Za,Zi,condC,Zk,Zj,Zh,Zx,Z5,Zw,hx,Int.reduceEq,decide_true,decide_false,Zoa L h1 d h (Sh.of hL) x (h.Resources.2 x mem) (by omega)]
theorem Zx2 (L:Nat)(d:Zc)(j:Nat)(x:ZO)(hx:d.Stores[j]? = some x):Wl L (d,2,(j:Int),())=some (Rz x):=by
 rw [XG]; simp only [Ze,Zb,cond_true,cond_false,Zd,Zq,Za,Zi,condC,Zk,Zj,Zh,Zx,Z5,Zw,hx,Int.reduceEq,decide_true,decide_false,KA,Vz,U3,ge_iff_le,ZxS]
theorem Zx3 (L:Nat)(d:Zc)(j:Nat)(x:Yo)(hx:d.Belts[j]? = some x):Wl L (d,3,(j:Int),())=some (Zbx x):=by
 rw [XG]; simp only [Ze,Zb,cond_true,cond_false,Zd,Zq,Za,Zi,condC,Zk,Zj,Zh,Zx,Z5,Zw,hx,Int.reduceEq,decide_true,decide_false,KA,Vz,Zyy]
theorem Zx4 (L:Nat)(h1:100≤L)(d:Zc)(h:ZA d)(hL:SizeOf.sizeOf d≤L)(j:Nat)(x:ZJ)(hx:d.Routines[j]? = some x):Wl L (d,9,(j:Int),())=some (XN x):=by
 have hz:=Vh d
 have mem:=List.mem_of_getElem? hx
 have hm:=List.sizeOf_lt_of_mem mem
 have e:=Zob L h1 x (h.Routines.2 x mem) (by omega)
 generalize XN x=z at e ⊢
 rw [XG,show ((9:Int) == 0)=false from rfl,show ((9:Int) == 1)=false from rfl,show ((9:Int) == 2)=false from rfl,show ((9:Int) == 3)=false from rfl,show ((9:Int) == 9)=true from rfl,cond_false,cond_false,cond_false,cond_false,cond_true,Zd,hx,Zq,e,Zq]
theorem ZiR (L:Nat)(d:Zc)(k j:Int)(h:k=4∨k=5∨k=6∨k=7∨k=8):Wl L (d,k,j,())=some 0:=by
 rw [XG]; rcases h with rfl | rfl | rfl | rfl | rfl <;> simp only [Ze,Zb,cond_true,cond_false,Zd,Zq,Za,Zi,condC,Zk,Zj,Zh,Zx,Z5,Zw,Int.reduceEq,decide_true,decide_false]
end Go.Proofs.YtleomfgijkapfaaGreatDoor
end
section
namespace Go.Proofs.YtleomfgijkapfaaGreatDoor
open Go Go.Proofs.YtleomfgijkapfaaGreatDoor.Abs Go.Proofs.YtleomfgijkapfaaGreatDoor.Tl
set_option maxRecDepth 100000
theorem ZnX (L:Nat)(h1:100≤L)(d:Zc)(h:ZA d)(hL:SizeOf.sizeOf d≤L)(k:Nat)(p:Int×List (List UInt8×Int))(hp:(XJ d)[k]? = some p)(j:Nat)(q:List UInt8×Int)(hq:p.2[j]? = some q):Wl L (d,(k:Int),(j:Int),())=some q.2:=by
 rcases k with _ | _ | _ | _ | _ | _ | _ | _ | _ | _ | k
 ·obtain rfl:=Option.some.inj hp; obtain ⟨x,hx,rfl⟩:=OW hq; exact Zx0 L d j x hx
 ·obtain rfl:=Option.some.inj hp; obtain ⟨x,hx,rfl⟩:=OW hq; exact Zx1 L h1 d h hL j x hx
 ·obtain rfl:=Option.some.inj hp; obtain ⟨x,hx,rfl⟩:=OW hq; exact Zx2 L d j x hx
 ·obtain rfl:=Option.some.inj hp; obtain ⟨x,hx,rfl⟩:=OW hq; exact Zx3 L d j x hx
 ·obtain rfl:=Option.some.inj hp; obtain ⟨x,hx,rfl⟩:=OW hq; exact ZiR L d 4 j (by simp)
 ·obtain rfl:=Option.some.inj hp; obtain ⟨x,hx,rfl⟩:=OW hq; exact ZiR L d 5 j (by simp)
 ·obtain rfl:=Option.some.inj hp; obtain ⟨x,hx,rfl⟩:=OW hq; exact ZiR L d 6 j (by simp)
 ·obtain rfl:=Option.some.inj hp; obtain ⟨x,hx,rfl⟩:=OW hq; exact ZiR L d 7 j (by simp)
 ·obtain rfl:=Option.some.inj hp; obtain ⟨x,hx,rfl⟩:=OW hq; exact ZiR L d 8 j (by simp)
 ·obtain rfl:=Option.some.inj hp; obtain ⟨x,hx,rfl⟩:=OW hq; exact Zx4 L h1 d h hL j x hx
 ·exact absurd hp (by simp [XJ])
theorem ZnH (L:Nat)(d:Zc)(h:ZA d)(hL:SizeOf.sizeOf d≤L):∀ p ∈ XJ d,∀ q ∈ p.2,Len q.1∧q.1.length < L:=by
 have hz:=Vh d
 intro p hp q hq
 simp only [XJ,List.mem_cons,List.not_mem_nil,or_false] at hp
 unfold Len
 rcases hp with rfl | rfl | rfl | rfl | rfl | rfl | rfl | rfl | rfl | rfl <;> obtain ⟨x,mem,rfl⟩:=List.mem_map.1 hq
 ·have:=ZoK (fun v:WO=>v.Name) (fun x=>by cases x; simp; omega) mem; have:=(h.Vars.2 x mem).Name; simp only; omega
 ·have:=ZoK (fun v:Zn=>v.Name) (fun x=>by cases x; simp; omega) mem; have:=(h.Resources.2 x mem).Name; simp only; omega
 ·have:=ZoK (fun v:ZO=>v.Name) (fun x=>by cases x; simp; omega) mem; have:=(h.Stores.2 x mem).Name; simp only; omega
 ·have:=ZoK (fun v:Yo=>v.Name) (fun x=>by cases x; simp; omega) mem; have:=(h.Belts.2 x mem).Name; simp only; omega
 ·have:=List.sizeOf_lt_of_mem mem; have:=Zu x; have:=h.Queues.2 x mem; simp only; omega
 ·have:=List.sizeOf_lt_of_mem mem; have:=Zu x; have:=h.Streams.2 x mem; simp only; omega
 ·have:=List.sizeOf_lt_of_mem mem; have:=Zu x; have:=h.Tallies.2 x mem; simp only; omega
 ·have:=List.sizeOf_lt_of_mem mem; have:=Zu x; have:=h.Levels.2 x mem; simp only; omega
 ·have:=List.sizeOf_lt_of_mem mem; have:=Zu x; have:=h.Counts.2 x mem; simp only; omega
 ·have:=ZoK (fun v:ZJ=>v.Name) (fun x=>by cases x; simp; omega) mem; have:=(h.Routines.2 x mem).Name; simp only; omega
theorem inner (L:Nat)(h1:1000≤L)(d:Zc)(h:ZA d)(hL:SizeOf.sizeOf d≤L)(k:Nat)(p:Int×List (List UInt8×Int))(hp:(XJ d)[k]? = some p)(hl:p.2.length≤32)(hk:k < 10)(self:Int×List (List UInt8)×Int×PUnit→Option Int)(s0 s:Seen)(hs:s.length≤32 * k) :
  Zo (I4 d L ((XJ d).map Zb6) self (0,s0,(k:Int),())) L (0,s,0,())=if decide ((We II p.2 s).1≠0)=true then some (We II p.2 s).1 else self (0,(We II p.2 s).2,(k:Int) + 1,()):=by
 have hg:Z8 ((XJ d).map Zb6) (k:Int)=some (Zb6 p):=by rw [Zd,List.getElem?_map,hp]; rfl
 have hlen:(Zb6 p).length=p.2.length:=by simp [Zb6]
 refine ZuK (f := I4 d L ((XJ d).map Zb6) self (0,s0,(k:Int),())) (fun s i=>(0,s,i,())) p.2 II (32 * k) (fun s=>self (0,s,(k:Int) + 1,())) (by omega) (fun x s=>Ze8 _ _ _) (fun self1 s i x hx hi mem hsl=>?_) (fun self1 s hsl=>?_) s hs
 ·have hq:(Zb6 p)[i]? = some x.1:=by unfold Zb6; rw [List.getElem?_map,hx]; rfl
  have hi':i < (Zb6 p).length:=by omega
  have hnl:=ZnH L d h hL p (List.mem_of_getElem? hp) x mem
  have hn:=Zca L (by omega) x.1 s hnl.1 hnl.2 (by unfold Len; omega) (by omega)
  have hd:=ZnX L (by omega) d h hL k p hp i x hx
  rw [I4]
  simp only [hg,Zq]
  simp only [Ze,Zb,cond_true,cond_false,Zd,Zq,Za,Zi,condC,Zk,Zj,Zh,Zx,Z5,Zw,hi',hq,hn,hd,U3,apS (show s.length≤8000000000000 by omega),wrap_in (show -9223372036854775808≤(i:Int) + 1 by omega) (by omega)]
  rw [← Ze7]
  show _=bif !decide ((Y9 x.1 x.2 s).1=0) then some (Y9 x.1 x.2 s).1 else self1 (0,(Y9 x.1 x.2 s).2,(i:Int) + 1,())
  by_cases c:(Y9 x.1 x.2 s).1=0
  ·rw [Ze9 c]
  ·simp [c]
 ·rw [I4,← hlen]
  simp only [hg,Zq]
  simp only [Ze,Zb,cond_true,cond_false,Zd,Zq,Za,Zi,condC,Zk,Zj,Zh,Zx,Z5,Zw,wrap_in (show -9223372036854775808≤(k:Int) + 1 by omega) (by omega)]
theorem outer (L:Nat)(h1:1000≤L)(d:Zc)(h:ZA d)(hL:SizeOf.sizeOf d≤L)(E:Option Int)(hE:(bif decide ((d.Starts.length:Int) > 32) then some (6:Int) else Zo (I5 d L) L (0,0,()))=E):∀ (m k:Nat) (s:Seen),k≤10→10 - k < m→s.length≤32 * k →
  Zo (U8 d L ((XJ d).map Zb6)) m (0,s,(k:Int),())=if decide ((P6 (((XJ d).drop k).map stepD) s).1≠0)=true then some (P6 (((XJ d).drop k).map stepD) s).1 else E
 | 0,_,_,_,h,_=>absurd h (Nat.not_lt_zero _)
 | m + 1,k,s,hk,hm,hs=>by
  show U8 d L ((XJ d).map Zb6) (Zo (U8 d L ((XJ d).map Zb6)) m) (0,s,(k:Int),())=_
  have hlen:(XJ d).length=10:=rfl
  have hlm:((XJ d).map Zb6).length=10:=by rw [List.length_map,hlen]
  rcases Nat.lt_or_ge k 10 with hlt | hge
  ·have hp:=List.getElem?_eq_getElem (show k < (XJ d).length by omega)
   generalize (XJ d)[k]=p at hp
   have hg:Z8 ((XJ d).map Zb6) (k:Int)=some (Zb6 p):=by rw [Zd,List.getElem?_map,hp]; rfl
   have hnl:(Zb6 p).length=p.2.length:=by simp [Zb6]
   have hmost:=ZnG d k p hp
   have hdrop:(XJ d).drop k=p :: (XJ d).drop (k + 1):=by
    rw [List.drop_eq_getElem_cons (show k < (XJ d).length by omega)]
    congr 1
    exact Option.some.inj ((List.getElem?_eq_getElem (show k < (XJ d).length by omega)).symm.trans hp)
   have hguard:(decide ((p.2.length:Int) > 32) || (decide ((k:Int)=9) && decide ((p.2.length:Int) > 16)))=decide (p.1 < (p.2.length:Int)):=by
    rw [hmost]
    by_cases c:k=9
    ·subst c; simp; omega
    ·rw [if_neg c,show decide ((k:Int)=9)=false by simp only [decide_eq_false_iff_not]; omega]; simp
   rw [U8,hdrop,List.map_cons,P6]
   simp only [hlm,show decide ((k:Int) < ((10:Nat):Int))=true by simp only [decide_eq_true_eq]; omega,cond_true,hg,Zq,hnl]
   simp only [Ze,Zb,cond_true,cond_false,Zd,Zq,Za,Zi,condC,Zk,Zj,Zh,Zx,Z5,Zw,hguard]
   by_cases c:p.1 < (p.2.length:Int)
   ·have e:stepD p s=(6,s):=by unfold stepD Xz; rw [if_pos (by simpa using c)]
    simp [c,e]
   ·have e:stepD p s=We II p.2 s:=by unfold stepD Xz; rw [if_neg (by simpa using c)]
    have hpl:p.2.length≤32:=by rw [hmost] at c; split at c <;> omega
    rw [show decide (p.1 < (p.2.length:Int))=false by simpa using c,cond_false,inner L h1 d h hL k p hp hpl hlt,e]
    have hsl:(We II p.2 s).2.length≤32 * (k + 1):=by have:=Zni p.2 s; omega
    have ih:=outer L h1 d h hL E hE m (k + 1) (We II p.2 s).2 hlt (by omega) hsl
    by_cases z:(We II p.2 s).1=0
    ·simp only [z,ne_eq,not_true_eq_false,decide_false,Bool.false_eq_true,if_false]
     exact ih
    ·simp [z]
    exact hs
  ·have:k=10:=by omega
   subst this
   rw [U8,hlm,show (XJ d).drop 10=[] from rfl]
   simp only [Ze,Zb,cond_true,cond_false,Zd,Zq,Za,Zi,condC,Zk,Zj,Zh,Zx,Z5,Zw,show decide (((10:Nat):Int) < ((10:Nat):Int))=false from rfl,hE]
   simp [P6]
theorem ZpQ (L:Nat)(h1:1000≤L)(d:Zc)(h:ZA d)(hL:SizeOf.sizeOf d≤L)(hd:(P6 ((XJ d).map stepD) []).1=0)(hl:d.Laws.length≤32):Zo (U7 d L) L ([],0,())=some (We (fun l:RV=>Y9 l.Name (Zrs d l)) d.Laws []).1:=by
 have hs:=Sh.of hL
 have hz:=Vh d
 rw [ZuK (f := U7 d L) (fun s i=>(s,i,())) d.Laws (fun l:RV=>Y9 l.Name (Zrs d l)) 0 (fun _=>some 0) hs.law (fun x s=>Ze8 _ _ _) (fun self s i x hx hi mem hsl=>by
  have hm:=Zz9 mem
  have e:=Zzl L d h hs (by omega) hd x (h.Laws.2 x mem) (by omega) (by omega) s (by unfold Len; omega) (by omega)
  rw [U7]
  simp only [Ze,Zb,cond_true,cond_false,Zd,Zq,Za,Zi,condC,Zk,Zj,Zh,Zx,Z5,Zw,hi,hx,e,apS (show s.length≤8000000000000 by omega),wrap_succ hi (by omega)]
  by_cases c:(Y9 x.Name (Zrs d x) s).1=0
  ·rw [Ze9 c]
  ·simp [c]) (fun self s hsl=>by rw [U7]; simp only [Ze,Zb,cond_true,cond_false,Zd,Zq,Za,Zi,condC,Zk,Zj,Zh,Zx,Z5,Zw]) [] (Nat.le_refl _)]
 by_cases c:(We (fun l:RV=>Y9 l.Name (Zrs d l)) d.Laws []).1=0 <;> simp [c]
theorem Zv9 (L:Nat)(h1:1000≤L)(d:Zc)(h:ZA d)(hL:SizeOf.sizeOf d≤L):PG L (d,())=some (ZhD d):=by
 have hs:=Sh.of hL
 have hz:=Vh d
 rw [Zop,ZkJ L d h hs,Zq,ZmA,ZvT]
 have o:=outer L h1 d h hL _ rfl L 0 [] (Nat.zero_le _) (by omega) (Nat.le_refl _)
 rw [List.drop_zero] at o
 rw [show ((0:Int))=((0:Nat):Int) from rfl]
 refine o.trans ?_
 unfold ZxR
 by_cases hd:(P6 ((XJ d).map stepD) []).1=0
 ·rw [if_neg (by simp [hd]),if_neg (by simp [hd])]
  have st:Zo (I5 d L) L (0,0,())=some (if decide (Y2 (Jw d) d.Starts≠0)=true then Y2 (Jw d) d.Starts else PM d):=by
   have hl:=h.Starts.1
   have lw:(bif decide ((d.Laws.length:Int) > 32) then some (6:Int) else Zo (U7 d L) L ([],0,()))=some (PM d):=by
    unfold PM Xz
    by_cases c:32 < (d.Laws.length:Int)
    ·simp [c]
    ·rw [ZpQ L h1 d h hL hd (by omega)]; simp [c]
   refine Zb5 d.Starts (fun l _=>some (if decide (Y2 (Jw d) l≠0)=true then Y2 (Jw d) l else PM d)) hs.sta 0 (fun self n i x r hx hi mem e=>?_) (fun self n=>?_)
   ·have hm:=ZoK (fun v:Qm=>v.Routine) (fun x=>by cases x; simp; omega) mem
    have hx2:SizeOf.sizeOf x.Args < SizeOf.sizeOf x:=by cases x; simp; omega
    have ha:=Zu x.Args
    rw [I5]
    simp only [Ze,Zb,cond_true,cond_false,Zd,Zq,Za,Zi,condC,Zk,Zj,Zh,Zx,Z5,Zw,hi,hx,ZsO L d h hs x (h.Starts.2 x mem) (by omega),wrap_succ hi (by omega),e,Y2]
    by_cases c:Jw d x=0 <;> simp [c]
   ·rw [I5]; simp only [Ze,Zb,cond_true,cond_false,Zd,Zq,Za,Zi,condC,Zk,Zj,Zh,Zx,Z5,Zw,lw,Y2]; rfl
  rw [st]
  unfold Zci Sv
  by_cases c:32 < (d.Starts.length:Int) <;> simp [c]
 ·rw [if_pos (by simp [hd]),if_pos (by simp [hd])]
theorem Zq4 (L:Nat)(h1:1000≤L)(n:List UInt8)(hn:n.length≤140737488351232)(hnL:n.length < L)(d:Zc)(h:ZA d)(hL:SizeOf.sizeOf d≤L):Lu L (⟨n,[],[d],[]⟩,())=some (M1 n d):=by
 have hs:=Sh.of hL
 have e1:=U4 L n (by unfold Len; omega) hnL (by omega)
 have e2:=Zca L (by omega) d.Name [] (by have:=h.Name; unfold Len; omega) hs.nm (by simp [Len]) (by simp; omega)
 have e3:L6 L (⟨n,[],[d],[]⟩,())=some 0:=by
  rw [Zlq,ZeQ _ (show 2 < L by omega)]
  simp only [ZaV,Zwo,cond_false]
 have e5:Zo (Di ⟨n,[],[d],[]⟩ L) L ([],0,())=some (Y9 d.Name (ZhD d) []).1:=by
  rw [ZeQ _ (show 2 < L by omega)]
  simp only [Di,one1,w01,e2,e3,Zq,Za,cond_true,cond_false,Zv9 L h1 d h hL,U3,apS (show ([]:List (List UInt8)).length≤8000000000000 by simp),Zw]
  rw [← Ze7]
  by_cases c:(Y9 d.Name (ZhD d) []).1=0 <;> simp [c]
 have e4:Zo (Dj ⟨n,[],[d],[]⟩ L) L (0,[],0,())=some (Y9 d.Name (ZhD d) []).1:=by
  rw [ZeQ _ (show 2 < L by omega)]
  simp only [Dj,Zwo,one1,cond_false,Vz,U3,Zq,Za,Zw,YG,if_true,WE,e5]
  rfl
 rw [Zlm,e1,e4]
 simp only [Zq,Za,Vz,U3,Zwo,YG,if_true,WE,Zw,M1]
 by_cases a:J5 n=0 <;> simp [a]
end Go.Proofs.YtleomfgijkapfaaGreatDoor
end
section
namespace Go.Proofs.YtleomfgijkapfaaGreatDoor
open Go Go.Proofs.YtleomfgijkapfaaGreatDoor.Abs Go.Proofs.YtleomfgijkapfaaGreatDoor.Tl
set_option maxRecDepth 100000
mutual
theorem Zha (L:Nat):∀ (m:Nat) (a b:Zt),Yk a→2 * SizeOf.sizeOf a≤m→m≤L→LJ L m (a,b,())=some (Ba a b)
 | 0,e,_,h,hs,_=>absurd hs (by have:=NH e; omega)
 | m + 1,e,b,h,hs,hm=>by
  have hz:=Zrh e
  have ih:=ZkP L m e.Kids b.Kids h.k (fun x hx=>h.Kids.2 x hx) (by omega) (by omega)
  simp only [Ze,Zb,cond_true,cond_false,Zd,Zq,Za,Zi,condC,Zk,Zj,Zh,Zx,Z5,Zw,Zoh,ih,Zch,Zi9]; simp only [Y3,XE,if_true,if_false,Bool.false_eq_true,ne_eq,decide_not,gt_iff_lt,ge_iff_le]
  by_cases h1:e.Op=b.Op <;> by_cases h2:e.Name=b.Name <;> by_cases h3:e.N=b.N <;> simp [h1,h2,h3]
theorem ZkP (L:Nat):∀ (m:Nat) (a b:List Zt),a.length≤4611686018427387→(∀ x ∈ a,Yk x)→2 * SizeOf.sizeOf a + 1≤m→m≤L→Td L m (a,b,())=some (if (!decide ((a.length:Int)=(b.length:Int)))=true then false else all2 Ba a b)
 | 0,e,_,h,_,hs,_=>absurd hs (by omega)
 | m + 1,a,b,h,ho,hs,hm=>by
  have hk:=Zu a
  rcases Zwn a b with ⟨hl1,hl2⟩ | ⟨hl1,hl2⟩
  ·have lp:Zo (UM m a b L) L (0,())=some (all2 Ba a b):=by
    refine ZeR a b hl1 (fun l l'=>some (all2 Ba l l')) (by omega) (fun self i x y r r' hx hy hi mem e'=>?_) (fun self=>?_)
    ·have ih:=Zha L m x y (ho x mem) (by have:=List.sizeOf_lt_of_mem mem; omega) (by omega)
     rw [UM]; simp only [Ze,Zb,cond_true,cond_false,Zd,Zq,Za,Zi,condC,Zk,Zj,Zh,Zx,Z5,Zw,hi,hx,hy,ih,wrap_succ hi (by omega),e',all2]; simp only [Y3,XE,if_true,if_false,Bool.false_eq_true,ne_eq,decide_not,gt_iff_lt,ge_iff_le]
    ·rw [UM]; simp only [Ze,Zb,cond_true,cond_false,Zd,Zq,Za,Zi,condC,Zk,Zj,Zh,Zx,Z5,Zw,all2]
   simp only [Ze,Zb,cond_true,cond_false,Zd,Zq,Za,Zi,condC,Zk,Zj,Zh,Zx,Z5,Zw,AZ,lp,hl2,Bool.not_true]; simp only [Y3,XE,if_true,if_false,Bool.false_eq_true,ne_eq,decide_not,gt_iff_lt,ge_iff_le]
  ·simp only [Ze,Zb,cond_true,cond_false,Zd,Zq,Za,Zi,condC,Zk,Zj,Zh,Zx,Z5,Zw,AZ,hl2,Bool.not_false]; simp only [Y3,XE,if_true,if_false,Bool.false_eq_true,ne_eq,decide_not,gt_iff_lt,ge_iff_le]
end
theorem Zq8 (L:Nat)(e:Zt)(h:Yk e)(hL:2 * SizeOf.sizeOf e≤L):Qv L (e,⟨0,[],0,[]⟩,())=some (FU e):=by
 rw [show Qv L (e,⟨0,[],0,[]⟩,())=_ from Zha L L e _ h hL (Nat.le_refl _),Zad]
mutual
def ZhP (hd:Zt→Bool):Zt→Bool
 | ⟨o,a,n,ks⟩=>hd ⟨o,a,n,ks⟩ && PK hd ks
def PK (hd:Zt→Bool):List Zt→Bool
 | []=>true
 | x :: r=>ZhP hd x && PK hd r
end
theorem ZoN (hd:Zt→Bool)(e:Zt):ZhP hd e=(hd e && PK hd e.Kids):=by cases e; rw [ZhP]
def hdA (d:Zc)(c:Y8)(e:Zt):Bool :=
 if decide (e.Op=25)=true then decide (0≤e.N) && decide (e.N < c.Slots) else if decide (e.Op=26)=true then decide (0≤e.N) && decide (e.N < (d.Vars.length:Int)) else if decide (e.Op=22)=true then decide (0≤e.N) && decide (e.N < (d.Resources.length:Int)) else if decide (e.Op=23)=true then decide (0≤e.N) && decide (e.N < (d.Stores.length:Int))
 else if decide (e.Op=24)=true then decide (e.N < IntKind.i64.wrap ((d.Resources.length:Int) + (d.Queues.length:Int))) else true
def hdB (d:Zc)(c:Y8)(e:Zt):Bool :=
 if (decide (e.Op=25) && decide (c.Slots≤e.N))=true then false else if (decide (e.Op=26) && decide ((d.Vars.length:Int)≤e.N))=true then false else if (decide (e.Op=22) && decide ((d.Resources.length:Int)≤e.N))=true then false else if (decide (e.Op=23) && decide ((d.Stores.length:Int)≤e.N))=true then false
 else if (decide (e.Op=24) && decide (IntKind.i64.wrap ((d.Resources.length:Int) + (d.Queues.length:Int))≤e.N))=true then false else true
theorem ZyA (d:Zc)(c:Y8)(e:Zt)(h:Zb7 true e=0):hdA d c e=hdB d c e:=by
 have key:(e.Op=25∨e.Op=26∨e.Op=22∨e.Op=23)→0≤e.N:=by
  intro ho
  rcases ho with ho | ho | ho | ho <;> simp [Zb7,ho,Zrt,Zqm,Zdt,ZiC,ZfQ] at h <;> grind
 unfold hdA hdB
 by_cases h1:e.Op=25
 ·have:=key (.inl h1); simp [h1,this]; (first | omega | (rw [← decide_not]; exact decide_eq_decide.2 (by omega)) | (split <;> simp_all <;> omega) | grind)
 by_cases h2:e.Op=26
 ·have:=key (.inr (.inl h2)); simp [h2,this]; (first | omega | (rw [← decide_not]; exact decide_eq_decide.2 (by omega)) | (split <;> simp_all <;> omega) | grind)
 by_cases h3:e.Op=22
 ·have:=key (.inr (.inr (.inl h3))); simp [h3,this]; (first | omega | (rw [← decide_not]; exact decide_eq_decide.2 (by omega)) | (split <;> simp_all <;> omega) | grind)
 by_cases h4:e.Op=23
 ·have:=key (.inr (.inr (.inr h4))); simp [h4,this]; (first | omega | (rw [← decide_not]; exact decide_eq_decide.2 (by omega)) | (split <;> simp_all <;> omega) | grind)
 by_cases h5:e.Op=24
 ·simp [h5]; (first | omega | (rw [← decide_not]; exact decide_eq_decide.2 (by omega)) | (split <;> simp_all <;> omega) | grind)
 simp [h1,h2,h3,h4,h5]
theorem Zm0 {α:Type}(f:α→Int):∀ l:List α,Y2 f l=0→∀ x ∈ l,f x=0
 | [],_,x,hx=>by cases hx
 | y :: l,h,x,hx=>by
  rw [Y2] at h
  by_cases c:f y=0
  ·simp [c] at h
   rcases List.mem_cons.1 hx with rfl | hx
   ·exact c
   ·exact Zm0 f l h x hx
  ·simp [c] at h
mutual
theorem Ztt (d:Zc) (c:Y8):∀ e:Zt,Uu true e=0→ZhP (hdA d c) e=ZhP (hdB d c) e
 | ⟨o,a,n,ks⟩,h=>by
  rw [Zdy] at h
  by_cases z:Zb7 true ⟨o,a,n,ks⟩=0
  ·simp [z] at h
   rw [ZhP,ZhP,ZyA d c _ z,ZoP d c ks (Zm0 _ ks h)]
  ·simp [z] at h
theorem ZoP (d:Zc) (c:Y8):∀ l:List Zt,(∀ x ∈ l,Uu true x=0)→PK (hdA d c) l=PK (hdB d c) l
 | [],_=>by rw [PK,PK]
 | x :: l,h=>by rw [PK,PK,Ztt d c x (h x (List.mem_cons_self ..)),ZoP d c l fun y hy=>h y (List.mem_cons_of_mem _ hy)]
end
theorem ZqD (L:Nat)(p:Zm)(si:Int)(sc:Z4)(hs:Z8 p.Sites si=some sc)(c:Y8):∀ (m:Nat) (e:Zt),Yk e→SizeOf.sizeOf e≤m→m≤L→LM L m (p,si,c,e,())=some (ZhP (hdB sc.Decl c) e)
 | 0,e,h,hsz,_=>absurd hsz (by have:=NH e; omega)
 | m + 1,e,h,hsz,hm=>by
  have hk:=Zu e.Kids; have hz:=Zrh e; have hl:=h.k
  have lp:Zo (MR m p si c e L) L (0,())=some (PK (hdB sc.Decl c) e.Kids):=by
   refine Zb4 e.Kids (fun l=>some (PK (hdB sc.Decl c) l)) (by omega) (fun self i x r hx hi mem e'=>?_) (fun self=>?_)
   ·have ih:=ZqD L p si sc hs c m x (h.Kids.2 x mem) (by have:=Aq mem; omega) (by omega)
    rw [MR]; simp only [Ze,Zb,cond_true,cond_false,Zd,Zq,Za,Zi,condC,Zk,Zj,Zh,Zx,Z5,Zw,hi,hx,ih,wrap_succ hi (by omega),e',PK]
    cases ZhP (hdB sc.Decl c) x <;> rfl
   ·rw [MR]; simp only [Ze,Zb,cond_true,cond_false,Zd,Zq,Za,Zi,condC,Zk,Zj,Zh,Zx,Z5,Zw,PK]
  rw [Zot,hs,Zq,lp,ZoN]
  simp only [Ze,Zb,cond_true,cond_false,Zd,Zq,Za,Zi,condC,Zk,Zj,Zh,Zx,Z5,Zw,hdB]; simp only [Y3,XE,if_true,if_false,Bool.false_eq_true,ne_eq,decide_not,gt_iff_lt,ge_iff_le]
  (repeat' split) <;> simp_all
theorem ZoO (hd:Zt→Bool):∀ l:List Zt,(!(l.any fun y=>!(ZhP hd y)))=PK hd l
 | []=>by rw [PK]; rfl
 | x :: l=>by rw [List.any_cons,PK,← ZoO hd l]; cases ZhP hd x <;> simp
theorem ZqE (L:Nat)(p:Zm)(si:Int)(sc:Z4)(hs:Z8 p.Sites si=some sc)(c:Y8):∀ (m:Nat) (e:Zt),Yk e→SizeOf.sizeOf e≤m→m≤L→Yn L m (⟨p,si,c⟩,e,())=some (ZhP (hdA sc.Decl c) e)
 | 0,e,h,hsz,_=>absurd hsz (by have:=NH e; omega)
 | m + 1,e,h,hsz,hm=>by
  have hk:=Zu e.Kids; have hz:=Zrh e; have hl:=h.k
  have lp:Zo (Yl m ⟨p,si,c⟩ e L) L (0,())=some (Iw (fun y=>!(ZhP (hdA sc.Decl c) y)) e.Kids 0):=by
   refine Zk1 e.Kids (fun l i=>some (Iw (fun y=>!(ZhP (hdA sc.Decl c) y)) l i)) (by omega) (fun self i x r hx hi mem e'=>?_) (fun self=>?_)
   ·have ih:=ZqE L p si sc hs c m x (h.Kids.2 x mem) (by have:=Aq mem; omega) (by omega)
    rw [Yl]; simp only [Ze,Zb,cond_true,cond_false,Zd,Zq,Za,Zi,condC,Zk,Zj,Zh,Zx,Z5,Zw,hi,hx,ih,wrap_succ hi (by omega),e',Iw]; simp only [Y3,XE,if_true,if_false,Bool.false_eq_true,ne_eq,decide_not,gt_iff_lt,ge_iff_le]
   ·rw [Yl]; simp only [Ze,Zb,cond_true,cond_false,Zd,Zq,Za,Zi,condC,Zk,Zj,Zh,Zx,Z5,Zw,Iw]
  have hge:decide (Iw (fun y=>!(ZhP (hdA sc.Decl c) y)) e.Kids 0 ≥ 0)=e.Kids.any fun y=>!(ZhP (hdA sc.Decl c) y):=CG _ _ 0 (Int.le_refl _)
  have hmost:∀ w o,YE L (⟨p,si,c⟩,w,o,())=_:=fun w o=>Ji L ⟨p,si,c⟩ w o
  rw [SQ,show Gq=Yl from rfl,show Gs=Yl from rfl,show Gt=Yl from rfl,show Gu=Yl from rfl,show Gv=Yl from rfl,lp,ZoN]
  simp only [Ze,Zb,cond_true,cond_false,Zd,Zq,Za,Zi,condC,Zk,Zj,Zh,Zx,Z5,Zw,JM,hmost,hs,hge,ZoO,hdA,Int.reduceEq,decide_true,decide_false]; simp only [Y3,XE,if_true,if_false,Bool.false_eq_true,ne_eq,decide_not,gt_iff_lt,ge_iff_le,Bool.true_and]
  (repeat' split) <;> simp_all
end Go.Proofs.YtleomfgijkapfaaGreatDoor
end
section
namespace Go.Proofs.YtleomfgijkapfaaGreatDoor
open Go Go.Proofs.YtleomfgijkapfaaGreatDoor.Abs Go.Proofs.YtleomfgijkapfaaGreatDoor.Tl
set_option maxRecDepth 100000
def Zwi (p:Zm)(a b:Int):Int×Bool×PUnit:=match p.Links.find? (fun l=>decide (l.From=a) && decide (l.To=b)) with
 | some l=>(l.Delay,true,())
 | none=>(0,false,())
theorem ZtK (L:Nat)(p:Zm)(a b:Int)(h:p.Links.length≤4611686018427387)(hL:p.Links.length < L):TU L (p,a,b,())=some (Zwi p a b):=by
 rw [Zoe,Zk1 p.Links (fun l i=>some (Iw (fun l:Zcl=>decide (l.From=a) && decide (l.To=b)) l i)) hL (fun self i x r hx hi _ e=>by
  rw [Sl]; simp only [Ze,Zb,cond_true,cond_false,Zd,Zq,Za,Zi,condC,Zk,Zj,Zh,Zx,Z5,Zw,hi,hx,wrap_succ hi (by omega),e,Iw]; simp only [Y3,XE,if_true,if_false,Bool.false_eq_true,ne_eq,decide_not,gt_iff_lt,ge_iff_le]) (fun self=>by rw [Sl]; simp only [Ze,Zb,cond_true,cond_false,Zd,Zq,Za,Zi,condC,Zk,Zj,Zh,Zx,Z5,Zw,Iw]),Zq,Zwi]
 rcases ZbY (fun l:Zcl=>decide (l.From=a) && decide (l.To=b)) p.Links 0 with ⟨e1,e2⟩ | ⟨k,r,e1,e2,e3⟩
 ·rw [e1,e2]; rfl
 ·rw [e1,e2,Int.zero_add,show decide ((k:Int) < 0)=false by simp only [decide_eq_false_iff_not]; omega,cond_false,Zd,e3]; rfl
theorem ZtN (L:Nat)(p:Zm)(a b:Int)(h:p.Links.length≤4611686018427387)(hL:p.Links.length < L):DX L (p,a,b,())=some (Zwi p a b):=by
 rw [ZqL,Zwi]
 refine Zb4 p.Links (fun l=>some (match l.find? (fun l=>decide (l.From=a) && decide (l.To=b)) with | some l=>(l.Delay,true,()) | none=>(0,false,()))) hL (fun self i x r hx hi _ e=>?_) (fun self=>?_)
 ·rw [CZ]; simp only [Ze,Zb,cond_true,cond_false,Zd,Zq,Za,Zi,condC,Zk,Zj,Zh,Zx,Z5,Zw,hi,hx,wrap_succ hi (by omega),e,List.find?_cons]
  cases decide (x.From=a) <;> cases decide (x.To=b) <;> rfl
 ·rw [CZ]; simp only [Ze,Zb,cond_true,cond_false,Zd,Zq,Za,Zi,condC,Zk,Zj,Zh,Zx,Z5,Zw,List.find?_nil]
def Zsw (p:Zm)(d:Zc)(c:Y8)(k:Int):Int :=
 if decide (k=1)=true then c.Slots else if decide (k=2)=true then (d.Vars.length:Int) else if decide (k=3)=true then (d.Streams.length:Int) else if decide (k=4)=true then (c.Instrs.length:Int) else if decide (k=5)=true then (d.Resources.length:Int) else if decide (k=6)=true then (d.Stores.length:Int) else if decide (k=7)=true then (d.Belts.length:Int) else if decide (k=8)=true then (d.Queues.length:Int) else if decide (k=9)=true then (p.Sites.length:Int) else if decide (k=11)=true then (d.Tallies.length:Int) else if decide (k=12)=true then (d.Levels.length:Int) else if decide (k=13)=true then (d.Counts.length:Int) else 1
def Zsc (p:Zm)(d:Zc)(c:Y8)(k x:Int):Bool:=decide (0≤x) && decide (x < Zsw p d c k)
theorem Zx7 (L:Nat)(p:Zm)(si:Int)(sc:Z4)(hs:Z8 p.Sites si=some sc)(c:Y8)(k x o:Int)(hk:k≠10):Ya L (⟨p,si,c⟩,k,x,o,())=some (Zsc p sc.Decl c k x):=by
 have h10:decide (k=10)=false:=by simp [hk]
 have hmost:YE L (⟨p,si,c⟩,k,o,())=some (Zsw p sc.Decl c k):=by
  rw [Ji]; simp only [Ze,Zb,cond_true,cond_false,Zd,Zq,Za,Zi,condC,Zk,Zj,Zh,Zx,Z5,Zw,hs,h10,Zsw]; simp only [Y3,XE,if_true,if_false,Bool.false_eq_true,ne_eq,decide_not,gt_iff_lt,ge_iff_le]
 simp only [Ze,Zb,cond_true,cond_false,Zd,Zq,Za,Zi,condC,Zk,Zj,Zh,Zx,Z5,Zw,JM,hmost,Zsc]
theorem Zq2 (L:Nat)(p:Zm)(si:Int)(sc:Z4)(hs:Z8 p.Sites si=some sc)(c:Y8)(x o:Int)(so:Z4)(ho:Z8 p.Sites o=some so):Ya L (⟨p,si,c⟩,10,x,o,())=some (decide (0≤x) && decide (x < (so.Routines.length:Int))):=by
 have hmost:YE L (⟨p,si,c⟩,10,o,())=some (so.Routines.length:Int):=by
  rw [Ji]; simp only [Ze,Zb,cond_true,cond_false,Zd,Zq,Za,Zi,condC,Zk,Zj,Zh,Zx,Z5,Zw,hs,ho,Int.reduceEq,decide_true,decide_false]
 simp only [Ze,Zb,cond_true,cond_false,Zd,Zq,Za,Zi,condC,Zk,Zj,Zh,Zx,Z5,Zw,JM,hmost]
def Zym (w:List UInt8):Int:=if w=[115,108,111,116] then 1 else if w=[118,97,114] then 2 else if w=[115,116,114,101,97,109] then 3 else if w=[105,110,115,116,114] then 4 else if w=[114,101,115,111,117,114,99,101] then 5 else if w=[115,116,111,114,101] then 6 else if w=[98,101,108,116] then 7 else if w=[113,117,101,117,101] then 8 else if w=[115,105,116,101] then 9 else if w=[116,97,108,108,121] then 11 else if w=[108,101,118,101,108] then 12 else if w=[99,111,117,110,116] then 13 else 0
def Znu:List (List UInt8):=[[],[115,108,111,116],[118,97,114],[115,116,114,101,97,109],[105,110,115,116,114],[114,101,115,111,117,114,99,101],[115,116,111,114,101],[98,101,108,116],[113,117,101,117,101],[115,105,116,101],[116,97,108,108,121],[108,101,118,101,108],[99,111,117,110,116]]
theorem ZmP (L:Nat)(p:Zm)(si:Int)(sc:Z4)(hs:Z8 p.Sites si=some sc)(c:Y8)(w:List UInt8)(hw:w ∈ Znu)(x:Int):KX L (p,si,c,w,x,())=some (decide (Zym w=0) || Zsc p sc.Decl c (Zym w) x):=by
 simp only [Znu,List.mem_cons,List.not_mem_nil,or_false] at hw
 rcases hw with rfl | rfl | rfl | rfl | rfl | rfl | rfl | rfl | rfl | rfl | rfl | rfl | rfl <;> (rw [Zjs,Zlx,hs,show decide (x ≥ 0)=decide (0≤x) from rfl]; unfold Zsc; generalize decide (0≤x)=b; cases b <;> rfl)
structure Rel (op:Int)(f:OV)(g:Je):Prop where
 rc:g.C=f.c
 re:g.E=f.e
 rf:g.F=f.f
 rargs:g.Args=f.args
 rflag:g.Flag=f.preempt
 rdist:f.dist=decide (op=3)
 rgdist:g.Dist=f.dist
 wa:g.A ∈ Znu
 na:Zym g.A=f.a
 wa0:decide (g.A=[])=decide (f.a=0)
 na10:f.a≠10
 wb0:decide (g.B=[])=decide (f.b=0)
 wb:op≠14→op≠15→g.B ∈ Znu∧Zym g.B=f.b∧f.b≠10
 f14:op=14→f.a=9
 f15:op=15→f.a=0
theorem Zp8 (L:Nat)(op:Int)(h:1≤op∧op≤19):∃ f g gs,Z8 Iu op=some f∧Vl L ()=some gs∧Z8 gs op=some g∧Rel op f g:=by
 have:op=1∨op=2∨op=3∨op=4∨op=5∨op=6∨op=7∨op=8∨op=9∨op=10∨op=11∨op=12∨op=13∨op=14∨op=15∨op=16∨op=17∨op=18∨op=19:=by omega
 rcases this with rfl | rfl | rfl | rfl | rfl | rfl | rfl | rfl | rfl | rfl | rfl | rfl | rfl | rfl | rfl | rfl | rfl | rfl | rfl <;>
  exact ⟨_,_,_,rfl,Zlv L,rfl,⟨rfl,rfl,rfl,rfl,rfl,rfl,rfl,by decide,by decide,by decide,by decide,by decide,by decide,by decide,by decide⟩⟩
end Go.Proofs.YtleomfgijkapfaaGreatDoor
end
section
namespace Go.Proofs.YtleomfgijkapfaaGreatDoor
open Go Go.Proofs.YtleomfgijkapfaaGreatDoor.Abs Go.Proofs.YtleomfgijkapfaaGreatDoor.Tl
set_option maxRecDepth 100000
theorem Zw4 (c x:Bool):(bif c then false else x)=(!c && x):=by cases c <;> rfl
theorem Zer (i:ZZ):SizeOf.sizeOf i.E < SizeOf.sizeOf i∧SizeOf.sizeOf i.F < SizeOf.sizeOf i∧SizeOf.sizeOf i.Args < SizeOf.sizeOf i∧SizeOf.sizeOf i.Dist < SizeOf.sizeOf i:=by cases i; simp; omega
def Zis (f:OV)(i:ZZ):Bool:=(!decide (f.a=0) || decide (i.A=0)) && (!decide (f.b=0) || decide (i.B=0)) && (f.c || decide (i.C=0)) && (f.e || FU i.E) && (f.f || FU i.F) && (f.args || decide ((i.Args.length:Int)=0)) && (f.dist || NQ i.Dist) && (f.preempt || !i.Flag)
theorem Zv0 (L:Nat)(i:ZZ)(h:Gh i)(hL:2 * SizeOf.sizeOf i≤L)(f:OV)(hf:Z8 Iu i.Op=some f):OA L (i,())=some (Zis f i):=by
 have hz:=Zer i
 have z:=fun e (he:Yk e) (hl:SizeOf.sizeOf e≤L)=>show IX L (e,())=some (FU e) by simp only [Ze,Zb,cond_true,cond_false,Zd,Zq,Za,Zi,condC,Zk,Zj,Zh,Zx,Z5,Zw,ZkW,ZkK L e _ he hl,Zad]
 rw [Zjb,hf]
 simp only [Ze,Zb,cond_true,cond_false,Zd,Zq,Za,Zi,condC,Zk,Zj,Zh,Zx,Z5,Zw,z i.E h.E (by omega),z i.F h.F (by omega),Zd8 L i.Dist _ h.Dist (by omega),H7,Zis]
theorem ZtB (n:Nat):(!decide ((n:Int) > 0))=decide ((n:Int)=0):=by rw [← decide_not]; exact decide_eq_decide.2 (by omega)
theorem Zv6 (L:Nat)(i:ZZ)(h:Gh i)(hL:2 * SizeOf.sizeOf i≤L)(f:OV)(g:Je)(gs:List Je)(hg:Vl L ()=some gs)(hg':Z8 gs i.Op=some g)(r:Rel i.Op f g):LD L (i,())=some (Zis f i):=by
 have hz:=Zer i
 rw [Zl0,hg,Za,Zq,hg',Zq]
 simp only [Ze,Zb,cond_true,cond_false,Zd,Zq,Za,Zi,condC,Zk,Zj,Zh,Zx,Z5,Zw,Zq8 L i.E h.E (by omega),Zq8 L i.F h.F (by omega),AO L i.Dist _ h.Dist (by omega),H7,r.wa0,r.wb0,r.rc,r.re,r.rf,r.rargs,r.rflag,r.rgdist,Zw4,Bool.not_and,Bool.not_not,ZtB,Zis]
 congr 1
 ac_rfl
def Zix (f:OV)(i:ZZ):List Zt:=(bif f.e then [i.E] else []) ++ ((bif f.f then [i.F] else []) ++ (bif f.args then i.Args else []))
theorem apE (l m:List Zt)(h:(l.length + m.length) * 56≤140737488355328):apT 56 l m=some (l ++ m):=by unfold apT; rw [if_pos h]
theorem Zz2 (i:ZZ)(ha:i.Args.length * 56≤140737488351232):apT 56 [] [i.E]=some [i.E]∧apT 56 [] [i.F]=some [i.F]∧apT 56 [i.E] [i.F]=some ([i.E] ++ [i.F])∧apT 56 [] i.Args=some i.Args∧apT 56 [i.E] i.Args=some ([i.E] ++ i.Args)∧apT 56 [i.F] i.Args=some ([i.F] ++ i.Args)∧apT 56 ([i.E] ++ [i.F]) i.Args=some ([i.E] ++ [i.F] ++ i.Args) :=
 ⟨apE [] [i.E] (by simp),apE [] [i.F] (by simp),apE _ _ (by simp),apE [] i.Args (by simp only [List.length_nil]; omega),apE _ _ (by simp only [List.length_cons,List.length_nil]; omega),apE _ _ (by simp only [List.length_cons,List.length_nil]; omega),apE _ _ (by simp only [List.cons_append,List.nil_append,List.length_cons,List.length_nil]; omega)⟩
theorem ZiS (L:Nat)(n:Int):KQ L (n,())=some (btw n 1 19):=Zjc L n
theorem ZfX (L:Nat)(n:Int):Oc L (n,())=some (btw n 1 19):=Zlz L n
theorem ZsJ (L:Nat)(i:ZZ)(h:Gh i)(hk:btw i.Op 1 19=true)(f:OV)(hf:Z8 Iu i.Op=some f):Qe L (i,())=some (Zix f i):=by
 have ha:=h.Args.1
 simp only [Ze,Zb,cond_true,cond_false,Zd,Zq,Za,Zi,condC,Zk,Zj,Zh,Zx,Z5,Zw,AY,ZiS,hk,hf,Bool.not_true]
 unfold Zix
 obtain ⟨a0,a1,a2,a3,a4,a5,a6⟩:=Zz2 i ha
 cases f.e <;> cases f.f <;> cases f.args <;> simp only [cond_true,cond_false,a0,a1,a2,a3,a4,a5,a6,Zq,List.nil_append,List.append_nil,List.append_assoc]
theorem ZsN (L:Nat)(i:ZZ)(h:Gh i)(hk:btw i.Op 1 19=true)(f:OV)(g:Je)(gs:List Je)(hg:Vl L ()=some gs)(hg':Z8 gs i.Op=some g)(r:Rel i.Op f g):L9 L (i,())=some (Zix f i):=by
 have ha:=h.Args.1
 simp only [Ze,Zb,cond_true,cond_false,Zd,Zq,Za,Zi,condC,Zk,Zj,Zh,Zx,Z5,Zw,Zlu,ZfX,hk,hg,hg',r.re,r.rf,r.rargs,Bool.not_true]
 unfold Zix
 obtain ⟨a0,a1,a2,a3,a4,a5,a6⟩:=Zz2 i ha
 cases f.e <;> cases f.f <;> cases f.args <;> simp only [cond_true,cond_false,a0,a1,a2,a3,a4,a5,a6,Zq,List.nil_append,List.append_nil,List.append_assoc]
theorem Zw8 (f:OV)(i:ZZ)(h:Gh i):(Zix f i).length≤4611686018427387∧(Zix f i).length≤2 + i.Args.length∧∀ x ∈ Zix f i,Yk x∧SizeOf.sizeOf x < SizeOf.sizeOf i:=by
 have hz:=Zer i
 have ha:=h.Args.1
 have hl:(Zix f i).length≤2 + i.Args.length:=by
  unfold Zix; cases f.e <;> cases f.f <;> cases f.args <;> simp <;> omega
 refine ⟨by omega,hl,fun x hx=>?_⟩
 unfold Zix at hx
 rcases List.mem_append.1 hx with hx | hx
 ·cases he:f.e <;> rw [he] at hx
  ·cases hx
  ·rw [List.mem_singleton.1 hx]; exact ⟨h.E,by omega⟩
 rcases List.mem_append.1 hx with hx | hx
 ·cases he:f.f <;> rw [he] at hx
  ·cases hx
  ·rw [List.mem_singleton.1 hx]; exact ⟨h.F,by omega⟩
 ·cases he:f.args <;> rw [he] at hx
  ·cases hx
  ·have hx:x ∈ i.Args:=hx
   exact ⟨h.Args.2 x hx,by have:=List.sizeOf_lt_of_mem hx; omega⟩
def esR (d:Zc)(c:Y8)(t:Int):List Zt→Int
 | []=>t
 | x :: r=>if decide (QI true x≠0)=true then QI true x else if (!(ZhP (hdA d c) x))=true then 2 else esR d c t r
theorem lpA (L:Nat)(h1:1000≤L)(p:Zm)(si:Int)(sc:Z4)(hs:Z8 p.Sites si=some sc)(c:Y8)(i:ZZ)(h:Gh i)(hL:2 * SizeOf.sizeOf i≤L)(f:OV)(op:f.dist=decide (i.Op=3)):Zo (YW ⟨p,si,c⟩ i L f (Zix f i)) L (0,())=some (esR sc.Decl c (if decide (i.Op=3)=true then RZ i.Dist else 0) (Zix f i)):=by
 obtain ⟨e1,e2,e3⟩:=Zw8 f i h
 have hz:=Zer i; have hk:=Zu i.Args
 refine Zb4 (Zix f i) (fun l=>some (esR sc.Decl c (if decide (i.Op=3)=true then RZ i.Dist else 0) l)) (by omega) (fun self j x r hx hi mem e=>?_) (fun self=>?_)
 ·obtain ⟨o1,o2⟩:=e3 x mem
  rw [YW]
  simp only [Ze,Zb,cond_true,cond_false,Zd,Zq,Za,Zi,condC,Zk,Zj,Zh,Zx,Z5,Zw,hi,hx,ZkI L x o1 (by omega),show Qy L (⟨p,si,c⟩,x,())=_ from ZqE L p si sc hs c L x o1 (by omega) (Nat.le_refl _),wrap_succ hi (by omega),e,esR]; simp only [Y3,XE,if_true,if_false,Bool.false_eq_true,ne_eq,decide_not,gt_iff_lt,ge_iff_le]
 ·rw [YW]; simp only [Ze,Zb,cond_true,cond_false,Zd,Zq,Za,Zi,condC,Zk,Zj,Zh,Zx,Z5,Zw,op,ML L i.Dist h.Dist (by omega) (by omega),esR]; simp only [Y3,XE,if_true,if_false,Bool.false_eq_true,ne_eq,decide_not,gt_iff_lt,ge_iff_le]
theorem Zir (x:Zt)(h:QI true x=0):Uu true x=0:=by
 unfold QI at h
 by_cases a:60 < Zpt x
 ·simp [a] at h
 by_cases b:12 < ZoG x
 ·simp [a,b] at h
 simpa [a,b] using h
theorem lpB (L:Nat)(h1:1000≤L)(p:Zm)(si:Int)(sc:Z4)(hs:Z8 p.Sites si=some sc)(c:Y8)(i:ZZ)(h:Gh i)(hL:2 * SizeOf.sizeOf i≤L)(f:OV):Zo (Oz p si c i L (Zix f i)) L (0,())=some (esR sc.Decl c (if decide (i.Op=3)=true then RZ i.Dist else 0) (Zix f i)):=by
 obtain ⟨e1,e2,e3⟩:=Zw8 f i h
 have hz:=Zer i; have hk:=Zu i.Args
 refine Zb4 (Zix f i) (fun l=>some (esR sc.Decl c (if decide (i.Op=3)=true then RZ i.Dist else 0) l)) (by omega) (fun self j x r hx hi mem e=>?_) (fun self=>?_)
 ·obtain ⟨o1,o2⟩:=e3 x mem
  rw [Oz]
  simp only [Ze,Zb,cond_true,cond_false,Zd,Zq,Za,Zi,condC,Zk,Zj,Zh,Zx,Z5,Zw,hi,hx,ZiU L (by omega) x o1 (by omega),show Zar L (p,si,c,x,())=_ from ZqD L p si sc hs c L x o1 (by omega) (Nat.le_refl _),wrap_succ hi (by omega),e,esR]
  by_cases z:QI true x=0
  ·rw [Ztt sc.Decl c x (Zir x z)]
   cases ZhP (hdB sc.Decl c) x <;> simp [z]
  ·simp [z]
 ·rw [Oz]; simp only [Ze,Zb,cond_true,cond_false,Zd,Zq,Za,Zi,condC,Zk,Zj,Zh,Zx,Z5,Zw,Pn L i.Dist h.Dist (by omega),esR]; simp only [Y3,XE,if_true,if_false,Bool.false_eq_true,ne_eq,decide_not,gt_iff_lt,ge_iff_le]
end Go.Proofs.YtleomfgijkapfaaGreatDoor
end
section
namespace Go.Proofs.YtleomfgijkapfaaGreatDoor
open Go Go.Proofs.YtleomfgijkapfaaGreatDoor.Abs Go.Proofs.YtleomfgijkapfaaGreatDoor.Tl
set_option maxRecDepth 100000
theorem ZpA {α:Type}(l:List α)(n:Int)(h0:0≤n)(h:n < l.length):∃ x,Z8 l n=some x∧x ∈ l:=by
 have hn:n.toNat < l.length:=by omega
 refine ⟨l[n.toNat],?_,List.getElem_mem hn⟩
 unfold Z8; rw [if_pos h0]; exact List.getElem?_eq_getElem hn
theorem Zf9 (L:Nat)(p:Zm)(o:Int)(so:Z4)(ho:Z8 p.Sites o=some so)(i:ZZ) :
  ((decide (0≤i.B) && decide (i.B < (so.Routines.length:Int)))=false∧UE L (p,o,i,())=some 2) ∨
  ((decide (0≤i.B) && decide (i.B < (so.Routines.length:Int)))=true∧∃ cd,Z8 so.Routines i.B=some cd∧UE L (p,o,i,())=some (bif !decide ((i.Args.length:Int)=cd.Params) then 8 else 0)):=by
 rw [Zlw,ho,Zq]
 by_cases h:0≤i.B∧i.B < (so.Routines.length:Int)
 ·refine .inr ⟨by simp [h.1,h.2],?_⟩
  obtain ⟨cd,hc,_⟩:=ZpA so.Routines i.B h.1 h.2
  refine ⟨cd,hc,?_⟩
  rw [show (decide (i.B < 0) || decide (i.B ≥ (so.Routines.length:Int)))=false by simp only [Bool.or_eq_false_iff,decide_eq_false_iff_not]; omega,hc]
  simp only [Ze,Zb,cond_true,cond_false,Zd,Zq,Za,Zi,condC,Zk,Zj,Zh,Zx,Z5,Zw]
 ·refine .inl ⟨by simp only [Bool.and_eq_false_iff,decide_eq_false_iff_not]; omega,?_⟩
  rw [show (decide (i.B < 0) || decide (i.B ≥ (so.Routines.length:Int)))=true by simp only [Bool.or_eq_true,decide_eq_true_eq]; omega]
  rfl
theorem orN (a b:Bool):(!b && !a)=!(a || b):=by cases a <;> cases b <;> rfl
theorem ZnO (L:Nat)(h1:1000≤L)(p:Zm)(hp:p.Links.length≤4611686018427387)(hpL:p.Links.length < L)(si:Int)(sc:Z4)(hs:Z8 p.Sites si=some sc)(c:Y8)(i:ZZ)(h:Gh i)(hL:2 * SizeOf.sizeOf i≤L) :
  ∃ v,WB L (⟨p,si,c⟩,i,())=some v∧Vm L (p,si,c,i,())=some v:=by
 rw [PN,Zly,show UY=YW from rfl,show UZ=YW from rfl,ZiS,ZfX]
 by_cases hk:btw i.Op 1 19=true
 ·obtain ⟨f,g,gs,hf,hg,hg',r⟩:=Zp8 L i.Op (by simpa [btw] using hk)
  rw [Zv0 L i h hL f hf,Zv6 L i h hL f g gs hg hg' r,hf,ZsJ L i h hk f hf,ZsN L i h hk f g gs hg hg' r]
  have la:=lpA L h1 p si sc hs c i h hL f r.rdist
  have lb:=lpB L h1 p si sc hs c i h hL f
  generalize esR sc.Decl c (if decide (i.Op=3)=true then RZ i.Dist else 0) (Zix f i)=V at la lb
  cases hcl:Zis f i
  ·exact ⟨1,by simp only [Ze,Zb,cond_true,cond_false,Zd,Zq,Za,Zi,condC,Zk,Zj,Zh,Zx,Z5,Zw,hk,Bool.not_true,Bool.not_false,Bool.or_true,Bool.false_or],by simp only [Ze,Zb,cond_true,cond_false,Zd,Zq,Za,Zi,condC,Zk,Zj,Zh,Zx,Z5,Zw,hk,Bool.not_true,Bool.not_false,Bool.or_true,Bool.false_or]⟩
  simp only [Zhs,hg,Zq,hg',Zx7 L p si sc hs c f.a i.A 0 r.na10]
  have iA:=ZmP L p si sc hs c g.A r.wa i.A
  rw [r.na] at iA
  by_cases hA:(decide (f.a=0) || Zsc p sc.Decl c f.a i.A)=true
  ·have hA':(!(Zsc p sc.Decl c f.a i.A) && !decide (f.a=0))=false:=by rw [orN,hA]; rfl
   rw [hA] at iA
   by_cases h14:i.Op=14
   ·
    have ha9:=r.f14 h14
    rw [ha9] at hA
    have hA2:0≤i.A∧i.A < (p.Sites.length:Int):=by simpa [Zsc,Zsw] using hA
    obtain ⟨so,ho,_⟩:=ZpA p.Sites i.A hA2.1 hA2.2
    have e14:decide (i.Op=14)=true:=by simp [h14]
    have e15:decide (i.Op=15)=false:=by simp [h14]
    have hb10:=Zq2 L p si sc hs c i.B i.A so ho
    simp only [Zx,Zw,e14,e15,cond_true,cond_false,Zq]
    simp only [hA',hk,iA,cond_true,cond_false,Zq,Bool.not_true,Bool.or_false,ZtK L p si i.A hp hpL,ZtN L p si i.A hp hpL]
    simp only [Zj,hb10,ho,Zq,Za,cond_false,Bool.not_true,la,lb]
    cases hq:(!(Zwi p si i.A).2.1 || !decide ((Zwi p si i.A).1=i.C))
    ·rcases Zf9 L p i.A so ho i with ⟨b1,b2⟩ | ⟨b1,cd,b2,b3⟩
     ·exact ⟨2,by simp only [cond_true,cond_false,Zq,Za,Zi,condC,Zk,Zj,Zh,Zx,Zw,Bool.not_true,Bool.not_false,b1,Bool.not_false] <;> rfl,by simp only [cond_true,cond_false,Zq,Za,Zi,condC,Zk,Zj,Zh,Zx,Zw,Bool.not_true,Bool.not_false,b2] <;> rfl⟩
     ·cases hz:decide ((i.Args.length:Int)=cd.Params)
      ·exact ⟨8,by simp only [cond_true,cond_false,Zq,Za,Zi,condC,Zk,Zj,Zh,Zx,Zw,Bool.not_true,Bool.not_false,b1,b2,hz,Bool.not_true,Bool.not_false] <;> rfl,by simp only [cond_true,cond_false,Zq,Za,Zi,condC,Zk,Zj,Zh,Zx,Zw,Bool.not_true,Bool.not_false,b3,hz,Bool.not_true,Bool.not_false] <;> rfl⟩
      ·exact ⟨V,by simp only [cond_true,cond_false,Zq,Za,Zi,condC,Zk,Zj,Zh,Zx,Zw,Bool.not_true,Bool.not_false,b1,b2,hz,Bool.not_true,Bool.not_false] <;> rfl,by simp only [cond_true,cond_false,Zq,Za,Zi,condC,Zk,Zj,Zh,Zx,Zw,Bool.not_true,Bool.not_false,b3,hz,Bool.not_true,Bool.not_false] <;> rfl⟩
    ·exact ⟨16,by simp only [cond_true,cond_false,Zq,Za,Zi,condC,Zk,Zj,Zh,Zx,Zw,Bool.not_true,Bool.not_false] <;> rfl,by simp only [cond_true,cond_false,Zq,Za,Zi,condC,Zk,Zj,Zh,Zx,Zw,Bool.not_true,Bool.not_false] <;> rfl⟩
   ·by_cases h15:i.Op=15
    ·have e14:decide (i.Op=14)=false:=by simp [h15]
     have e15:decide (i.Op=15)=true:=by simp [h15]
     have hb10:=Zq2 L p si sc hs c i.B si sc hs
     simp only [Zx,Zw,e14,e15,cond_true,cond_false,Zq]
     simp only [hA',hk,iA,cond_true,cond_false,Zq,Bool.not_true,Bool.or_false]
     simp only [Zj,hb10,hs,Zq,Za,cond_false,Bool.not_true,la,lb]
     rcases Zf9 L p si sc hs i with ⟨b1,b2⟩ | ⟨b1,cd,b2,b3⟩
     ·exact ⟨2,by simp only [cond_true,cond_false,Zq,Za,Zi,condC,Zk,Zj,Zh,Zx,Zw,Bool.not_true,Bool.not_false,b1,Bool.not_false] <;> rfl,by simp only [cond_true,cond_false,Zq,Za,Zi,condC,Zk,Zj,Zh,Zx,Zw,Bool.not_true,Bool.not_false,b2] <;> rfl⟩
     ·cases hz:decide ((i.Args.length:Int)=cd.Params)
      ·exact ⟨8,by simp only [cond_true,cond_false,Zq,Za,Zi,condC,Zk,Zj,Zh,Zx,Zw,Bool.not_true,Bool.not_false,b1,b2,hz,Bool.not_true,Bool.not_false] <;> rfl,by simp only [cond_true,cond_false,Zq,Za,Zi,condC,Zk,Zj,Zh,Zx,Zw,Bool.not_true,Bool.not_false,b3,hz,Bool.not_true,Bool.not_false] <;> rfl⟩
      ·exact ⟨V,by simp only [cond_true,cond_false,Zq,Za,Zi,condC,Zk,Zj,Zh,Zx,Zw,Bool.not_true,Bool.not_false,b1,b2,hz,Bool.not_true,Bool.not_false] <;> rfl,by simp only [cond_true,cond_false,Zq,Za,Zi,condC,Zk,Zj,Zh,Zx,Zw,Bool.not_true,Bool.not_false,b3,hz,Bool.not_true,Bool.not_false] <;> rfl⟩
    ·obtain ⟨w1,w2,w3⟩:=r.wb h14 h15
     have e14:decide (i.Op=14)=false:=by simp [h14]
     have e15:decide (i.Op=15)=false:=by simp [h15]
     have iB:=ZmP L p si sc hs c g.B w1 i.B
     rw [w2] at iB
     simp only [cond_true,cond_false,Zq,Za,Zi,condC,Zk,Zj,Zh,Zx,Zw,Bool.not_true,Bool.not_false,hk,hA',iA,iB,e14,e15,Bool.not_true,Bool.or_false,Zx7 L p si sc hs c f.b i.B 0 w3,la,lb]
     cases decide (f.b=0) <;> cases Zsc p sc.Decl c f.b i.B
     ·exact ⟨2,rfl,rfl⟩
     ·exact ⟨V,rfl,rfl⟩
     ·exact ⟨V,rfl,rfl⟩
     ·exact ⟨V,rfl,rfl⟩
  ·rw [Bool.not_eq_true] at hA
   have hA':(!(Zsc p sc.Decl c f.a i.A) && !decide (f.a=0))=true:=by rw [orN,hA]; rfl
   rw [hA] at iA
   exact ⟨2,by simp only [cond_true,cond_false,Zq,Za,Zi,condC,Zk,Zj,Zh,Zx,Zw,Bool.not_true,Bool.not_false,hk,hA',Bool.not_true,Bool.or_false] <;> rfl,by simp only [cond_true,cond_false,Zq,Za,Zi,condC,Zk,Zj,Zh,Zx,Zw,Bool.not_true,Bool.not_false,hk,iA,Bool.not_true,Bool.not_false,Bool.or_false] <;> rfl⟩
 ·rw [Bool.not_eq_true] at hk
  exact ⟨1,by simp only [cond_true,cond_false,Zq,Za,Zi,condC,Zk,Zj,Zh,Zx,Zw,Bool.not_true,Bool.not_false,hk,Bool.not_false,Bool.true_or] <;> rfl,by simp only [cond_true,cond_false,Zq,Za,Zi,condC,Zk,Zj,Zh,Zx,Zw,Bool.not_true,Bool.not_false,hk,Bool.not_false,Bool.true_or] <;> rfl⟩
end Go.Proofs.YtleomfgijkapfaaGreatDoor
end
section
namespace Go.Proofs.YtleomfgijkapfaaGreatDoor
open Go Go.Proofs.YtleomfgijkapfaaGreatDoor.Abs Go.Proofs.YtleomfgijkapfaaGreatDoor.Tl
set_option maxRecDepth 100000
theorem ZhH (c:Y8):SizeOf.sizeOf c.Name < SizeOf.sizeOf c∧SizeOf.sizeOf c.Instrs < SizeOf.sizeOf c:=by cases c; simp; omega
theorem ZwY {α:Type}{f:(Int×PUnit→Option Int)→Int×PUnit→Option Int}(l:List α)(V:α→Int)(T:Option Int){m:Nat}(hm:l.length < m)
  (h1:∀ self (i:Nat) x,l[i]? = some x→i < l.length→x ∈ l→f self ((i:Int),())=bif !decide (V x=0) then some (V x) else self ((i:Int) + 1,()))
  (h2:∀ self,f self ((l.length:Int),())=T):Zo f m (0,())=if decide (Y2 V l≠0)=true then some (Y2 V l) else T :=
 Zb4 l (fun l=>if decide (Y2 V l≠0)=true then some (Y2 V l) else T) hm (fun self i x r hx hi mem e=>by
  rw [h1 self i x hx hi mem,e,Y2]
  by_cases c:V x=0 <;> simp [c]) (fun self=>by rw [h2]; rfl)
theorem Zj2 (L:Nat)(h1:1000≤L)(p:Zm)(hp:p.Links.length≤4611686018427387)(hpL:p.Links.length < L)(si:Int)(sc:Z4)(hs:Z8 p.Sites si=some sc)(c:Y8)(h:ZhW c)(hL:2 * SizeOf.sizeOf c≤L) :
  ∃ v,Qu L (p,si,c,())=some v∧WA L (p,si,c,())=some v:=by
 have hz:=ZhH c
 have hk:=Zu c.Instrs; have hl:=h.Instrs.1
 have hn1:=X0 L c.Name (by have:=h.Name; unfold Len; omega) (by have:=Zu c.Name; omega)
 have hn2:=U4 L c.Name (by have:=h.Name; unfold Len; omega) (by have:=Zu c.Name; omega) (by omega)
 have hV:∀ i ∈ c.Instrs,WB L (⟨p,si,c⟩,i,())=some ((Vm L (p,si,c,i,())).getD 0)∧Vm L (p,si,c,i,())=some ((Vm L (p,si,c,i,())).getD 0):=fun i mem=>by
  have:=List.sizeOf_lt_of_mem mem
  obtain ⟨v,e1,e2⟩:=ZnO L h1 p hp hpL si sc hs c i (h.Instrs.2 i mem) (by omega)
  rw [e1,e2]; exact ⟨rfl,rfl⟩
 obtain ⟨V,hV'⟩:∃ V:ZZ→Int,∀ i ∈ c.Instrs,WB L (⟨p,si,c⟩,i,())=some (V i)∧Vm L (p,si,c,i,())=some (V i):=⟨_,hV⟩
 by_cases ge:c.Instrs=[]
 ·have e0:decide ((c.Instrs.length:Int)=0)=true:=by rw [ge]; rfl
  refine ⟨_,by rw [ND]; simp only [hn1,Zq,Zx,Zw,e0,cond_true,Zh]; rfl,?_⟩
  rw [Fb]; simp only [hn2,Zq,Zx,Zw,e0,cond_true,Zh]
 ·have hpos:0 < c.Instrs.length:=List.length_pos_iff.2 ge
  have hw:IntKind.i64.wrap ((c.Instrs.length:Int) - 1)=((c.Instrs.length - 1:Nat):Int):=by rw [wrap_in (by omega) (by omega)]; omega
  have hx:=List.getElem?_eq_getElem (show c.Instrs.length - 1 < c.Instrs.length by omega)
  generalize c.Instrs[c.Instrs.length - 1]=x at hx
  have la:=ZwY (f := JH p si c L) c.Instrs V (some (bif !decide (x.Op=19) && !decide (x.Op=4) then 8 else 0)) (m := L) (by omega) (fun self i y hy hi mem=>by
   rw [JH]; simp only [Ze hi,cond_true,Zd,hy,Zq,(hV' y mem).1,Zw,wrap_succ hi (by omega)]) (fun self=>by
   rw [JH]; simp only [Zb,cond_false,hw,Zd,hx,Zq,Zw,Zh])
  have lb:=ZwY (f := UQ p si c L) c.Instrs V (some (bif !decide (x.Op=19) && !decide (x.Op=4) then 8 else 0)) (m := L) (by omega) (fun self i y hy hi mem=>by
   rw [UQ]; simp only [Ze hi,cond_true,Zd,hy,Zq,Za,(hV' y mem).2,Zw,wrap_succ hi (by omega)]) (fun self=>by
   rw [UQ]; simp only [Zb,cond_false,hw,Zd,hx,Zq,Zw,Zh])
  rw [XE] at la lb
  refine ⟨_,by rw [ND]; simp only [la,hn1,Zq,Zx,Zw,Zh]; rfl,?_⟩
  rw [Fb]; simp only [lb,hn2,Zq,Zx,Zw,Zh]
end Go.Proofs.YtleomfgijkapfaaGreatDoor
end
section
namespace Go.Proofs.YtleomfgijkapfaaGreatDoor
open Go Go.Proofs.YtleomfgijkapfaaGreatDoor.Abs Go.Proofs.YtleomfgijkapfaaGreatDoor.Tl
set_option maxRecDepth 100000
def agL:List Y8→List ZJ→Bool
 | c :: l,r :: m=>if (!(decide (c.Name=r.Name) && decide (c.Params=(r.Params.length:Int)) && decide ((r.Body.length:Int)=0)))=true then false else agL l m
 | _,_=>true
def agB (s:Z4):Bool:=decide ((s.Routines.length:Int)=(s.Decl.Routines.length:Int)) && agL s.Routines s.Decl.Routines
theorem ZsI (L:Nat)(s:Z4)(h:s.Routines.length≤4611686018427387)(hL:s.Routines.length < L):Hg L (s,())=some (agB s):=by
 rcases Zwn s.Routines s.Decl.Routines with ⟨e1,e2⟩ | ⟨e1,e2⟩
 ·have lp:=ZeR (f := UH s L) s.Routines s.Decl.Routines e1 (fun l m=>some (agL l m)) hL (fun self i x y r r' hx hy hi _ e=>by
   rw [UH]; simp only [Ze,Zb,cond_true,cond_false,Zd,Zq,Za,Zi,condC,Zk,Zj,Zh,Zx,Z5,Zw,hi,hx,hy,ZdD,wrap_succ hi (by omega),e,agL]; simp only [Y3,XE,if_true,if_false,Bool.false_eq_true,ne_eq,decide_not,gt_iff_lt,ge_iff_le]) (fun self=>by rw [UH]; simp only [Ze,Zb,cond_true,cond_false,Zd,Zq,Za,Zi,condC,Zk,Zj,Zh,Zx,Z5,Zw,agL])
  rw [AX,lp,agB,Zw,e2]; rfl
 ·rw [AX,agB,Zw,e2]; rfl
theorem ZsK (L:Nat)(s:Z4)(h:s.Routines.length≤4611686018427387)(hL:s.Routines.length < L):Mc L (s,())=some (agB s):=by
 rcases Zwn s.Routines s.Decl.Routines with ⟨e1,e2⟩ | ⟨e1,e2⟩
 ·have lp:=ZeR (f := MQ s) s.Routines s.Decl.Routines e1 (fun l m=>some (agL l m)) hL (fun self i x y r r' hx hy hi _ e=>by
   rw [MQ]; simp only [Ze,Zb,cond_true,cond_false,Zd,Zq,Za,Zi,condC,Zk,Zj,Zh,Zx,Z5,Zw,hi,hx,hy,wrap_succ hi (by omega),e,agL]
   rw [show decide ((y.Body.length:Int) > 0)=!decide ((y.Body.length:Int)=0) by rw [← ZtB,Bool.not_not],decide_eq_decide.2 (⟨Eq.symm,Eq.symm⟩:y.Name=x.Name↔x.Name=y.Name),decide_eq_decide.2 (⟨Eq.symm,Eq.symm⟩:(y.Params.length:Int)=x.Params↔x.Params=(y.Params.length:Int))]
   cases decide ((y.Body.length:Int)=0) <;> cases decide (x.Name=y.Name) <;> cases decide (x.Params=(y.Params.length:Int)) <;> rfl) (fun self=>by rw [MQ]; simp only [Ze,Zb,cond_true,cond_false,Zd,Zq,Za,Zi,condC,Zk,Zj,Zh,Zx,Z5,Zw,agL])
  rw [ZfZ,lp,agB,Zw,e2]; rfl
 ·rw [ZfZ,agB,Zw,e2]; rfl
def Zb8 (l:Zcl):Int×Int:=(l.From,l.To)
def ZcN (p:Zm):List (Int×Int)→List Zcl→Int
 | _,[]=>0
 | seen,x :: r=>if (decide (x.From < 0) || decide (x.From ≥ (p.Sites.length:Int)) || decide (x.To < 0) || decide (x.To ≥ (p.Sites.length:Int)) || decide (x.From=x.To) || decide (x.Delay < 1) || decide (x.Delay > 1000000000))=true then 2
  else if seen.contains (Zb8 x)=true then 4 else ZcN p (seen ++ [Zb8 x]) r
theorem Zi8 (l:List (Int×Int))(s:Int×Int):hasK (MK.pint IntKind.i64) l s=l.contains s:=by
 induction l with
 | nil=>rfl
 | cons x l ih =>
  rw [List.contains_cons,← ih]
  show (BEq.beq s.1 x.1 && BEq.beq s.2 x.2 || hasK (MK.pint IntKind.i64) l s)=_
  congr 1
theorem ZoM (l:List (Int×Int))(s:Int×Int)(h:l.contains s=false):ZaD (MK.pint IntKind.i64) l s=l ++ [s]:=by
 unfold ZaD; rw [Zi8,h]; rfl
theorem ZoS (x:Zcl)(n:Int):(decide ((if x.To < x.From then x.To else x.From) < 0) || decide ((if x.To > x.From then x.To else x.From) ≥ n) || decide (x.From=x.To))=(decide (x.From < 0) || decide (x.From ≥ n) || decide (x.To < 0) || decide (x.To ≥ n) || decide (x.From=x.To)):=by
 rw [Bool.eq_iff_iff]
 simp only [Bool.or_eq_true,decide_eq_true_eq]
 split <;> split <;> omega
theorem Zvz (L:Nat)(p:Zm)(h:p.Links.length≤4611686018427387)(hL:p.Links.length < L):IW L (p,())=some (if decide (32 < (p.Links.length:Int))=true then 6 else ZcN p [] p.Links):=by
 have lp:=ZiF (f := Ku p) p.Links (fun (s:List (Int×Int)) i=>(i,s,())) (fun l s=>some (ZcN p s l)) (fun self s i x r hx hi mem e=>by
  rw [Ku]
  simp only [Ze,Zb,cond_true,cond_false,Zd,Zq,Za,Zi,condC,Zk,Zj,Zh,Zx,Z5,Zw,hi,hx,ZoS,wrap_succ hi (by omega),e,Zi8,ZcN]
  generalize (decide (x.From < 0) || decide (x.From ≥ (p.Sites.length:Int)) || decide (x.To < 0) || decide (x.To ≥ (p.Sites.length:Int)) || decide (x.From=x.To))=a
  show _=some (if (a || decide (x.Delay < 1) || decide (x.Delay > 1000000000))=true then 2 else if s.contains (x.From,x.To)=true then 4 else ZcN p (s ++ [(x.From,x.To)]) r)
  cases hc:s.contains (x.From,x.To)
  ·rw [ZoM _ _ hc,e]; cases a <;> cases decide (x.Delay < 1) <;> cases decide (x.Delay > 1000000000) <;> rfl
  ·cases a <;> cases decide (x.Delay < 1) <;> cases decide (x.Delay > 1000000000) <;> rfl) (fun self s=>by rw [Ku]; simp only [Ze,Zb,cond_true,cond_false,Zd,Zq,Za,Zi,condC,Zk,Zj,Zh,Zx,Z5,Zw,ZcN]) L 0 [] (Nat.zero_le _) (by omega)
 rw [List.drop_zero] at lp
 rw [ZkV,show Zo (Ku p) L (0,[],())=_ from lp]
 simp only [Y3,XE,if_true,if_false,Bool.false_eq_true,ne_eq,decide_not,gt_iff_lt,ge_iff_le]
end Go.Proofs.YtleomfgijkapfaaGreatDoor
end
section
namespace Go.Proofs.YtleomfgijkapfaaGreatDoor
open Go Go.Proofs.YtleomfgijkapfaaGreatDoor.Abs Go.Proofs.YtleomfgijkapfaaGreatDoor.Tl
set_option maxRecDepth 100000
theorem Znz (L:Nat)(p:Zm)(h:p.Links.length≤4611686018427387)(self:Int×Int×PUnit→Option Int)(i:Nat)(hi:i≤p.Links.length)(hL:p.Links.length < L)(y:Zcl) :
  Zo (I8 p self (0,(i:Int),()) y) L (0,0,())=if ((p.Links.take i).map Zb8).contains (Zb8 y)=true then some 4 else self (0,IntKind.i64.wrap ((i:Int) + 1),()):=by
 have hlen:(p.Links.take i).length=i:=by rw [List.length_take]; omega
 have:=Zdu (f := I8 p self (0,(i:Int),()) y) i (fun j=>(0,j,())) (fun j=>if (((p.Links.take i).drop j).map Zb8).contains (Zb8 y)=true then some 4 else self (0,IntKind.i64.wrap ((i:Int) + 1),())) (fun self1 j hj e=>by
  have hjl:j < p.Links.length:=by omega
  have hx:=List.getElem?_eq_getElem hjl
  have hd:(p.Links.take i).drop j=p.Links[j] :: (p.Links.take i).drop (j + 1):=by
   rw [List.drop_eq_getElem_cons (show j < (p.Links.take i).length by omega),List.getElem_take]
  rw [hd,I8]
  simp only [show decide ((j:Int) < (i:Int))=true by simp only [decide_eq_true_eq]; omega,cond_true,Zd,hx,Zq,Zx,Zi,wrap_in (show -9223372036854775808≤(j:Int) + 1 by omega) (by omega),e,List.map_cons,List.contains_cons]
  generalize p.Links[j]=x
  have hb:(Zb8 y == Zb8 x)=(decide (x.From=y.From) && decide (x.To=y.To)):=by
   show (BEq.beq y.From x.From && BEq.beq y.To x.To)=_
   rw [Zx,Zx,decide_eq_decide.2 (⟨Eq.symm,Eq.symm⟩:y.From=x.From↔x.From=y.From),decide_eq_decide.2 (⟨Eq.symm,Eq.symm⟩:y.To=x.To↔x.To=y.To)]
  rw [hb]
  cases decide (x.From=y.From) <;> cases decide (x.To=y.To) <;> rfl) (fun self1=>by
  rw [I8]
  simp only [Zb,cond_false]
  rw [List.drop_eq_nil_of_le (by omega)]; rfl) L 0 (Nat.zero_le _) (by omega)
 rw [List.drop_zero] at this
 exact this
theorem Zv8 (L:Nat)(p:Zm)(h:p.Links.length≤4611686018427387)(hL:p.Links.length < L):TZ L (p,())=some (if decide (32 < (p.Links.length:Int))=true then 6 else ZcN p [] p.Links):=by
 have lp:=Zdu (f := I9 p L) p.Links.length (fun i=>(0,i,())) (fun i=>some (ZcN p ((p.Links.take i).map Zb8) (p.Links.drop i))) (fun self i hi e=>by
  have hx:=List.getElem?_eq_getElem hi
  have ht:(p.Links.take (i + 1)).map Zb8=(p.Links.take i).map Zb8 ++ [Zb8 p.Links[i]]:=by
   rw [List.take_succ,hx,List.map_append]; rfl
  rw [List.drop_eq_getElem_cons hi,ZcN]
  rw [ht] at e
  rw [I9]
  simp only [Ze hi,cond_true,Zd,hx,Zq,Zx,Znz L p h self i (Nat.le_of_lt hi) hL,wrap_succ hi (by omega),e]
  rw [Y3]
  split
  ·rfl
  ·split <;> rfl) (fun self=>by
  rw [I9,List.drop_length]; simp only [Zb,cond_false,ZcN]) L 0 (Nat.zero_le _) (by omega)
 rw [List.drop_zero] at lp
 rw [Zos,show Zo (I9 p L) L (0,0,())=_ from lp]
 simp only [Y3,XE,if_true,if_false,Bool.false_eq_true,ne_eq,decide_not,gt_iff_lt,ge_iff_le]
 rfl
end Go.Proofs.YtleomfgijkapfaaGreatDoor
end
section
namespace Go.Proofs.YtleomfgijkapfaaGreatDoor
open Go Go.Proofs.YtleomfgijkapfaaGreatDoor.Abs Go.Proofs.YtleomfgijkapfaaGreatDoor.Tl
set_option maxRecDepth 100000
def TQ (n:List UInt8):Seen→List Z4→Int
 | _,[]=>0
 | seen,x :: r=>if decide (M1 n x.Decl≠0)=true then M1 n x.Decl else if seen.contains x.Decl.Name=true then 4 else if (!(agB x))=true then 8 else TQ n (seen ++ [x.Decl.Name]) r
theorem ZxU (p:Zm){s:Z4}(h:s ∈ p.Sites):SizeOf.sizeOf s.Decl < SizeOf.sizeOf p∧SizeOf.sizeOf s.Routines < SizeOf.sizeOf p∧SizeOf.sizeOf p.Name < SizeOf.sizeOf p∧p.Sites.length < SizeOf.sizeOf p∧p.Links.length < SizeOf.sizeOf p:=by
 have h1:=List.sizeOf_lt_of_mem h
 have h2:SizeOf.sizeOf s.Decl < SizeOf.sizeOf s∧SizeOf.sizeOf s.Routines < SizeOf.sizeOf s:=by cases s; simp; omega
 have h3:SizeOf.sizeOf p.Sites < SizeOf.sizeOf p∧SizeOf.sizeOf p.Name < SizeOf.sizeOf p∧SizeOf.sizeOf p.Links < SizeOf.sizeOf p:=by cases p; simp; omega
 have h4:=Zu p.Sites; have h5:=Zu p.Links
 omega
theorem Zun (L:Nat)(h1:1000≤L)(p:Zm)(h:JB p)(hL:2 * SizeOf.sizeOf p≤L)(hne:p.Sites.length < L)(T:Int)(hT:∀ seen:Seen,(bT (IW L (p,())) fun (y:Int)=>bif y != (0:Int) then some y else Zo (Vp p L) L (0,0,seen,()))=some T) :
  Zo (JG p L) L (0,0,[],())=some (if decide (TQ p.Name [] p.Sites≠0)=true then TQ p.Name [] p.Sites else T):=by
 have hl:=h.Sites.1
 have:=ZiF (f := JG p L) p.Sites (fun (s:Seen) i=>(0,i,s,())) (fun l s=>some (if decide (TQ p.Name s l≠0)=true then TQ p.Name s l else T)) (fun self s i x r hx hi mem e=>by
  have hz:=ZxU p mem
  have ok:=h.Sites.2 x mem
  have hr:=ok.Routines.1
  have e1:=ZsM L (by omega) p.Name h.Name (by have:=Zu p.Name; omega) x.Decl ok.Decl (by omega)
  have e2:=ZsI L x (by omega) (by have:=Zu x.Routines; omega)
  rw [JG]
  simp only [Ze hi,cond_true,Zd,hx,Zq,e1,e2,Zw,ZgA,wrap_succ hi (by omega),e,TQ]
  by_cases a:M1 p.Name x.Decl=0
  ·rcases Bool.eq_false_or_eq_true (s.contains x.Decl.Name) with b | b
   ·have b':x.Decl.Name ∈ s:=List.contains_iff_mem.1 b
    simp [a,b']
   ·have b':¬ x.Decl.Name ∈ s:=fun hm=>by rw [List.contains_iff_mem.2 hm] at b; cases b
    rw [Zmg _ _ b,e]
    rcases Bool.eq_false_or_eq_true (agB x) with g | g <;> simp [a,b',g]
  ·simp [a]) (fun self s=>by rw [JG]; simp only [Zb,cond_false,hT,TQ]; rfl) L 0 [] (Nat.zero_le _) (by omega)
 rw [List.drop_zero] at this
 exact this
end Go.Proofs.YtleomfgijkapfaaGreatDoor
end
section
namespace Go.Proofs.YtleomfgijkapfaaGreatDoor
open Go Go.Proofs.YtleomfgijkapfaaGreatDoor.Abs Go.Proofs.YtleomfgijkapfaaGreatDoor.Tl
set_option maxRecDepth 100000
theorem ZvR (L:Nat)(p:Zm)(h:p.Sites.length≤4611686018427387)(self:Int×Int×PUnit→Option Int)(i:Nat)(y:Z4)(hy:p.Sites[i]? = some y)(hi:i < p.Sites.length)(hL:p.Sites.length < L)(hf:Mc L (y,())=some (agB y)) :
  Zo (KE p L self (0,(i:Int),())) L (0,0,())=if ((p.Sites.take i).map fun s=>s.Decl.Name).contains y.Decl.Name=true then some 4 else bif !(agB y) then some 8 else self (0,IntKind.i64.wrap ((i:Int) + 1),()):=by
 have hlen:(p.Sites.take i).length=i:=by rw [List.length_take]; omega
 have:=Zdu (f := KE p L self (0,(i:Int),())) i (fun j=>(0,j,())) (fun j=>if (((p.Sites.take i).drop j).map fun s=>s.Decl.Name).contains y.Decl.Name=true then some 4 else bif !(agB y) then some 8 else self (0,IntKind.i64.wrap ((i:Int) + 1),())) (fun self1 j hj e=>by
  have hjl:j < p.Sites.length:=by omega
  have hx:=List.getElem?_eq_getElem hjl
  have hd:(p.Sites.take i).drop j=p.Sites[j] :: (p.Sites.take i).drop (j + 1):=by
   rw [List.drop_eq_getElem_cons (show j < (p.Sites.take i).length by omega),List.getElem_take]
  rw [hd,KE]
  simp only [show decide ((j:Int) < (i:Int))=true by simp only [decide_eq_true_eq]; omega,cond_true,Zd,hx,hy,Zq,Z5,wrap_in (show -9223372036854775808≤(j:Int) + 1 by omega) (by omega),e,List.map_cons,List.contains_cons]
  generalize p.Sites[j]=x
  rw [decide_eq_decide.2 (⟨Eq.symm,Eq.symm⟩:y.Decl.Name=x.Decl.Name↔x.Decl.Name=y.Decl.Name)]
  cases decide (x.Decl.Name=y.Decl.Name) <;> rfl) (fun self1=>by
  rw [KE]
  simp only [Zb,cond_false,Zd,hy,Zq,hf]
  rw [List.drop_eq_nil_of_le (by omega)]; rfl) L 0 (Nat.zero_le _) (by omega)
 rw [List.drop_zero] at this
 exact this
theorem ZvL (L:Nat)(h1:1000≤L)(p:Zm)(h:JB p)(hL:2 * SizeOf.sizeOf p≤L)(hne:p.Sites.length < L)(T:Int)(hT:(bT (TZ L (p,())) fun (y:Int)=>Zo (Xu p L) L (y,0,()))=some T) :
  Zo (KG p L) L (0,0,())=some (if decide (TQ p.Name [] p.Sites≠0)=true then TQ p.Name [] p.Sites else T):=by
 have hl:=h.Sites.1
 have:=Zdu (f := KG p L) p.Sites.length (fun i=>(0,i,())) (fun i=>some (if decide (TQ p.Name ((p.Sites.take i).map fun s=>s.Decl.Name) (p.Sites.drop i)≠0)=true then TQ p.Name ((p.Sites.take i).map fun s=>s.Decl.Name) (p.Sites.drop i) else T)) (fun self i hi e=>by
  have hx:=List.getElem?_eq_getElem hi
  have ht:((p.Sites.take (i + 1)).map fun s=>s.Decl.Name)=((p.Sites.take i).map fun s=>s.Decl.Name) ++ [p.Sites[i].Decl.Name]:=by
   rw [List.take_succ,hx,List.map_append]; rfl
  have mem:=List.getElem_mem hi
  rw [List.drop_eq_getElem_cons hi,TQ]
  rw [ht] at e
  generalize p.Sites[i]=x at hx e mem
  have hz:=ZxU p mem
  have ok:=h.Sites.2 x mem
  have hr:=ok.Routines.1
  have e1:=Zq4 L h1 p.Name h.Name (by have:=Zu p.Name; omega) x.Decl ok.Decl (by omega)
  have e2:=ZsK L x (by omega) (by have:=Zu x.Routines; omega)
  rw [KG]
  simp only [Ze hi,cond_true,Zd,hx,Zq,Za,e1,Zw,ZvR L p (by omega) self i x hx hi hne e2,wrap_succ hi (by omega),e]
  by_cases a:M1 p.Name x.Decl=0
  ·by_cases b:x.Decl.Name ∈ (p.Sites.take i).map fun s=>s.Decl.Name
   ·rw [List.contains_iff_mem.2 b]
    simp only [a,ne_eq,not_true_eq_false,decide_false,decide_true,Bool.not_true,Bool.not_false,Bool.false_eq_true,if_false,if_true,cond_true,cond_false] <;> rfl
   ·have b':((p.Sites.take i).map fun s=>s.Decl.Name).contains x.Decl.Name=false:=by rw [← Bool.not_eq_true,List.contains_iff_mem]; exact b
    rw [b']
    rcases Bool.eq_false_or_eq_true (agB x) with g | g <;> simp only [a,g,ne_eq,not_true_eq_false,decide_false,decide_true,Bool.not_true,Bool.not_false,Bool.false_eq_true,if_false,if_true,cond_true,cond_false] <;> rfl
  ·simp [a]) (fun self=>by
  rw [KG,List.drop_length]; simp only [Zb,cond_false,hT,TQ]; rfl) L 0 (Nat.zero_le _) (by omega)
 rw [List.drop_zero] at this
 exact this
end Go.Proofs.YtleomfgijkapfaaGreatDoor
end
section
namespace Go.Proofs.YtleomfgijkapfaaGreatDoor
open Go Go.Proofs.YtleomfgijkapfaaGreatDoor.Abs Go.Proofs.YtleomfgijkapfaaGreatDoor.Tl
set_option maxRecDepth 100000
def rX (V:Int→Y8→Int):Int→List Z4→Int
 | _,[]=>0
 | i,x :: r=>if decide (Y2 (V i) x.Routines≠0)=true then Y2 (V i) x.Routines else rX V (i + 1) r
theorem ZrG (L:Nat)(p:Zm)(V:Int→Y8→Int)(self:Int×Int×List (List UInt8)×PUnit→Option Int)(i:Nat)(seen s0:Seen)(y:Z4)(hl:y.Routines.length≤4611686018427387)(hL:y.Routines.length < L)(hV:∀ c ∈ y.Routines,Qu L (p,(i:Int),c,())=some (V i c)) :
  Zo (JF p L self (0,(i:Int),s0,()) y) L (0,0,seen,())=if decide (Y2 (V i) y.Routines≠0)=true then some (Y2 (V i) y.Routines) else self (0,IntKind.i64.wrap ((i:Int) + 1),seen,()):=by
 have:=ZiF (f := JF p L self (0,(i:Int),s0,()) y) y.Routines (fun (_:Unit) j=>(0,j,seen,())) (fun l _=>if decide (Y2 (V i) l≠0)=true then some (Y2 (V i) l) else self (0,IntKind.i64.wrap ((i:Int) + 1),seen,())) (fun self1 s j x r hx hi mem e=>by
  rw [JF]
  simp only [Ze hi,cond_true,Zd,hx,Zq,hV x mem,Zw,wrap_succ hi (by omega),e (),Y2]
  by_cases a:V i x=0 <;> simp [a]) (fun self1 s=>by rw [JF]; simp only [Zb,cond_false,Y2]; rfl) L 0 () (Nat.zero_le _) (by omega)
 rw [List.drop_zero] at this
 exact this
theorem Zy2 (L:Nat)(p:Zm)(V:Int→Y8→Int)(h:p.Sites.length≤4611686018427387)(hL:p.Sites.length < L)(hr:∀ y ∈ p.Sites,y.Routines.length≤4611686018427387∧y.Routines.length < L)(hV:∀ (i:Nat) y,p.Sites[i]? = some y→∀ c ∈ y.Routines,Qu L (p,(i:Int),c,())=some (V i c))(seen:Seen) :
  Zo (Vp p L) L (0,0,seen,())=some (rX V 0 p.Sites):=by
 have:=Zdu (f := Vp p L) p.Sites.length (fun i=>(0,i,seen,())) (fun i=>some (rX V i (p.Sites.drop i))) (fun self i hi e=>by
  have hx:=List.getElem?_eq_getElem hi
  have mem:=List.getElem_mem hi
  rw [List.drop_eq_getElem_cons hi,rX]
  generalize p.Sites[i]=y at hx mem
  rw [Vp]
  simp only [Ze hi,cond_true,Zd,hx,Zq,ZrG L p V self i seen seen y (hr y mem).1 (hr y mem).2 (hV i y hx),wrap_succ hi (by omega),e]
  by_cases a:Y2 (V i) y.Routines=0 <;> simp [a]) (fun self=>by rw [Vp,List.drop_length]; simp only [Zb,cond_false,rX]) L 0 (Nat.zero_le _) (by omega)
 rw [List.drop_zero] at this
 exact this
theorem Zta (L:Nat)(p:Zm)(V:Int→Y8→Int)(self:Int×Int×PUnit→Option Int)(i:Nat)(e0 n:Int)(y:Z4)(hy:p.Sites[i]? = some y)(hl:y.Routines.length≤4611686018427387)(hL:y.Routines.length < L)(hV:∀ c ∈ y.Routines,WA L (p,(i:Int),c,())=some (V i c)) :
  Zo (KF p L self (e0,(i:Int),())) L (n,0,())=self (if decide (n=0)=true then Y2 (V i) y.Routines else n,IntKind.i64.wrap ((i:Int) + 1),()):=by
 refine Zb5 (f := KF p L self (e0,(i:Int),())) y.Routines (fun l n=>self (if decide (n=0)=true then Y2 (V i) l else n,IntKind.i64.wrap ((i:Int) + 1),())) hL n (fun self1 n j x r hx hi mem e=>?_) (fun self1 n=>?_)
 ·rw [KF]
  simp only [Zd,hy,Zq,Za,Ze hi,cond_true,hx,hV x mem,Zx,wrap_succ hi (by omega),e,Y2]
  by_cases a:n=0
  ·by_cases b:V i x=0 <;> simp [a,b]
  ·simp [a]
 ·rw [KF]
  simp only [Zd,hy,Zq,Zb,cond_false,Y2]
  by_cases a:n=0 <;> simp [a]
theorem Zzp (L:Nat)(p:Zm)(V:Int→Y8→Int)(h:p.Sites.length≤4611686018427387)(hL:p.Sites.length < L)(hr:∀ y ∈ p.Sites,y.Routines.length≤4611686018427387∧y.Routines.length < L)(hV:∀ (i:Nat) y,p.Sites[i]? = some y→∀ c ∈ y.Routines,WA L (p,(i:Int),c,())=some (V i c))(n:Int) :
  Zo (Xu p L) L (n,0,())=some (if decide (n=0)=true then rX V 0 p.Sites else n):=by
 have key:∀ (m i:Nat) (n:Int),i≤p.Sites.length→p.Sites.length - i < m→Zo (Xu p L) m (n,(i:Int),())=some (if decide (n=0)=true then rX V i (p.Sites.drop i) else n):=by
  intro m
  induction m with
  | zero=>intro i n _ h; exact absurd h (Nat.not_lt_zero _)
  | succ m ih =>
   intro i n hi hm
   show Xu p L (Zo (Xu p L) m) (n,(i:Int),())=_
   rcases Nat.lt_or_ge i p.Sites.length with hlt | hge
   ·have hx:=List.getElem?_eq_getElem hlt
    have mem:=List.getElem_mem hlt
    rw [List.drop_eq_getElem_cons hlt,rX]
    generalize p.Sites[i]=y at hx mem
    rw [Xu]
    simp only [Ze hlt,cond_true,Zta L p V _ i n n y hx (hr y mem).1 (hr y mem).2 (hV i y hx),wrap_succ hlt (by omega)]
    rw [show ((i:Int) + 1)=((i + 1:Nat):Int) from rfl,ih (i + 1) _ hlt (by omega)]
    by_cases a:n=0
    ·by_cases b:Y2 (V i) y.Routines=0 <;> simp [a,b]
    ·simp [a]
   ·have:i=p.Sites.length:=by omega
    subst this
    rw [Xu,List.drop_length]; simp only [Zb,cond_false,rX]
    by_cases a:n=0 <;> simp [a]
 have:=key L 0 n (Nat.zero_le _) (by omega)
 rw [List.drop_zero] at this
 exact this
end Go.Proofs.YtleomfgijkapfaaGreatDoor
end
section
namespace Go.Proofs.YtleomfgijkapfaaGreatDoor
open Go Go.Proofs.YtleomfgijkapfaaGreatDoor.Abs Go.Proofs.YtleomfgijkapfaaGreatDoor.Tl
set_option maxRecDepth 100000
theorem ZfG (L:Nat)(h1:1000≤L)(p:Zm)(h:JB p)(hL:2 * SizeOf.sizeOf p≤L):∃ v,KP L (p,())=some v∧ZeC L (p,())=some v:=by
 have h3:SizeOf.sizeOf p.Sites < SizeOf.sizeOf p∧SizeOf.sizeOf p.Name < SizeOf.sizeOf p∧SizeOf.sizeOf p.Links < SizeOf.sizeOf p:=by cases p; simp; omega
 have h4:=Zu p.Sites; have h5:=Zu p.Links; have h6:=Zu p.Name
 have hs:=h.Sites.1; have hl:=h.Links.1
 have hn1:=X0 L p.Name (by have:=h.Name; unfold Len; omega) (by omega)
 have hn2:=U4 L p.Name (by have:=h.Name; unfold Len; omega) (by omega) (by omega)
 have hr:∀ y ∈ p.Sites,y.Routines.length≤4611686018427387∧y.Routines.length < L:=fun y mem=>by
  have hz:=ZxU p mem
  have:=(h.Sites.2 y mem).Routines.1
  have:=Zu y.Routines
  omega
 have hV:∀ (i:Nat) y,p.Sites[i]? = some y→∀ c ∈ y.Routines,Qu L (p,(i:Int),c,())=some ((WA L (p,(i:Int),c,())).getD 0)∧WA L (p,(i:Int),c,())=some ((WA L (p,(i:Int),c,())).getD 0):=fun i y hy c hc=>by
  have mem:=List.mem_of_getElem? hy
  have hz:=ZxU p mem
  have:=List.sizeOf_lt_of_mem hc
  obtain ⟨v,e1,e2⟩:=Zj2 L h1 p (by omega) (by omega) (i:Int) y (by rw [Zd]; exact hy) c ((h.Sites.2 y mem).Routines.2 c hc) (by omega)
  rw [e1,e2]; exact ⟨rfl,rfl⟩
 obtain ⟨V,hV'⟩:∃ V:Int→Y8→Int,∀ (i:Nat) y,p.Sites[i]? = some y→∀ c ∈ y.Routines,Qu L (p,(i:Int),c,())=some (V i c)∧WA L (p,(i:Int),c,())=some (V i c):=⟨fun i c=>(WA L (p,i,c,())).getD 0,hV⟩
 have ca:=Zvz L p (by omega) (by omega)
 have ra:=Zv8 L p (by omega) (by omega)
 generalize (if decide (32 < (p.Links.length:Int))=true then 6 else ZcN p [] p.Links)=A at ca ra
 have c1:=Zun L h1 p h hL (by omega) (if decide (A=0)=true then rX V 0 p.Sites else A) (fun seen=>by
  rw [ca,Zq,Zy2 L p V (by omega) (by omega) hr (fun i y hy c hc=>(hV' i y hy c hc).1) seen,Zw]
  by_cases a:A=0 <;> simp [a])
 have r1:=ZvL L h1 p h hL (by omega) (if decide (A=0)=true then rX V 0 p.Sites else A) (by
  rw [ra,Zq,Zzp L p V (by omega) (by omega) hr (fun i y hy c hc=>(hV' i y hy c hc).2) A])
 refine ⟨_,by rw [Zja]; simp only [c1,hn1,Zq,Zx,Zw,Zh]; rfl,?_⟩
 rw [Zlt]; simp only [r1,hn2,Zq,Zx,Zw,Zh]
end Go.Proofs.YtleomfgijkapfaaGreatDoor
end
section
namespace Go.Proofs.YtleomfgijkapfaaGreatDoor
open Go Go.Proofs.YtleomfgijkapfaaGreatDoor.Abs Go.Proofs.YtleomfgijkapfaaGreatDoor.Tl
set_option maxRecDepth 100000
theorem ZpY {τ σ ρ:Type}{f:(τ→Option ρ)→τ→Option ρ}(n:Nat)(pk:σ→Int→τ)
  (h1:∀ self s (i:Nat),i < n→(∀ s',∃ r,self (pk s' ((i:Int) + 1))=some r)→∃ r,f self (pk s i)=some r)
  (h2:∀ self s,∃ r,f self (pk s n)=some r):∀ (m i:Nat) (s:σ),i≤n→n - i < m→∃ r,Zo f m (pk s i)=some r
 | 0,_,_,_,h=>absurd h (Nat.not_lt_zero _)
 | m + 1,i,s,hi,hm=>by
  show ∃ r,f (Zo f m) (pk s i)=some r
  rcases Nat.lt_or_ge i n with hlt | hge
  ·exact h1 _ s i hlt fun s'=>ZpY n pk h1 h2 m (i + 1) s' hlt (by omega)
  ·have:i=n:=by omega
   subst this
   exact h2 _ s
theorem Zv3 (L:Nat)(c:Y8)(h:c.Instrs.length≤4611686018427387)(hL:c.Instrs.length < L):∃ r,Uc L (c,())=some r:=by
 rw [Zhh]
 exact ZpY (f := UJ c) c.Instrs.length (fun (_:Unit) i=>(i,())) (fun self _ i hi e=>by
  have hx:=List.getElem?_eq_getElem hi
  generalize c.Instrs[i]=x at hx
  obtain ⟨r,e⟩:=e ()
  rw [UJ]
  simp only [Ze hi,cond_true,Zd,hx,Zq,wrap_succ hi (by omega),e,Zh]
  exact ⟨_,rfl⟩) (fun self _=>by rw [UJ]; simp only [Zb,cond_false]; exact ⟨_,rfl⟩) L 0 () (Nat.zero_le _) (by omega)
theorem ZwA (L:Nat)(self:Bool×Int×PUnit→Option Bool)(i:Nat)(b0:Bool)(y:Z4)(hs:∀ b,∃ r,self (b,IntKind.i64.wrap ((i:Int) + 1),())=some r)(hl:y.Decl.Routines.length≤4611686018427387)(hL:y.Decl.Routines.length < L)(hc:∀ r ∈ y.Decl.Routines,∃ n,UC L (r.Body,())=some n)(b:Bool):∃ r,Zo (Kw L self (b0,(i:Int),()) y) L (b,0,())=some r :=
 ZpY (f := Kw L self (b0,(i:Int),()) y) y.Decl.Routines.length (fun b i=>(b,i,())) (fun self1 b j hj e=>by
  have hx:=List.getElem?_eq_getElem hj
  have mem:=List.getElem_mem hj
  generalize y.Decl.Routines[j]=x at hx mem
  obtain ⟨r,e⟩:=e b
  obtain ⟨n,hn⟩:=hc x mem
  rw [Kw]
  simp only [Ze hj,cond_true,Zd,hx,Zq,hn,wrap_succ hj (by omega),e,Zh]
  exact ⟨_,rfl⟩) (fun self1 b=>by rw [Kw]; simp only [Zb,cond_false]; exact hs b) L 0 b (Nat.zero_le _) (by omega)
theorem ZwB (L:Nat)(p:Zm)(self:Bool×Int×PUnit→Option Bool)(i:Nat)(b0:Bool)(y:Z4)(hy:p.Sites[i]? = some y)(hs:∀ b,∃ r,self (b,IntKind.i64.wrap ((i:Int) + 1),())=some r)(hl:y.Decl.Routines.length≤4611686018427387)(hL:y.Decl.Routines.length < L)(hc:∀ r ∈ y.Decl.Routines,∃ n,UC L (r.Body,())=some n)(hl2:y.Routines.length≤4611686018427387)(hL2:y.Routines.length < L)(hg:∀ c ∈ y.Routines,∃ r,Uc L (c,())=some r)(b:Bool):∃ r,Zo (Ky p L self (b0,(i:Int),()) y) L (b,0,())=some r :=
 ZpY (f := Ky p L self (b0,(i:Int),()) y) y.Routines.length (fun b i=>(b,i,())) (fun self1 b j hj e=>by
  have hx:=List.getElem?_eq_getElem hj
  have mem:=List.getElem_mem hj
  generalize y.Routines[j]=x at hx mem
  obtain ⟨r,e⟩:=e b
  obtain ⟨n,hn⟩:=hg x mem
  rw [Ky]
  simp only [Zd,hy,Ze hj,cond_true,hx,Zq,hn,wrap_succ hj (by omega),e,Zh]
  exact ⟨_,rfl⟩) (fun self1 b=>by
  rw [Ky]; simp only [Zd,hy,Zq,Zb,cond_false]; exact ZwA L self i b0 y hs hl hL hc b) L 0 b (Nat.zero_le _) (by omega)
theorem Zx5 (L:Nat)(p:Zm)(h:JB p)(hL:2 * SizeOf.sizeOf p≤L):∃ b,IZ L (p,())=some b:=by
 have h3:SizeOf.sizeOf p.Sites < SizeOf.sizeOf p:=by cases p; simp; omega
 have h4:=Zu p.Sites; have hs:=h.Sites.1
 rw [ZkZ]
 exact ZpY (f := Ov p L) p.Sites.length (fun b i=>(b,i,())) (fun self b i hi e=>by
  have hx:=List.getElem?_eq_getElem hi
  have mem:=List.getElem_mem hi
  generalize p.Sites[i]=y at hx mem
  have hz:=ZxU p mem
  have ok:=h.Sites.2 y mem
  have hzd:=Vh y.Decl
  have k1:=Zu y.Decl.Routines; have k2:=Zu y.Routines
  have o1:=ok.Decl.Routines.1; have o2:=ok.Routines.1
  obtain ⟨r,hr⟩:=ZwB L p self i b y hx (fun b'=>by rw [wrap_succ hi (by omega)]; exact e b') (by omega) (by omega) (fun r hr=>by
   have hm:=List.sizeOf_lt_of_mem hr
   have hrz:=ZjO r
   exact ⟨_,AQ L L r.Body (ok.Decl.Routines.2 r hr).p.2.2 (by omega) (Nat.le_refl _)⟩) (by omega) (by omega) (fun c hc=>by
   have hm:=List.sizeOf_lt_of_mem hc
   have hcz:=ZhH c
   have:=Zu c.Instrs
   have:=(ok.Routines.2 c hc).Instrs.1
   exact Zv3 L c (by omega) (by omega)) b
  rw [Ov]
  simp only [Ze hi,cond_true,Zd,hx,Zq,hr,Zh]
  exact ⟨_,rfl⟩) (fun self b=>by rw [Ov]; simp only [Zb,cond_false]; exact ⟨_,rfl⟩) L 0 false (Nat.zero_le _) (by omega)
end Go.Proofs.YtleomfgijkapfaaGreatDoor
end
noncomputable section
namespace Go.Proofs.YtleomfgijkapfaaGreatDoor
open Go Go.Proofs.YtleomfgijkapfaaGreatDoor.Abs Go.Proofs.YtleomfgijkapfaaGreatDoor.Tl
set_option maxRecDepth 100000
set_option maxHeartbeats 0
def Jd (L:Nat)(x:(List ZZ)×(List ZZ)×PUnit):Option Bool:=fT [Jz L,Ia L] L Rl [.rnd [.slot 4 .bool,.slot 5 (.int .i64)],.rnd [.slot 4 .bool,.slot 8 (.int .i64)]] (.one .bool) [.lst 20 (.row 15),.lst 20 (.row 15)] x
def RQ (L:Nat):Sum tT:=mU 20 [.lst 20 (.row 15),.lst 20 (.row 15)] (.one .bool) (Jd L)
theorem ZbS:SX RQ:=fun h=>sT h (Zg (Pz h) (Zg (P5 h) Zz)) rfl (by kernel_rfl) fun _=>rfl
def V4:Nat→(Bool×Int×PUnit→Option Bool)→Bool×Int×PUnit→ZZ→ZZ→(Bool×Int×PUnit→Option Bool)→Bool×Int×PUnit→Option Bool:=fun L self acc y y_1 self_1 acc_1=>bif decide (acc_1.2.1 < (↑y.7.length:Int)) then bT (Z8 y.7 acc_1.2.1) fun y=>bT (Z8 y_1.7 acc_1.2.1) fun y_2=>bT (bT (Qv L (y,y_2,())) fun y=>some y) fun y=>bif !y then some false else self_1 (acc_1.1,Go.IntKind.i64.wrap (acc_1.2.1 + 1),()) else self (acc_1.1,Go.IntKind.i64.wrap (acc.2.1 + 1),())
def Xj:List ZZ→List ZZ→Nat→(Bool×Int×PUnit→Option Bool)→Bool×Int×PUnit→Option Bool:=fun x0 x1 L self acc=>bif decide (acc.2.1 < (↑x0.length:Int)) then bT (Z8 x0 acc.2.1) fun y=>bT (Z8 x1 acc.2.1) fun y_1=>bif y.1 != y_1.1 || y.2 != y_1.2 || y.3 != y_1.3 || y.4 != y_1.4 || !y.9 == y_1.9 || (↑y.7.length:Int) != (↑y_1.7.length:Int) then some false else bT (Qv L (y.5,y_1.5,())) fun y_2=>bT (bif (!y_2) == false then bT (Qv L (y.6,y_1.6,())) fun y=>some !y else some true) fun y_3=>bT (bif y_3 == false then bT (QG L (y.8,y_1.8,())) fun y=>some !y else some true) fun y_4=>bif y_4 then some false else Zo (V4 L self acc y y_1) L (acc.1,0,()) else some true
theorem ZbI (L:Nat)(x0:(List ZZ))(x1:(List ZZ)):Jd L (x0,x1,())=bif (↑x0.length:Int) != (↑x1.length:Int) then some false else Zo (Xj x0 x1 L) L (false,0,()):=by kernel_rfl
def UX (L:Nat)(x:Y8×Y8×PUnit):Option Bool:=fT [RQ L] L N7 [] (.one .bool) [.row 16,.row 16] x
def NP (L:Nat):Sum tT:=mU 55 [.row 16,.row 16] (.one .bool) (UX L)
theorem Zfj:SX NP:=fun h=>sT h (Zg (ZbS h) Zz) rfl (by kernel_rfl) fun _=>rfl
theorem Zfd (L:Nat)(x0:Y8)(x1:Y8):UX L (x0,x1,())=bT (bif (x0.1 == x1.1 && x0.2 == x1.2 && x0.3 == x1.3) == true then bT (Jd L (x0.4,x1.4,())) fun y=>some y else some false) fun y=>some y:=by kernel_rfl
def Hw (L:Nat)(x:RV×RV×PUnit):Option Bool:=fT [] L Ad [.rnd [.slot 5 (.int .i64)]] (.one .bool) [.row 13,.row 13] x
def FK (L:Nat):Sum tT:=mU 106 [.row 13,.row 13] (.one .bool) (Hw L)
theorem Zh8:SX FK:=fun h=>sT h Zz rfl (by kernel_rfl) fun _=>rfl
def UO:RV→RV→(Int×PUnit→Option Bool)→Int×PUnit→Option Bool:=fun x0 x1 self acc=>bif decide (acc.1 < (↑x0.2.length:Int)) then bT (Z8 x0.2 acc.1) fun y=>bT (Z8 x1.2 acc.1) fun y_1=>bif !(y.1 == y_1.1 && (y.2 == y_1.2 && (y.3 == y_1.3 && true))) then some false else self (Go.IntKind.i64.wrap (acc.1 + 1),()) else some true
theorem Zhr (L:Nat)(x0:RV)(x1:RV):Hw L (x0,x1,())=bif !x0.1 == x1.1 || x0.3 != x1.3 || (↑x0.2.length:Int) != (↑x1.2.length:Int) then some false else Zo (UO x0 x1) L (0,()):=by kernel_rfl
def UW (L:Nat)(x:(List Int)×(List Int)×PUnit):Option Bool:=fT [] L Nz [.rnd [.slot 5 (.int .i64)]] (.one .bool) [.lst 1 (.int .i64),.lst 1 (.int .i64)] x
def NM (L:Nat):Sum tT:=mU 105 [.lst 1 (.int .i64),.lst 1 (.int .i64)] (.one .bool) (UW L)
theorem Zfi:SX NM:=fun h=>sT h Zz rfl (by kernel_rfl) fun _=>rfl
def Iz:List Int→List Int→(Int×PUnit→Option Bool)→Int×PUnit→Option Bool:=fun x0 x1 self acc=>bif decide (acc.1 < (↑x0.length:Int)) then bT (Z8 x0 acc.1) fun y=>bT (Z8 x1 acc.1) fun y_1=>bif y != y_1 then some false else self (Go.IntKind.i64.wrap (acc.1 + 1),()) else some true
theorem Zfc (L:Nat)(x0:(List Int))(x1:(List Int)):UW L (x0,x1,())=bif (↑x0.length:Int) != (↑x1.length:Int) then some false else Zo (Iz x0 x1) L (0,()):=by kernel_rfl
def Uh (L:Nat)(x:(List Zt)×(List Zt)×PUnit):Option Bool:=fT [Ia L] L BJ [.rnd [.slot 5 (.int .i64)]] (.one .bool) [.lst 4 (.row 8),.lst 4 (.row 8)] x
def IR (L:Nat):Sum tT:=mU 176 [.lst 4 (.row 8),.lst 4 (.row 8)] (.one .bool) (Uh L)
theorem Dz:SX IR:=fun h=>sT h (Zg (P5 h) Zz) rfl (by kernel_rfl) fun _=>rfl
def Gl:List Zt→List Zt→Nat→(Int×PUnit→Option Bool)→Int×PUnit→Option Bool:=fun x0 x1 L self acc=>bif decide (acc.1 < (↑x0.length:Int)) then bT (Z8 x0 acc.1) fun y=>bT (Z8 x1 acc.1) fun y_1=>bT (bT (Qv L (y,y_1,())) fun y=>some y) fun y=>bif !y then some false else self (Go.IntKind.i64.wrap (acc.1 + 1),()) else some true
theorem ZdM (L:Nat)(x0:(List Zt))(x1:(List Zt)):Uh L (x0,x1,())=bif (↑x0.length:Int) != (↑x1.length:Int) then some false else Zo (Gl x0 x1 L) L (0,()):=by kernel_rfl
def Eo (L:Nat):Nat→List (Sum tT)
 | 0=>[⟨104,[.lst 21 (.row 9),.lst 21 (.row 9)],fun _=>.par _ none ((.one (.bool):RD).tv tT)⟩]
 | m + 1=>[⟨104,[.lst 21 (.row 9),.lst 21 (.row 9)],fun x=>.par _ (fnT tF tG (qOf tF (Eo L m ++ [Jz L,IR L,Ia L])) 0 L Cb [.rnd [.slot 5 (.int .i64)]] (.one (.bool)) (tvL tT [.lst 21 (.row 9),.lst 21 (.row 9)] x) []) ((.one (.bool):RD).tv tT)⟩]
theorem NG {C:Cfg}{L:Nat}(h:St C L):∀ m,∀ s ∈ Eo L m,XV C s
 | 0=>(Zg (XO _ _ _) Zz)
 | m + 1=>have ih:=NG h m
  (Zg (WG YV h.L h.G (QL YV (Kt ih (Zg (Pz h) (Zg (Dz h) (Zg (P5 h) Zz))))) [.rnd [.slot 5 (.int .i64)]] (h.T _ _ rfl) (by kernel_rfl) fun _=>rfl) Zz)
def Oe (L m:Nat)(x:(List Zy)×(List Zy)×PUnit):Option (Bool):=fnT tF tG (qOf tF (Eo L m ++ [Jz L,IR L,Ia L])) 0 L Cb [.rnd [.slot 5 (.int .i64)]] (.one (.bool)) (tvL tT [.lst 21 (.row 9),.lst 21 (.row 9)] x) []
def Zao (L:Nat)(x:(List Zy)×(List Zy)×PUnit):Option (Bool):=Oe L L x
def Zgo (L:Nat):Sum tT:=⟨104,[.lst 21 (.row 9),.lst 21 (.row 9)],fun x=>.par ((.one (.bool):RD).Ty tT) (Zao L x) ((.one (.bool):RD).tv tT)⟩
theorem Zo0 {C:Cfg}{L:Nat}(h:St C L):XV C (Zgo L):=have ih:=NG h L
 WG YV h.L h.G (QL YV (Kt ih (Zg (Pz h) (Zg (Dz h) (Zg (P5 h) Zz))))) [.rnd [.slot 5 (.int .i64)]] (h.T _ _ rfl) (by kernel_rfl) fun _=>rfl
def Ed:Nat→List Zy→List Zy→Nat→(Int×PUnit→Option Bool)→Int×PUnit→Option Bool:=fun (m:Nat)=>fun x0 x1 L self acc=>bif decide (acc.1 < (↑x0.length:Int)) then bT (Z8 x0 acc.1) fun y=>bT (Z8 x1 acc.1) fun y_1=>bT (bif (y.1 != y_1.1 || !y.2 == y_1.2 || !y.3 == y_1.3 || !y.8 == y_1.8) == false then bT (Qv L (y.4,y_1.4,())) fun y=>some !y else some true) fun y_2=>bT (bif y_2 == false then bT (Qv L (y.5,y_1.5,())) fun y=>some !y else some true) fun y_3=>bif y_3 then some false else bT (Uh L (y.6,y_1.6,())) fun y_4=>bT (bif (!y_4) == false then bT (QG L (y.7,y_1.7,())) fun y=>some !y else some true) fun y_5=>bT (bif y_5 == false then bT (Oe L m (y.9,y_1.9,())) fun y=>some !y else some true) fun y_6=>bT (bif y_6 == false then bT (Oe L m (y.10,y_1.10,())) fun y=>some !y else some true) fun y=>bif y then some false else self (Go.IntKind.i64.wrap (acc.1 + 1),()) else some true
theorem Zok (L m:Nat)(x0:(List Zy))(x1:(List Zy)):Oe L (m + 1) (x0,x1,())=bif (↑x0.length:Int) != (↑x1.length:Int) then some false else Zo (Ed m x0 x1 L) L (0,()):=by kernel_rfl
def XD (L:Nat)(x:(List Y1)×(List Y1)×PUnit):Option Bool:=fT [] L Rj [.rnd [.slot 5 (.int .i64)]] (.one .bool) [.lst 2 (.row 7),.lst 2 (.row 7)] x
def RN (L:Nat):Sum tT:=mU 103 [.lst 2 (.row 7),.lst 2 (.row 7)] (.one .bool) (XD L)
theorem ZbQ:SX RN:=fun h=>sT h Zz rfl (by kernel_rfl) fun _=>rfl
def U5:List Y1→List Y1→(Int×PUnit→Option Bool)→Int×PUnit→Option Bool:=fun x0 x1 self acc=>bif decide (acc.1 < (↑x0.length:Int)) then bT (Z8 x0 acc.1) fun y=>bT (Z8 x1 acc.1) fun y_1=>bif !(y.1 == y_1.1 && (y.2 == y_1.2 && true)) then some false else self (Go.IntKind.i64.wrap (acc.1 + 1),()) else some true
theorem ZbG (L:Nat)(x0:(List Y1))(x1:(List Y1)):XD L (x0,x1,())=bif (↑x0.length:Int) != (↑x1.length:Int) then some false else Zo (U5 x0 x1) L (0,()):=by kernel_rfl
def XR (L:Nat)(x:Zn×Zn×PUnit):Option Bool:=fT [Jz L] L Om [.rnd [.slot 5 (.int .i64)]] (.one .bool) [.row 4,.row 4] x
def O9 (L:Nat):Sum tT:=mU 102 [.row 4,.row 4] (.one .bool) (XR L)
theorem Fj:SX O9:=fun h=>sT h (Zg (Pz h) Zz) rfl (by kernel_rfl) fun _=>rfl
def X3:Zn→Zn→Nat→(Int×PUnit→Option Bool)→Int×PUnit→Option Bool:=fun x0 x1 L self acc=>bif decide (acc.1 < (↑x0.3.length:Int)) then bT (Z8 x0.3 acc.1) fun y=>bT (Z8 x1.3 acc.1) fun y_1=>bif !(y.1 == y_1.1 && (y.2 == y_1.2 && true)) then some false else self (Go.IntKind.i64.wrap (acc.1 + 1),()) else bT (QG L (x0.Fault.2,x1.Fault.2,())) fun y=>bT (bif y == true then bT (QG L (x0.Fault.3,x1.Fault.3,())) fun y=>some y else some false) fun y=>some y
theorem Fa (L:Nat)(x0:Zn)(x1:Zn):XR L (x0,x1,())=bif !x0.1 == x1.1 || x0.2 != x1.2 || (↑x0.3.length:Int) != (↑x1.3.length:Int) || x0.4 != x1.4 || !x0.Fault.1 == x1.Fault.1 then some false else Zo (X3 x0 x1 L) L (0,()):=by kernel_rfl
def WW (L:Nat)(x:(List (List UInt8))×(List (List UInt8))×PUnit):Option Bool:=fT [] L BK [.rnd [.slot 5 (.int .i64)]] (.one .bool) [.lst 1 .str,.lst 1 .str] x
def DR (L:Nat):Sum tT:=mU 101 [.lst 1 .str,.lst 1 .str] (.one .bool) (WW L)
theorem Zee:SX DR:=fun h=>sT h Zz rfl (by kernel_rfl) fun _=>rfl
def Gm:List (List UInt8)→List (List UInt8)→(Int×PUnit→Option Bool)→Int×PUnit→Option Bool:=fun x0 x1 self acc=>bif decide (acc.1 < (↑x0.length:Int)) then bT (Z8 x0 acc.1) fun y=>bT (Z8 x1 acc.1) fun y_1=>bif !y == y_1 then some false else self (Go.IntKind.i64.wrap (acc.1 + 1),()) else some true
theorem ZdN (L:Nat)(x0:(List (List UInt8)))(x1:(List (List UInt8))):WW L (x0,x1,())=bif (↑x0.length:Int) != (↑x1.length:Int) then some false else Zo (Gm x0 x1) L (0,()):=by kernel_rfl
def Jc (L:Nat)(x:(List WO)×(List WO)×PUnit):Option Bool:=fT [] L Rk [.rnd [.slot 5 (.int .i64)]] (.one .bool) [.lst 3 (.row 0),.lst 3 (.row 0)] x
def RP (L:Nat):Sum tT:=mU 100 [.lst 3 (.row 0),.lst 3 (.row 0)] (.one .bool) (Jc L)
theorem ZbR:SX RP:=fun h=>sT h Zz rfl (by kernel_rfl) fun _=>rfl
def U6:List WO→List WO→(Int×PUnit→Option Bool)→Int×PUnit→Option Bool:=fun x0 x1 self acc=>bif decide (acc.1 < (↑x0.length:Int)) then bT (Z8 x0 acc.1) fun y=>bT (Z8 x1 acc.1) fun y_1=>bif !(y.1 == y_1.1 && (y.2 == y_1.2 && (y.3 == y_1.3 && true))) then some false else self (Go.IntKind.i64.wrap (acc.1 + 1),()) else some true
theorem ZbH (L:Nat)(x0:(List WO))(x1:(List WO)):Jc L (x0,x1,())=bif (↑x0.length:Int) != (↑x1.length:Int) then some false else Zo (U6 x0 x1) L (0,()):=by kernel_rfl
def UT (L:Nat)(x:Zc×Zc×PUnit):Option Bool:=fT [FK L,NM L,Zgo L,RN L,O9 L,DR L,RP L] L Nu [.rnd [.slot 4 .bool,.slot 5 (.int .i64)],.rnd [.slot 4 .bool,.slot 6 (.int .i64)],.rnd [.slot 4 .bool,.slot 7 (.int .i64)],.rnd [.slot 4 .bool,.slot 8 (.int .i64)],.rnd [.slot 4 .bool,.slot 11 (.int .i64)],.rnd [.slot 14 (.int .i64)]] (.one .bool) [.row 14,.row 14] x
def NL (L:Nat):Sum tT:=mU 54 [.row 14,.row 14] (.one .bool) (UT L)
theorem Zfh:SX NL:=fun h=>sT h (Zg (Zh8 h) (Zg (Zfi h) (Zg (Zo0 h) (Zg (ZbQ h) (Zg (Fj h) (Zg (Zee h) (Zg (ZbR h) Zz))))))) rfl (by kernel_rfl) fun _=>rfl
def JP:Zc→Zc→Nat→(Int×PUnit→Option Bool)→Int×PUnit→Option Bool:=fun x0 x1 L self acc=>bif decide (acc.1 < (↑x0.13.length:Int)) then bT (Z8 x0.13 acc.1) fun y=>bT (Z8 x1.13 acc.1) fun y_1=>bT (bT (Hw L (y,y_1,())) fun y=>some y) fun y=>bif !y then some false else self (Go.IntKind.i64.wrap (acc.1 + 1),()) else some true
def JQ:Zc→Zc→Nat→(Bool×Int×PUnit→Option Bool)→Bool×Int×PUnit→Option Bool:=fun x0 x1 L self acc=>bif decide (acc.2.1 < (↑x0.12.length:Int)) then bT (Z8 x0.12 acc.2.1) fun y=>bT (Z8 x1.12 acc.2.1) fun y_1=>bT (bif (!y.1 == y_1.1 || y.3 != y_1.3 || y.4 != y_1.4 || y.5 != y_1.5) == false then bT (UW L (y.2,y_1.2,())) fun y=>some !y else some true) fun y=>bif y then some false else self (acc.1,Go.IntKind.i64.wrap (acc.2.1 + 1),()) else Zo (JP x0 x1 L) L (0,())
def JR:Zc→Zc→Nat→(Bool×Int×PUnit→Option Bool)→Bool×Int×PUnit→Option Bool:=fun x0 x1 L self acc=>bif decide (acc.2.1 < (↑x0.11.length:Int)) then bT (Z8 x0.11 acc.2.1) fun y=>bT (Z8 x1.11 acc.2.1) fun y_1=>bT (bif (!y.1 == y_1.1) == false then bT (XD L (y.2,y_1.2,())) fun y=>some !y else some true) fun y_2=>bT (bif y_2 == false then bT (XD L (y.3,y_1.3,())) fun y=>some !y else some true) fun y_3=>bT (bif y_3 == false then bT (Zao L (y.4,y_1.4,())) fun y=>some !y else some true) fun y=>bif y then some false else self (acc.1,Go.IntKind.i64.wrap (acc.2.1 + 1),()) else Zo (JQ x0 x1 L) L (acc.1,0,())
def JS:Zc→Zc→Nat→(Bool×Int×PUnit→Option Bool)→Bool×Int×PUnit→Option Bool:=fun x0 x1 L self acc=>bif decide (acc.2.1 < (↑x0.5.length:Int)) then bT (Z8 x0.5 acc.2.1) fun y=>bT (Z8 x1.5 acc.2.1) fun y_1=>bif !(y.1 == y_1.1 && (y.2 == y_1.2 && (y.3 == y_1.3 && true))) then some false else self (acc.1,Go.IntKind.i64.wrap (acc.2.1 + 1),()) else Zo (JR x0 x1 L) L (acc.1,0,())
def JU:Zc→Zc→Nat→(Bool×Int×PUnit→Option Bool)→Bool×Int×PUnit→Option Bool:=fun x0 x1 L self acc=>bif decide (acc.2.1 < (↑x0.4.length:Int)) then bT (Z8 x0.4 acc.2.1) fun y=>bT (Z8 x1.4 acc.2.1) fun y_1=>bif !(y.1 == y_1.1 && (y.2 == y_1.2 && (y.3 == y_1.3 && true))) then some false else self (acc.1,Go.IntKind.i64.wrap (acc.2.1 + 1),()) else Zo (JS x0 x1 L) L (acc.1,0,())
def Va:Zc→Zc→Nat→(Bool×Int×PUnit→Option Bool)→Bool×Int×PUnit→Option Bool:=fun x0 x1 L self acc=>bif decide (acc.2.1 < (↑x0.3.length:Int)) then bT (Z8 x0.3 acc.2.1) fun y=>bT (Z8 x1.3 acc.2.1) fun y_1=>bT (bT (XR L (y,y_1,())) fun y=>some y) fun y=>bif !y then some false else self (acc.1,Go.IntKind.i64.wrap (acc.2.1 + 1),()) else Zo (JU x0 x1 L) L (acc.1,0,())
theorem ZeZ (L:Nat)(x0:Zc)(x1:Zc):UT L (x0,x1,())=bT (bif (!x0.1 == x1.1) == false then bT (Jc L (x0.2,x1.2,())) fun y=>some !y else some true) fun y=>bif y || (↑x0.3.length:Int) != (↑x1.3.length:Int) || (↑x0.4.length:Int) != (↑x1.4.length:Int) || (↑x0.5.length:Int) != (↑x1.5.length:Int) || (↑x0.11.length:Int) != (↑x1.11.length:Int) || (↑x0.12.length:Int) != (↑x1.12.length:Int) || (↑x0.13.length:Int) != (↑x1.13.length:Int) then some false else bT (WW L (x0.6,x1.6,())) fun y=>bT (bif (!y) == false then bT (WW L (x0.7,x1.7,())) fun y=>some !y else some true) fun y=>bT (bif y == false then bT (WW L (x0.8,x1.8,())) fun y=>some !y else some true) fun y=>bT (bif y == false then bT (WW L (x0.9,x1.9,())) fun y=>some !y else some true) fun y=>bT (bif y == false then bT (WW L (x0.10,x1.10,())) fun y=>some !y else some true) fun y=>bif y then some false else Zo (Va x0 x1 L) L (false,0,()):=by kernel_rfl
def PI (L:Nat)(x:Zm×Zm×PUnit):Option Bool:=fT [NP L,NL L] L Zf3 [.rnd [.slot 4 .bool,.slot 5 (.int .i64)],.rnd [.slot 4 .bool,.slot 8 (.int .i64)],.rnd [.slot 9 (.int .i64)]] (.one .bool) [.row 19,.row 19] x
def Zgp (L:Nat):Sum tT:=mU 24 [.row 19,.row 19] (.one .bool) (PI L)
theorem Zo1:SX Zgp:=fun h=>sT h (Zg (Zfj h) (Zg (Zfh h) Zz)) rfl (by kernel_rfl) fun _=>rfl
def MO:Nat→(Bool×Int×PUnit→Option Bool)→Bool×Int×PUnit→Z4→Z4→(Bool×Int×PUnit→Option Bool)→Bool×Int×PUnit→Option Bool:=fun L self acc y y_1 self_1 acc_1=>bif decide (acc_1.2.1 < (↑y.2.length:Int)) then bT (Z8 y.2 acc_1.2.1) fun y=>bT (Z8 y_1.2 acc_1.2.1) fun y_2=>bT (bT (UX L (y,y_2,())) fun y=>some y) fun y=>bif !y then some false else self_1 (acc_1.1,Go.IntKind.i64.wrap (acc_1.2.1 + 1),()) else self (acc_1.1,Go.IntKind.i64.wrap (acc.2.1 + 1),())
def MP:Zm→Zm→(Int×PUnit→Option Bool)→Int×PUnit→Option Bool:=fun x0 x1 self acc=>bif decide (acc.1 < (↑x0.3.length:Int)) then bT (Z8 x0.3 acc.1) fun y=>bT (Z8 x1.3 acc.1) fun y_1=>bif !(y.1 == y_1.1 && (y.2 == y_1.2 && (y.3 == y_1.3 && true))) then some false else self (Go.IntKind.i64.wrap (acc.1 + 1),()) else some true
def I7:Zm→Zm→Nat→(Bool×Int×PUnit→Option Bool)→Bool×Int×PUnit→Option Bool:=fun x0 x1 L self acc=>bif decide (acc.2.1 < (↑x0.2.length:Int)) then bT (Z8 x0.2 acc.2.1) fun y=>bT (Z8 x1.2 acc.2.1) fun y_1=>bT (UT L (y.1,y_1.1,())) fun y_2=>bif !y_2 || (↑y.2.length:Int) != (↑y_1.2.length:Int) then some false else Zo (MO L self acc y y_1) L (acc.1,0,()) else Zo (MP x0 x1) L (0,())
theorem Zor (L:Nat)(x0:Zm)(x1:Zm):PI L (x0,x1,())=bif !x0.1 == x1.1 || (↑x0.2.length:Int) != (↑x1.2.length:Int) || (↑x0.3.length:Int) != (↑x1.3.length:Int) then some false else Zo (I7 x0 x1 L) L (false,0,()):=by kernel_rfl
def YA (L:Nat)(x:(List Zcl)×(List Zcl)×PUnit):Option Bool:=fT [] L QZ [.rnd [.slot 13 (.int .i64)]] (.one .bool) [.lst 3 (.row 18),.lst 3 (.row 18)] x
def Xa (L:Nat):Sum tT:=mU 51 [.lst 3 (.row 18),.lst 3 (.row 18)] (.one .bool) (YA L)
theorem Ur:SX Xa:=fun h=>sT h Zz rfl (by kernel_rfl) fun _=>rfl
def Wq:List Zcl→List Zcl→(Int×PUnit→Option Bool)→Int×PUnit→Option Bool:=fun x0 x1 self acc=>bif decide (acc.1 < (↑x0.length:Int)) then bT (Z8 x0 acc.1) fun y=>bT (Z8 x1 acc.1) fun y_1=>bif !(y.1 == y_1.1 && (y.2 == y_1.2 && (y.3 == y_1.3 && true))) then some false else self (Go.IntKind.i64.wrap (acc.1 + 1),()) else some true
theorem Uo (L:Nat)(x0:(List Zcl))(x1:(List Zcl)):YA L (x0,x1,())=bif (↑x0.length:Int) != (↑x1.length:Int) then some false else Zo (Wq x0 x1) L (0,()):=by kernel_rfl
def CJ:List (Inl tT):=[⟨221,ZM,[.rnd [.slot 17 (.int .i64)]],.one (.bool),[]⟩]
def VY (L:Nat)(x:ZZ×ZZ×PUnit):Option Bool:=fI [QX L,Vj L] L CJ LQ [] (.one .bool) [.row 15,.row 15] x
def RF (L:Nat):Sum tT:=mU 175 [.row 15,.row 15] (.one .bool) (VY L)
theorem ZbK:SX RF:=fun h=>sI h (Zg (Vd h) (Zg (UA h) Zz)) (Zg ⟨h.T _ _ rfl,by kernel_rfl⟩ Zz) rfl (by kernel_rfl) fun _=>rfl
def Vq:ZZ→ZZ→Nat→(Int×PUnit→Option Bool)→Int×PUnit→Option Bool:=fun x0 x1 L self acc=>bif decide (acc.1 < (↑x0.7.length:Int)) then bT (Z8 x0.7 acc.1) fun y=>bT (Z8 x1.7 acc.1) fun y_1=>bT (Q4 L (y,y_1,())) fun y=>bif !y then some false else self (Go.IntKind.i64.wrap (acc.1 + 1),()) else some true
theorem ZbA (L:Nat)(x0:ZZ)(x1:ZZ):VY L (x0,x1,())=bT (bif (x0.1 == x1.1 && x0.2 == x1.2 && x0.3 == x1.3 && x0.4 == x1.4 && x0.9 == x1.9) == true then bT (Q4 L (x0.5,x1.5,())) fun y=>some y else some false) fun y=>bT (bif y == true then bT (Q4 L (x0.6,x1.6,())) fun y=>some y else some false) fun y=>bT (bif y == true then bT (bif (↑x0.7.length:Int) != (↑x1.7.length:Int) then some false else Zo (Vq x0 x1 L) L (0,())) fun y=>some y else some false) fun y=>bT (bif y == true then bT (Qg L (x0.8,x1.8,())) fun y=>some y else some false) fun y=>some y:=by kernel_rfl
def Zbz:List (Inl tT):=[⟨174,Yi,[.rnd [.slot 17 (.int .i64)]],.one (.bool),[]⟩]
def JZ (L:Nat)(x:Y8×Y8×PUnit):Option Bool:=fI [RF L] L Zbz Bh [] (.one .bool) [.row 16,.row 16] x
def DF (L:Nat):Sum tT:=mU 99 [.row 16,.row 16] (.one .bool) (JZ L)
theorem ZdY:SX DF:=fun h=>sI h (Zg (ZbK h) Zz) (Zg ⟨h.T _ _ rfl,by kernel_rfl⟩ Zz) rfl (by kernel_rfl) fun _=>rfl
def VU:Y8→Y8→Nat→(Int×PUnit→Option Bool)→Int×PUnit→Option Bool:=fun x0 x1 L self acc=>bif decide (acc.1 < (↑x0.4.length:Int)) then bT (Z8 x0.4 acc.1) fun y=>bT (Z8 x1.4 acc.1) fun y_1=>bT (VY L (y,y_1,())) fun y=>bif !y then some false else self (Go.IntKind.i64.wrap (acc.1 + 1),()) else some true
theorem ZdE (L:Nat)(x0:Y8)(x1:Y8):JZ L (x0,x1,())=bT (bif (x0.1 == x1.1 && x0.2 == x1.2 && x0.3 == x1.3) == true then bT (bif (↑x0.4.length:Int) != (↑x1.4.length:Int) then some false else Zo (VU x0 x1 L) L (0,())) fun y=>some y else some false) fun y=>some y:=by kernel_rfl
def Yz (L:Nat)(x:(List Bd)×(List Bd)×PUnit):Option Bool:=fT [] L Q8 [.rnd [.slot 13 (.int .i64)]] (.one .bool) [.lst 3 (.row 20),.lst 3 (.row 20)] x
def QC (L:Nat):Sum tT:=mU 173 [.lst 3 (.row 20),.lst 3 (.row 20)] (.one .bool) (Yz L)
theorem J8:SX QC:=fun h=>sT h Zz rfl (by kernel_rfl) fun _=>rfl
def YT:List Bd→List Bd→(Int×PUnit→Option Bool)→Int×PUnit→Option Bool:=fun x0 x1 self acc=>bif decide (acc.1 < (↑x0.length:Int)) then bT (Z8 x0 acc.1) fun y=>bT (Z8 x1 acc.1) fun y_1=>bif !(y.1 == y_1.1 && (y.2 == y_1.2 && (y.3 == y_1.3 && true))) then some false else self (Go.IntKind.i64.wrap (acc.1 + 1),()) else some true
theorem J6 (L:Nat)(x0:(List Bd))(x1:(List Bd)):Yz L (x0,x1,())=bif (↑x0.length:Int) != (↑x1.length:Int) then some false else Zo (YT x0 x1) L (0,()):=by kernel_rfl
def Y0 (L:Nat)(x:(List JC)×(List JC)×PUnit):Option Bool:=fT [] L Q9 [.rnd [.slot 13 (.int .i64)]] (.one .bool) [.lst 3 (.row 12),.lst 3 (.row 12)] x
def QD (L:Nat):Sum tT:=mU 247 [.lst 3 (.row 12),.lst 3 (.row 12)] (.one .bool) (Y0 L)
theorem J9:SX QD:=fun h=>sT h Zz rfl (by kernel_rfl) fun _=>rfl
def YU:List JC→List JC→(Int×PUnit→Option Bool)→Int×PUnit→Option Bool:=fun x0 x1 self acc=>bif decide (acc.1 < (↑x0.length:Int)) then bT (Z8 x0 acc.1) fun y=>bT (Z8 x1 acc.1) fun y_1=>bif !(y.1 == y_1.1 && (y.2 == y_1.2 && (y.3 == y_1.3 && true))) then some false else self (Go.IntKind.i64.wrap (acc.1 + 1),()) else some true
theorem J7 (L:Nat)(x0:(List JC))(x1:(List JC)):Y0 L (x0,x1,())=bif (↑x0.length:Int) != (↑x1.length:Int) then some false else Zo (YU x0 x1) L (0,()):=by kernel_rfl
def Ue (L:Nat)(x:RV×RV×PUnit):Option Bool:=fT [QD L] L BB [] (.one .bool) [.row 13,.row 13] x
def DL (L:Nat):Sum tT:=mU 220 [.row 13,.row 13] (.one .bool) (Ue L)
theorem Zec:SX DL:=fun h=>sT h (Zg (J9 h) Zz) rfl (by kernel_rfl) fun _=>rfl
theorem ZdJ (L:Nat)(x0:RV)(x1:RV):Ue L (x0,x1,())=bT (bif (x0.1 == x1.1 && x0.3 == x1.3) == true then bT (Y0 L (x0.2,x1.2,())) fun y=>some y else some false) fun y=>some y:=by kernel_rfl
def V8 (L:Nat)(x:Qm×Qm×PUnit):Option Bool:=fT [Xk L] L Tj [] (.one .bool) [.row 11,.row 11] x
def TR (L:Nat):Sum tT:=mU 218 [.row 11,.row 11] (.one .bool) (V8 L)
theorem Zac:SX TR:=fun h=>sT h (Zg (Jv h) Zz) rfl (by kernel_rfl) fun _=>rfl
theorem CY (L:Nat)(x0:Qm)(x1:Qm):V8 L (x0,x1,())=bT (bif (x0.1 == x1.1) == true then bT (Yr L (x0.2,x1.2,())) fun y=>some y else some false) fun y=>some (y && x0.3 == x1.3 && x0.4 == x1.4 && x0.5 == x1.5):=by kernel_rfl
def ZaK:List (Inl tT):=[⟨221,ZM,[.rnd [.slot 17 (.int .i64)]],.one (.bool),[]⟩]
def ZaJ:List (Inl tT):=[⟨263,Yu,[.rnd [.slot 17 (.int .i64)]],.one (.bool),[]⟩]
def WJ (L:Nat):Nat→List (Sum tT)
 | 0=>[⟨264,[.row 9,.row 9],fun _=>.par _ none ((.one (.bool):RD).tv tT)⟩,⟨246,[.lst 21 (.row 9),.lst 21 (.row 9)],fun _=>.par _ none ((.one (.bool):RD).tv tT)⟩]
 | m + 1=>[⟨264,[.row 9,.row 9],fun x=>.par _ (fnT tF tG (Fv tF tG (qOf tF (WJ L m ++ [QX L,Vj L])) L ZaK 8) 0 L NY [] (.one (.bool)) (tvL tT [.row 9,.row 9] x) []) ((.one (.bool):RD).tv tT)⟩,⟨246,[.lst 21 (.row 9),.lst 21 (.row 9)],fun x=>.par _ (fnT tF tG (Fv tF tG (qOf tF (WJ L m ++ [QX L,Vj L])) L ZaJ 8) 0 L NW [] (.one (.bool)) (tvL tT [.lst 21 (.row 9),.lst 21 (.row 9)] x) []) ((.one (.bool):RD).tv tT)⟩]
theorem VQ {C:Cfg}{L:Nat}(h:St C L):∀ m,∀ s ∈ WJ L m,XV C s
 | 0=>(Zg (XO _ _ _) (Zg (XO _ _ _) Zz))
 | m + 1=>have ih:=VQ h m
  (Zg (WG YV h.L h.G (IG YV h.L h.G (QL YV (Kt ih (Zg (Vd h) (Zg (UA h) Zz)))) (Zg ⟨h.T _ _ rfl,by kernel_rfl⟩ Zz) 8) [] (h.T _ _ rfl) (by kernel_rfl) fun _=>rfl) (Zg (WG YV h.L h.G (IG YV h.L h.G (QL YV (Kt ih (Zg (Vd h) (Zg (UA h) Zz)))) (Zg ⟨h.T _ _ rfl,by kernel_rfl⟩ Zz) 8) [] (h.T _ _ rfl) (by kernel_rfl) fun _=>rfl) Zz))
def Pg (L m:Nat)(x:Zy×Zy×PUnit):Option (Bool):=fnT tF tG (Fv tF tG (qOf tF (WJ L m ++ [QX L,Vj L])) L ZaK 8) 0 L NY [] (.one (.bool)) (tvL tT [.row 9,.row 9] x) []
def Gf (L m:Nat)(x:(List Zy)×(List Zy)×PUnit):Option (Bool):=fnT tF tG (Fv tF tG (qOf tF (WJ L m ++ [QX L,Vj L])) L ZaJ 8) 0 L NW [] (.one (.bool)) (tvL tT [.lst 21 (.row 9),.lst 21 (.row 9)] x) []
def EG (L:Nat)(x:(List Zy)×(List Zy)×PUnit):Option (Bool):=Gf L L x
def Ze3 (L:Nat):Sum tT:=⟨246,[.lst 21 (.row 9),.lst 21 (.row 9)],fun x=>.par ((.one (.bool):RD).Ty tT) (EG L x) ((.one (.bool):RD).tv tT)⟩
theorem ZlG {C:Cfg}{L:Nat}(h:St C L):XV C (Ze3 L):=have ih:=VQ h L
 WG YV h.L h.G (IG YV h.L h.G (QL YV (Kt ih (Zg (Vd h) (Zg (UA h) Zz)))) (Zg ⟨h.T _ _ rfl,by kernel_rfl⟩ Zz) 8) [] (h.T _ _ rfl) (by kernel_rfl) fun _=>rfl
def O5:Zy→Zy→Nat→(Int×PUnit→Option Bool)→Int×PUnit→Option Bool:=fun x0 x1 L self acc=>bif decide (acc.1 < (↑x0.6.length:Int)) then bT (Z8 x0.6 acc.1) fun y=>bT (Z8 x1.6 acc.1) fun y_1=>bT (Q4 L (y,y_1,())) fun y=>bif !y then some false else self (Go.IntKind.i64.wrap (acc.1 + 1),()) else some true
theorem Zl3 (L m:Nat)(x0:Zy)(x1:Zy):Pg L (m + 1) (x0,x1,())=bT (bif (x0.1 == x1.1 && x0.2 == x1.2 && x0.3 == x1.3 && x0.8 == x1.8) == true then bT (Q4 L (x0.4,x1.4,())) fun y=>some y else some false) fun y=>bT (bif y == true then bT (Q4 L (x0.5,x1.5,())) fun y=>some y else some false) fun y=>bT (bif y == true then bT (Qg L (x0.7,x1.7,())) fun y=>some y else some false) fun y=>bT (bif y == true then bT (bif (↑x0.6.length:Int) != (↑x1.6.length:Int) then some false else Zo (O5 x0 x1 L) L (0,())) fun y=>some y else some false) fun y=>bT (bif y == true then bT (Gf L m (x0.9,x1.9,())) fun y=>some y else some false) fun y=>bT (bif y == true then bT (Gf L m (x0.10,x1.10,())) fun y=>some y else some false) fun y=>some y:=by kernel_rfl
def O4:Nat→List Zy→List Zy→Nat→(Int×PUnit→Option Bool)→Int×PUnit→Option Bool:=fun (m:Nat)=>fun x0 x1 L self acc=>bif decide (acc.1 < (↑x0.length:Int)) then bT (Z8 x0 acc.1) fun y=>bT (Z8 x1 acc.1) fun y_1=>bT (Pg L m (y,y_1,())) fun y=>bif !y then some false else self (Go.IntKind.i64.wrap (acc.1 + 1),()) else some true
theorem Zl1 (L m:Nat)(x0:(List Zy))(x1:(List Zy)):Gf L (m + 1) (x0,x1,())=bT (bif (↑x0.length:Int) != (↑x1.length:Int) then some false else Zo (O4 m x0 x1 L) L (0,())) fun y=>some y:=by kernel_rfl
def ZV (L:Nat)(x:(List Y1)×(List Y1)×PUnit):Option Bool:=fT [] L Qn [.rnd [.slot 13 (.int .i64)]] (.one .bool) [.lst 2 (.row 7),.lst 2 (.row 7)] x
def Qs (L:Nat):Sum tT:=mU 245 [.lst 2 (.row 7),.lst 2 (.row 7)] (.one .bool) (ZV L)
theorem VP:SX Qs:=fun h=>sT h Zz rfl (by kernel_rfl) fun _=>rfl
def YI:List Y1→List Y1→(Int×PUnit→Option Bool)→Int×PUnit→Option Bool:=fun x0 x1 self acc=>bif decide (acc.1 < (↑x0.length:Int)) then bT (Z8 x0 acc.1) fun y=>bT (Z8 x1 acc.1) fun y_1=>bif !(y.1 == y_1.1 && (y.2 == y_1.2 && true)) then some false else self (Go.IntKind.i64.wrap (acc.1 + 1),()) else some true
theorem VL (L:Nat)(x0:(List Y1))(x1:(List Y1)):ZV L (x0,x1,())=bif (↑x0.length:Int) != (↑x1.length:Int) then some false else Zo (YI x0 x1) L (0,()):=by kernel_rfl
def X8 (L:Nat)(x:ZJ×ZJ×PUnit):Option Bool:=fT [Ze3 L,Qs L] L Ik [] (.one .bool) [.row 10,.row 10] x
def IQ (L:Nat):Sum tT:=mU 216 [.row 10,.row 10] (.one .bool) (X8 L)
theorem Ej:SX IQ:=fun h=>sT h (Zg (ZlG h) (Zg (VP h) Zz)) rfl (by kernel_rfl) fun _=>rfl
theorem Eb (L:Nat)(x0:ZJ)(x1:ZJ):X8 L (x0,x1,())=bT (bif (x0.1 == x1.1) == true then bT (ZV L (x0.2,x1.2,())) fun y=>some y else some false) fun y=>bT (bif y == true then bT (ZV L (x0.3,x1.3,())) fun y=>some y else some false) fun y=>bT (bif y == true then bT (EG L (x0.4,x1.4,())) fun y=>some y else some false) fun y=>some y:=by kernel_rfl
def ZI (L:Nat)(x:(List (List UInt8))×(List (List UInt8))×PUnit):Option Bool:=fT [] L Xr [.rnd [.slot 13 (.int .i64)]] (.one .bool) [.lst 1 .str,.lst 1 .str] x
def Xw (L:Nat):Sum tT:=mU 214 [.lst 1 .str,.lst 1 .str] (.one .bool) (ZI L)
theorem KI:SX Xw:=fun h=>sT h Zz rfl (by kernel_rfl) fun _=>rfl
def WL:List (List UInt8)→List (List UInt8)→(Int×PUnit→Option Bool)→Int×PUnit→Option Bool:=fun x0 x1 self acc=>bif decide (acc.1 < (↑x0.length:Int)) then bT (Z8 x0 acc.1) fun y=>bT (Z8 x1 acc.1) fun y_1=>bif !y == y_1 then some false else self (Go.IntKind.i64.wrap (acc.1 + 1),()) else some true
theorem KC (L:Nat)(x0:(List (List UInt8)))(x1:(List (List UInt8))):ZI L (x0,x1,())=bif (↑x0.length:Int) != (↑x1.length:Int) then some false else Zo (WL x0 x1) L (0,()):=by kernel_rfl
def Yb (L:Nat)(x:(List Yo)×(List Yo)×PUnit):Option Bool:=fT [] L WC [.rnd [.slot 13 (.int .i64)]] (.one .bool) [.lst 3 (.row 6),.lst 3 (.row 6)] x
def WF (L:Nat):Sum tT:=mU 213 [.lst 3 (.row 6),.lst 3 (.row 6)] (.one .bool) (Yb L)
theorem XC:SX WF:=fun h=>sT h Zz rfl (by kernel_rfl) fun _=>rfl
def Yx:List Yo→List Yo→(Int×PUnit→Option Bool)→Int×PUnit→Option Bool:=fun x0 x1 self acc=>bif decide (acc.1 < (↑x0.length:Int)) then bT (Z8 x0 acc.1) fun y=>bT (Z8 x1 acc.1) fun y_1=>bif !(y.1 == y_1.1 && (y.2 == y_1.2 && (y.3 == y_1.3 && true))) then some false else self (Go.IntKind.i64.wrap (acc.1 + 1),()) else some true
theorem XA (L:Nat)(x0:(List Yo))(x1:(List Yo)):Yb L (x0,x1,())=bif (↑x0.length:Int) != (↑x1.length:Int) then some false else Zo (Yx x0 x1) L (0,()):=by kernel_rfl
def ZR (L:Nat)(x:(List ZO)×(List ZO)×PUnit):Option Bool:=fT [] L Wh [.rnd [.slot 13 (.int .i64)]] (.one .bool) [.lst 3 (.row 5),.lst 3 (.row 5)] x
def Wj (L:Nat):Sum tT:=mU 212 [.lst 3 (.row 5),.lst 3 (.row 5)] (.one .bool) (ZR L)
theorem Xo:SX Wj:=fun h=>sT h Zz rfl (by kernel_rfl) fun _=>rfl
def Yq:List ZO→List ZO→(Int×PUnit→Option Bool)→Int×PUnit→Option Bool:=fun x0 x1 self acc=>bif decide (acc.1 < (↑x0.length:Int)) then bT (Z8 x0 acc.1) fun y=>bT (Z8 x1 acc.1) fun y_1=>bif !(y.1 == y_1.1 && (y.2 == y_1.2 && (y.3 == y_1.3 && true))) then some false else self (Go.IntKind.i64.wrap (acc.1 + 1),()) else some true
theorem Xn (L:Nat)(x0:(List ZO))(x1:(List ZO)):ZR L (x0,x1,())=bif (↑x0.length:Int) != (↑x1.length:Int) then some false else Zo (Yq x0 x1) L (0,()):=by kernel_rfl
def Yg (L:Nat)(x:(List QR)×(List QR)×PUnit):Option Bool:=fT [] L WZ [.rnd [.slot 13 (.int .i64)]] (.one .bool) [.lst 2 (.row 1),.lst 2 (.row 1)] x
def Qd (L:Nat):Sum tT:=mU 244 [.lst 2 (.row 1),.lst 2 (.row 1)] (.one .bool) (Yg L)
theorem V5:SX Qd:=fun h=>sT h Zz rfl (by kernel_rfl) fun _=>rfl
def YD:List QR→List QR→(Int×PUnit→Option Bool)→Int×PUnit→Option Bool:=fun x0 x1 self acc=>bif decide (acc.1 < (↑x0.length:Int)) then bT (Z8 x0 acc.1) fun y=>bT (Z8 x1 acc.1) fun y_1=>bif !(y.1 == y_1.1 && (y.2 == y_1.2 && true)) then some false else self (Go.IntKind.i64.wrap (acc.1 + 1),()) else some true
theorem V3 (L:Nat)(x0:(List QR))(x1:(List QR)):Yg L (x0,x1,())=bif (↑x0.length:Int) != (↑x1.length:Int) then some false else Zo (YD x0 x1) L (0,()):=by kernel_rfl
def Xd (L:Nat)(x:Zn×Zn×PUnit):Option Bool:=fT [QX L,Qd L] L Gy [] (.one .bool) [.row 4,.row 4] x
def G8 (L:Nat):Sum tT:=mU 211 [.row 4,.row 4] (.one .bool) (Xd L)
theorem PQ:SX G8:=fun h=>sT h (Zg (Vd h) (Zg (V5 h) Zz)) rfl (by kernel_rfl) fun _=>rfl
theorem PO (L:Nat)(x0:Zn)(x1:Zn):Xd L (x0,x1,())=bT (bif (x0.1 == x1.1 && x0.2 == x1.2 && x0.4 == x1.4) == true then bT (Yg L (x0.3,x1.3,())) fun y=>some y else some false) fun y=>bT (bif (y && x0.Fault.1 == x1.Fault.1) == true then bT (Qg L (x0.Fault.2,x1.Fault.2,())) fun y=>some y else some false) fun y=>bT (bif y == true then bT (Qg L (x0.Fault.3,x1.Fault.3,())) fun y=>some y else some false) fun y=>some y:=by kernel_rfl
def ZW (L:Nat)(x:(List WO)×(List WO)×PUnit):Option Bool:=fT [] L Qo [.rnd [.slot 13 (.int .i64)]] (.one .bool) [.lst 3 (.row 0),.lst 3 (.row 0)] x
def YO (L:Nat):Sum tT:=mU 170 [.lst 3 (.row 0),.lst 3 (.row 0)] (.one .bool) (ZW L)
theorem Qq:SX YO:=fun h=>sT h Zz rfl (by kernel_rfl) fun _=>rfl
def YJ:List WO→List WO→(Int×PUnit→Option Bool)→Int×PUnit→Option Bool:=fun x0 x1 self acc=>bif decide (acc.1 < (↑x0.length:Int)) then bT (Z8 x0 acc.1) fun y=>bT (Z8 x1 acc.1) fun y_1=>bif !(y.1 == y_1.1 && (y.2 == y_1.2 && (y.3 == y_1.3 && true))) then some false else self (Go.IntKind.i64.wrap (acc.1 + 1),()) else some true
theorem VM (L:Nat)(x0:(List WO))(x1:(List WO)):ZW L (x0,x1,())=bif (↑x0.length:Int) != (↑x1.length:Int) then some false else Zo (YJ x0 x1) L (0,()):=by kernel_rfl
def CP:List (Inl tT):=[⟨219,Y5,[.rnd [.slot 17 (.int .i64)]],.one (.bool),[]⟩,⟨217,Yj,[.rnd [.slot 17 (.int .i64)]],.one (.bool),[]⟩,⟨215,ZU,[.rnd [.slot 17 (.int .i64)]],.one (.bool),[]⟩,⟨210,ZE,[.rnd [.slot 17 (.int .i64)]],.one (.bool),[]⟩]
def Ja (L:Nat)(x:Zc×Zc×PUnit):Option Bool:=fI [DL L,TR L,IQ L,Xw L,WF L,Wj L,G8 L,YO L] L CP LY [] (.one .bool) [.row 14,.row 14] x
def RI (L:Nat):Sum tT:=mU 172 [.row 14,.row 14] (.one .bool) (Ja L)
theorem ZbO:SX RI:=fun h=>sI h (Zg (Zec h) (Zg (Zac h) (Zg (Ej h) (Zg (KI h) (Zg (XC h) (Zg (Xo h) (Zg (PQ h) (Zg (Qq h) Zz)))))))) (Zg ⟨h.T _ _ rfl,by kernel_rfl⟩ (Zg ⟨h.T _ _ rfl,by kernel_rfl⟩ (Zg ⟨h.T _ _ rfl,by kernel_rfl⟩ (Zg ⟨h.T _ _ rfl,by kernel_rfl⟩ Zz)))) rfl (by kernel_rfl) fun _=>rfl
def Vt:Zc→Zc→Nat→(Int×PUnit→Option Bool)→Int×PUnit→Option Bool:=fun x0 x1 L self acc=>bif decide (acc.1 < (↑x0.3.length:Int)) then bT (Z8 x0.3 acc.1) fun y=>bT (Z8 x1.3 acc.1) fun y_1=>bT (Xd L (y,y_1,())) fun y=>bif !y then some false else self (Go.IntKind.i64.wrap (acc.1 + 1),()) else some true
def Vu:Zc→Zc→Nat→(Int×PUnit→Option Bool)→Int×PUnit→Option Bool:=fun x0 x1 L self acc=>bif decide (acc.1 < (↑x0.11.length:Int)) then bT (Z8 x0.11 acc.1) fun y=>bT (Z8 x1.11 acc.1) fun y_1=>bT (X8 L (y,y_1,())) fun y=>bif !y then some false else self (Go.IntKind.i64.wrap (acc.1 + 1),()) else some true
def Vw:Zc→Zc→Nat→(Int×PUnit→Option Bool)→Int×PUnit→Option Bool:=fun x0 x1 L self acc=>bif decide (acc.1 < (↑x0.12.length:Int)) then bT (Z8 x0.12 acc.1) fun y=>bT (Z8 x1.12 acc.1) fun y_1=>bT (V8 L (y,y_1,())) fun y=>bif !y then some false else self (Go.IntKind.i64.wrap (acc.1 + 1),()) else some true
def Vx:Zc→Zc→Nat→(Int×PUnit→Option Bool)→Int×PUnit→Option Bool:=fun x0 x1 L self acc=>bif decide (acc.1 < (↑x0.13.length:Int)) then bT (Z8 x0.13 acc.1) fun y=>bT (Z8 x1.13 acc.1) fun y_1=>bT (Ue L (y,y_1,())) fun y=>bif !y then some false else self (Go.IntKind.i64.wrap (acc.1 + 1),()) else some true
theorem ZbE (L:Nat)(x0:Zc)(x1:Zc):Ja L (x0,x1,())=bT (bif (x0.1 == x1.1) == true then bT (ZW L (x0.2,x1.2,())) fun y=>some y else some false) fun y=>bT (bif y == true then bT (bif (↑x0.3.length:Int) != (↑x1.3.length:Int) then some false else Zo (Vt x0 x1 L) L (0,())) fun y=>some y else some false) fun y=>bT (bif y == true then bT (ZR L (x0.4,x1.4,())) fun y=>some y else some false) fun y=>bT (bif y == true then bT (Yb L (x0.5,x1.5,())) fun y=>some y else some false) fun y=>bT (bif y == true then bT (ZI L (x0.6,x1.6,())) fun y=>some y else some false) fun y=>bT (bif y == true then bT (ZI L (x0.7,x1.7,())) fun y=>some y else some false) fun y=>bT (bif y == true then bT (ZI L (x0.8,x1.8,())) fun y=>some y else some false) fun y=>bT (bif y == true then bT (ZI L (x0.9,x1.9,())) fun y=>some y else some false) fun y=>bT (bif y == true then bT (ZI L (x0.10,x1.10,())) fun y=>some y else some false) fun y=>bT (bif y == true then bT (bif (↑x0.11.length:Int) != (↑x1.11.length:Int) then some false else Zo (Vu x0 x1 L) L (0,())) fun y=>some y else some false) fun y=>bT (bif y == true then bT (bif (↑x0.12.length:Int) != (↑x1.12.length:Int) then some false else Zo (Vw x0 x1 L) L (0,())) fun y=>some y else some false) fun y=>bT (bif y == true then bT (bif (↑x0.13.length:Int) != (↑x1.13.length:Int) then some false else Zo (Vx x0 x1 L) L (0,())) fun y=>some y else some false) fun y=>some y:=by kernel_rfl
def ZgD:List (Inl tT):=[⟨171,ZQ,[.rnd [.slot 17 (.int .i64)]],.one (.bool),[]⟩]
def OB (L:Nat)(x:WY×WY×PUnit):Option Bool:=fI [QC L,RI L,YO L] L ZgD Zay [] (.one .bool) [.row 21,.row 21] x
def Zbk (L:Nat):Sum tT:=mU 97 [.row 21,.row 21] (.one .bool) (OB L)
theorem Zj8:SX Zbk:=fun h=>sI h (Zg (J8 h) (Zg (ZbO h) (Zg (Qq h) Zz))) (Zg ⟨h.T _ _ rfl,by kernel_rfl⟩ Zz) rfl (by kernel_rfl) fun _=>rfl
def GI:WY→WY→Nat→(Int×PUnit→Option Bool)→Int×PUnit→Option Bool:=fun x0 x1 L self acc=>bif decide (acc.1 < (↑x0.3.length:Int)) then bT (Z8 x0.3 acc.1) fun y=>bT (Z8 x1.3 acc.1) fun y_1=>bT (Ja L (y,y_1,())) fun y=>bif !y then some false else self (Go.IntKind.i64.wrap (acc.1 + 1),()) else some true
theorem Zjh (L:Nat)(x0:WY)(x1:WY):OB L (x0,x1,())=bT (bif (x0.1 == x1.1) == true then bT (ZW L (x0.2,x1.2,())) fun y=>some y else some false) fun y=>bT (bif y == true then bT (bif (↑x0.3.length:Int) != (↑x1.3.length:Int) then some false else Zo (GI x0 x1 L) L (0,())) fun y=>some y else some false) fun y=>bT (bif y == true then bT (Yz L (x0.4,x1.4,())) fun y=>some y else some false) fun y=>some y:=by kernel_rfl
def Zb0:List (Inl tT):=[⟨98,Yt,[.rnd [.slot 17 (.int .i64)]],.one (.bool),[]⟩]
def Ua (L:Nat)(x:Z4×Z4×PUnit):Option Bool:=fI [DF L,Zbk L] L Zb0 Bi [] (.one .bool) [.row 17,.row 17] x
def DI (L:Nat):Sum tT:=mU 50 [.row 17,.row 17] (.one .bool) (Ua L)
theorem ZdZ:SX DI:=fun h=>sI h (Zg (ZdY h) (Zg (Zj8 h) Zz)) (Zg ⟨h.T _ _ rfl,by kernel_rfl⟩ Zz) rfl (by kernel_rfl) fun _=>rfl
def VV:Z4→Z4→Nat→(Int×PUnit→Option Bool)→Int×PUnit→Option Bool:=fun x0 x1 L self acc=>bif decide (acc.1 < (↑x0.2.length:Int)) then bT (Z8 x0.2 acc.1) fun y=>bT (Z8 x1.2 acc.1) fun y_1=>bT (JZ L (y,y_1,())) fun y=>bif !y then some false else self (Go.IntKind.i64.wrap (acc.1 + 1),()) else some true
theorem ZdF (L:Nat)(x0:Z4)(x1:Z4):Ua L (x0,x1,())=bT (OB L (WY.mk [] [] [x0.1] [],WY.mk [] [] [x1.1] [],())) fun y=>bT (bif y == true then bT (bif (↑x0.2.length:Int) != (↑x1.2.length:Int) then some false else Zo (VV x0 x1 L) L (0,())) fun y=>some y else some false) fun y=>some y:=by kernel_rfl
def ZiA:List (Inl tT):=[⟨49,ZP,[.rnd [.slot 17 (.int .i64)]],.one (.bool),[]⟩]
def UB (L:Nat)(x:Zm×Zm×PUnit):Option Bool:=fI [Xa L,DI L] L ZiA Zco [] (.one .bool) [.row 19,.row 19] x
def Zeu (L:Nat):Sum tT:=mU 21 [.row 19,.row 19] (.one .bool) (UB L)
theorem ZlB:SX Zeu:=fun h=>sI h (Zg (Ur h) (Zg (ZdZ h) Zz)) (Zg ⟨h.T _ _ rfl,by kernel_rfl⟩ Zz) rfl (by kernel_rfl) fun _=>rfl
def Oq:Zm→Zm→Nat→(Int×PUnit→Option Bool)→Int×PUnit→Option Bool:=fun x0 x1 L self acc=>bif decide (acc.1 < (↑x0.2.length:Int)) then bT (Z8 x0.2 acc.1) fun y=>bT (Z8 x1.2 acc.1) fun y_1=>bT (Ua L (y,y_1,())) fun y=>bif !y then some false else self (Go.IntKind.i64.wrap (acc.1 + 1),()) else some true
theorem ZkU (L:Nat)(x0:Zm)(x1:Zm):UB L (x0,x1,())=bT (bif (x0.1 == x1.1) == true then bT (bif (↑x0.2.length:Int) != (↑x1.2.length:Int) then some false else Zo (Oq x0 x1 L) L (0,())) fun y=>some y else some false) fun y=>bT (bif y == true then bT (YA L (x0.3,x1.3,())) fun y=>some y else some false) fun y=>some y:=by kernel_rfl
def Gp (L:Nat)(x:Zm×Zm×Zr0×PUnit):Option Bool:=fT [Zrk,Zbf L,Zgp L,Ze1 L,Zal L,Zeu L,Zex L] L LV [] (.one .bool) [.row 19,.row 19,.row 30] x
def ZbV (L:Nat):Sum tT:=mU 7 [.row 19,.row 19,.row 30] (.one .bool) (Gp L)
theorem ZbM:SX ZbV:=fun h=>sT h (Zg (ZvQ h) (Zg (Zj3 h) (Zg (Zo1 h) (Zg (ZqU h) (Zg (Zgi h) (Zg (ZlB h) (Zg (ZlE h) Zz))))))) rfl (by kernel_rfl) fun _=>rfl
theorem ZbC (L:Nat)(x0:Zm)(x1:Zm)(x2:Zr0):Gp L (x0,x1,x2,())=bT (IZ L (x0,())) fun y=>bT (bif (!y) == false then bT (IZ L (x1,())) fun y=>some !y else some true) fun y=>bif y then some true else bT (UB L (x0,x1,())) fun y=>bT (TU L (x0,x2.1,x2.2,())) fun y_1=>bT (DX L (x0,x2.1,x2.2,())) fun y_2=>bT (PI L (x0,x1,())) fun y_3=>bT (bif (!y == y_3) == false then bT (UB L (x1,x0,())) fun y_4=>some !y == y_4 else some true) fun y_4=>bT (bif y_4 == false then bT (UB L (x0,x0,())) fun y=>some !y else some true) fun y_5=>bif y_5 || y_1.1 != y_2.1 || !y_1.2.1 == y_2.2.1 then some false else bT (bif (!y) == false then bT (bT (KP L (x0,())) fun y=>some y) fun y=>bT (bT (KP L (x1,())) fun y=>some y) fun y_6=>some (y == y_6) else some true) fun y=>some (y && true):=by kernel_rfl
end Go.Proofs.YtleomfgijkapfaaGreatDoor
end
section
namespace Go.Proofs.YtleomfgijkapfaaGreatDoor
open Go Go.Proofs.YtleomfgijkapfaaGreatDoor.Abs Go.Proofs.YtleomfgijkapfaaGreatDoor.Tl
set_option maxRecDepth 100000
open Classical in
noncomputable def sm {α:Type} (a b:α):Bool:=decide (a=b)
theorem KL {α:Type}(a b:α):sm a b=true↔a=b:=by unfold sm; simp
theorem GZ {α:Type}{a b:α}{v:Bool}(h:v=true↔a=b):v=sm a b:=Bool.eq_iff_iff.2 (h.trans (KL a b).symm)
theorem WN {α:Type}(a b:α)[Decidable (a=b)]:decide (a=b)=sm a b:=GZ (by simp)
theorem WP (a b:Bool):(a == b)=sm a b:=GZ (by simp)
theorem WR (a:Bool):sm a true=a:=by cases a <;> simp [← WP]
theorem WQ (a:Bool):sm a false=!a:=by cases a <;> simp [← WP]
theorem ZhF {α:Type}(a:α):sm a a=true:=(KL a a).2 rfl
theorem Zrd {α:Type}(x y:α)(l m:List α):sm (x :: l) (y :: m)=(sm x y && sm l m):=(GZ (by simp [KL])).symm
theorem ZvV {α:Type}(a b:α):sm a b=sm b a:=GZ (by rw [KL]; exact eq_comm)
theorem ZmC {α:Type}(l m:List α):(l.length=m.length∧sm (l.length:Int) (m.length:Int)=true)∨(sm (l.length:Int) (m.length:Int)=false∧sm l m=false):=by
 by_cases h:l.length=m.length
 ·exact .inl ⟨h,by rw [KL,h]⟩
 ·refine .inr ⟨?_,?_⟩ <;> rw [← Bool.not_eq_true,KL]
  ·omega
  ·exact fun e=>h (by rw [e])
theorem ZL {α:Type}(c:Bool)(a b:α):(bif !c then a else b)=bif c then b else a:=by cases c <;> rfl
theorem eqG {α τ:Type}{f:(τ→Option Bool)→τ→Option Bool}(pk:Int→τ)(l m:List α)(e:l.length=m.length){L:Nat}(hL:l.length < L)(K:Option Bool)
  (h1:∀ self (i:Nat) x y,l[i]? = some x→m[i]? = some y→i < l.length→x ∈ l→f self (pk i)=bif sm x y then self (pk ((i:Int) + 1)) else some false)
  (h2:∀ self,f self (pk (l.length:Nat))=K):Zo f L (pk 0)=bif sm l m then K else some false:=by
 have:=Zdu (f := f) l.length pk (fun i=>bif sm (l.drop i) (m.drop i) then K else some false) (fun self i hi e'=>by
  have hx:=List.getElem?_eq_getElem hi
  have hy:=List.getElem?_eq_getElem (show i < m.length by omega)
  rw [List.drop_eq_getElem_cons hi,List.drop_eq_getElem_cons (show i < m.length by omega),Zrd,h1 self i _ _ hx hy hi (List.getElem_mem hi),e']
  cases sm l[i] m[i] <;> rfl) (fun self=>by rw [List.drop_length,e,List.drop_length,ZhF]; rw [← e]; exact h2 self) L 0 (Nat.zero_le _) (by omega)
 exact this
theorem eqL {α:Type}{f:(Int×PUnit→Option Bool)→Int×PUnit→Option Bool}(l m:List α){L:Nat}(hL:l.length < L)
  (h1:∀ self (i:Nat) x y,l[i]? = some x→m[i]? = some y→i < l.length→x ∈ l→f self ((i:Int),())=bif sm x y then self ((i:Int) + 1,()) else some false)
  (h2:∀ self,f self ((l.length:Int),())=some true):(bif (l.length:Int) != (m.length:Int) then some false else Zo f L (0,()))=some (sm l m):=by
 rw [Zw,WN]
 rcases ZmC l m with ⟨e,e2⟩ | ⟨e2,e3⟩
 ·rw [e2,eqG (fun i=>(i,())) l m e hL (some true) h1 h2]; cases sm l m <;> rfl
 ·rw [e2,e3]; rfl
theorem ZtS (x y:Zcl):sm x y=(sm x.From y.From && (sm x.To y.To && (sm x.Delay y.Delay))):=(GZ (by cases x; cases y; simp only [Bool.and_eq_true,KL,Zcl.mk.injEq])).symm
theorem Znn (x y:WO):sm x y=(sm x.Name y.Name && (sm x.Ty y.Ty && (sm x.N y.N))):=(GZ (by cases x; cases y; simp only [Bool.and_eq_true,KL,WO.mk.injEq])).symm
theorem Znl (x y:Y1):sm x y=(sm x.Name y.Name && (sm x.Ty y.Ty)):=(GZ (by cases x; cases y; simp only [Bool.and_eq_true,KL,Y1.mk.injEq])).symm
theorem Zek (x y:Yo):sm x y=(sm x.Name y.Name && (sm x.Length y.Length && (sm x.Step y.Step))):=(GZ (by cases x; cases y; simp only [Bool.and_eq_true,KL,Yo.mk.injEq])).symm
theorem ZaZ (x y:ZO):sm x y=(sm x.Name y.Name && (sm x.Room y.Room && (sm x.Policy y.Policy))):=(GZ (by cases x; cases y; simp only [Bool.and_eq_true,KL,ZO.mk.injEq])).symm
theorem ZjL (x y:QR):sm x y=(sm x.At_ y.At_ && (sm x.Units y.Units)):=(GZ (by cases x; cases y; simp only [Bool.and_eq_true,KL,QR.mk.injEq])).symm
theorem Zrc (x y:JC):sm x y=(sm x.Coef y.Coef && (sm x.What y.What && (sm x.Name y.Name))):=(GZ (by cases x; cases y; simp only [Bool.and_eq_true,KL,JC.mk.injEq])).symm
theorem ZvU (x y:Bd):sm x y=(sm x.From y.From && (sm x.To y.To && (sm x.Delay y.Delay))):=(GZ (by cases x; cases y; simp only [Bool.and_eq_true,KL,Bd.mk.injEq])).symm
theorem Zra (x y:RV):sm x y=(sm x.Name y.Name && (sm x.Terms y.Terms && (sm x.Total y.Total))):=(GZ (by cases x; cases y; simp only [Bool.and_eq_true,KL,RV.mk.injEq])).symm
theorem Znm (x y:Qm):sm x y=(sm x.Routine y.Routine && (sm x.Args y.Args && (sm x.At_ y.At_ && (sm x.Every y.Every && (sm x.Until y.Until))))):=(GZ (by cases x; cases y; simp only [Bool.and_eq_true,KL,Qm.mk.injEq])).symm
theorem Znk (x y:Tf):sm x y=(sm x.Stream y.Stream && (sm x.Up y.Up && (sm x.Down y.Down))):=(GZ (by cases x; cases y; simp only [Bool.and_eq_true,KL,Tf.mk.injEq])).symm
theorem IC (x y:Zn):sm x y=(sm x.Name y.Name && (sm x.Units y.Units && (sm x.Shift y.Shift && (sm x.Cycle y.Cycle && (sm x.Fault y.Fault))))):=(GZ (by cases x; cases y; simp only [Bool.and_eq_true,KL,Zn.mk.injEq])).symm
theorem Zgl (x y:ZJ):sm x y=(sm x.Name y.Name && (sm x.Params y.Params && (sm x.Locals y.Locals && (sm x.Body y.Body)))):=(GZ (by cases x; cases y; simp only [Bool.and_eq_true,KL,ZJ.mk.injEq])).symm
theorem Zrb (x y:Zy):sm x y=(sm x.Op y.Op && (sm x.Name y.Name && (sm x.Of y.Of && (sm x.E y.E && (sm x.F y.F && (sm x.Args y.Args && (sm x.Dist y.Dist && (sm x.Flag y.Flag && (sm x.Body y.Body && (sm x.Else y.Else)))))))))):=(GZ (by cases x; cases y; simp only [Bool.and_eq_true,KL,Zy.mk.injEq])).symm
theorem Vf (x y:Zc):sm x y=(sm x.Name y.Name && (sm x.Vars y.Vars && (sm x.Resources y.Resources && (sm x.Stores y.Stores && (sm x.Belts y.Belts && (sm x.Queues y.Queues && (sm x.Streams y.Streams && (sm x.Tallies y.Tallies && (sm x.Levels y.Levels && (sm x.Counts y.Counts && (sm x.Routines y.Routines && (sm x.Starts y.Starts && (sm x.Laws y.Laws))))))))))))):=(GZ (by cases x; cases y; simp only [Bool.and_eq_true,KL,Zc.mk.injEq])).symm
theorem ZhE (x y:ZZ):sm x y=(sm x.Op y.Op && (sm x.A y.A && (sm x.B y.B && (sm x.C y.C && (sm x.E y.E && (sm x.F y.F && (sm x.Args y.Args && (sm x.Dist y.Dist && (sm x.Flag y.Flag))))))))):=(GZ (by cases x; cases y; simp only [Bool.and_eq_true,KL,ZZ.mk.injEq])).symm
theorem ZqZ (x y:Y8):sm x y=(sm x.Name y.Name && (sm x.Params y.Params && (sm x.Slots y.Slots && (sm x.Instrs y.Instrs)))):=(GZ (by cases x; cases y; simp only [Bool.and_eq_true,KL,Y8.mk.injEq])).symm
theorem En (x y:Z4):sm x y=(sm x.Decl y.Decl && (sm x.Routines y.Routines)):=(GZ (by cases x; cases y; simp only [Bool.and_eq_true,KL,Z4.mk.injEq])).symm
theorem P7 (x y:Zm):sm x y=(sm x.Name y.Name && (sm x.Sites y.Sites && (sm x.Links y.Links))):=(GZ (by cases x; cases y; simp only [Bool.and_eq_true,KL,Zm.mk.injEq])).symm
mutual
theorem ZjH:∀ a b:Zt,Ba a b=true↔a=b
 | ⟨o,a,n,ks⟩,⟨o',a',n',ks'⟩=>by
  have:=Zgj ks ks'
  rw [Ba]
  by_cases hl:ks.length=ks'.length
  ·simp only [Zi9,Zt.mk.injEq,hl,this hl,ne_eq,decide_not,decide_true,Bool.not_true,Bool.or_false]
   by_cases h1:o=o' <;> by_cases h2:a=a' <;> by_cases h3:n=n' <;> simp [h1,h2,h3,this hl]
  ·have h2:¬ ((ks.length:Int)=(ks'.length:Int)):=by omega
   have h3:ks≠ks':=fun e=>hl (by rw [e])
   simp [h2,h3]
theorem Zgj:∀ l m:List Zt,l.length=m.length→(NF l m=true↔l=m)
 | [],[],_=>by rw [NF] <;> simp
 | x :: r,y :: s,h=>by
  have h1:=ZjH x y
  have h2:=Zgj r s (by simpa using h)
  rw [NF,List.cons.injEq,← h1,← h2]
  cases Ba x y <;> simp
end
theorem Znh (a b:Zt):Ba a b=sm a b:=GZ (ZjH a b)
theorem Zmt (a b:YP):Ziu a b=sm a b:=by rw [Zp0,WN]
theorem CV (L:Nat)(a b:Zt)(h:Yk a)(hL:2 * SizeOf.sizeOf a≤L):Q4 L (a,b,())=some (sm a b):=by rw [ZkK L a b h (by omega),Znh]
theorem Pj (L:Nat)(a b:Zt)(h:Yk a)(hL:2 * SizeOf.sizeOf a≤L):Qv L (a,b,())=some (sm a b):=by rw [show Qv L (a,b,())=_ from Zha L L a b h hL (Nat.le_refl _),Znh]
theorem ZgM (L:Nat)(a b:YP)(h:Jq a)(hL:SizeOf.sizeOf a≤L):Qg L (a,b,())=some (sm a b):=by rw [Zd8 L a b h hL,Zmt]
theorem ZbZ (L:Nat)(a b:YP)(h:Jq a)(hL:SizeOf.sizeOf a≤L):QG L (a,b,())=some (sm a b):=by rw [AO L a b h hL,Zmt]
theorem Zxa (L:Nat)(l m:List Zcl)(h:Len l)(hL:l.length < L):YA L (l,m,())=some (sm l m):=by
 rw [Uo]; exact eqL l m hL (fun self i x y hx hy hi _=>by rw [Wq]; simp only [Ze,Zb,cond_true,cond_false,Zd,Zq,Za,Zi,condC,Zh,ZL,Zx,Z5,WP,WR,WQ,Zw,WN,← Bool.not_and,Bool.not_not,Bool.cond_true_left,Bool.cond_false_right,Bool.cond_true_right,Bool.and_true,Bool.and_assoc,hi,hx,hy,wrap_succ hi (by omega),ZtS]) (fun self=>by rw [Wq]; simp only [Ze,Zb,cond_true,cond_false,Zd,Zq,Za,Zi,condC,Zh,ZL,Zx,Z5,WP,WR,WQ,Zw,WN,← Bool.not_and,Bool.not_not,Bool.cond_true_left,Bool.cond_false_right,Bool.cond_true_right,Bool.and_true,Bool.and_assoc])
theorem ZmE (L:Nat)(l m:List WO)(h:Len l)(hL:l.length < L):ZW L (l,m,())=some (sm l m):=by
 rw [VM]; exact eqL l m hL (fun self i x y hx hy hi _=>by rw [YJ]; simp only [Ze,Zb,cond_true,cond_false,Zd,Zq,Za,Zi,condC,Zh,ZL,Zx,Z5,WP,WR,WQ,Zw,WN,← Bool.not_and,Bool.not_not,Bool.cond_true_left,Bool.cond_false_right,Bool.cond_true_right,Bool.and_true,Bool.and_assoc,hi,hx,hy,wrap_succ hi (by omega),Znn]) (fun self=>by rw [YJ]; simp only [Ze,Zb,cond_true,cond_false,Zd,Zq,Za,Zi,condC,Zh,ZL,Zx,Z5,WP,WR,WQ,Zw,WN,← Bool.not_and,Bool.not_not,Bool.cond_true_left,Bool.cond_false_right,Bool.cond_true_right,Bool.and_true,Bool.and_assoc])
theorem ZmD (L:Nat)(l m:List Y1)(h:Len l)(hL:l.length < L):ZV L (l,m,())=some (sm l m):=by
 rw [VL]; exact eqL l m hL (fun self i x y hx hy hi _=>by rw [YI]; simp only [Ze,Zb,cond_true,cond_false,Zd,Zq,Za,Zi,condC,Zh,ZL,Zx,Z5,WP,WR,WQ,Zw,WN,← Bool.not_and,Bool.not_not,Bool.cond_true_left,Bool.cond_false_right,Bool.cond_true_right,Bool.and_true,Bool.and_assoc,hi,hx,hy,wrap_succ hi (by omega),Znl]) (fun self=>by rw [YI]; simp only [Ze,Zb,cond_true,cond_false,Zd,Zq,Za,Zi,condC,Zh,ZL,Zx,Z5,WP,WR,WQ,Zw,WN,← Bool.not_and,Bool.not_not,Bool.cond_true_left,Bool.cond_false_right,Bool.cond_true_right,Bool.and_true,Bool.and_assoc])
theorem Zk2 (L:Nat)(l m:List Yo)(h:Len l)(hL:l.length < L):Yb L (l,m,())=some (sm l m):=by
 rw [XA]; exact eqL l m hL (fun self i x y hx hy hi _=>by rw [Yx]; simp only [Ze,Zb,cond_true,cond_false,Zd,Zq,Za,Zi,condC,Zh,ZL,Zx,Z5,WP,WR,WQ,Zw,WN,← Bool.not_and,Bool.not_not,Bool.cond_true_left,Bool.cond_false_right,Bool.cond_true_right,Bool.and_true,Bool.and_assoc,hi,hx,hy,wrap_succ hi (by omega),Zek]) (fun self=>by rw [Yx]; simp only [Ze,Zb,cond_true,cond_false,Zd,Zq,Za,Zi,condC,Zh,ZL,Zx,Z5,WP,WR,WQ,Zw,WN,← Bool.not_and,Bool.not_not,Bool.cond_true_left,Bool.cond_false_right,Bool.cond_true_right,Bool.and_true,Bool.and_assoc])
theorem ZiH (L:Nat)(l m:List ZO)(h:Len l)(hL:l.length < L):ZR L (l,m,())=some (sm l m):=by
 rw [Xn]; exact eqL l m hL (fun self i x y hx hy hi _=>by rw [Yq]; simp only [Ze,Zb,cond_true,cond_false,Zd,Zq,Za,Zi,condC,Zh,ZL,Zx,Z5,WP,WR,WQ,Zw,WN,← Bool.not_and,Bool.not_not,Bool.cond_true_left,Bool.cond_false_right,Bool.cond_true_right,Bool.and_true,Bool.and_assoc,hi,hx,hy,wrap_succ hi (by omega),ZaZ]) (fun self=>by rw [Yq]; simp only [Ze,Zb,cond_true,cond_false,Zd,Zq,Za,Zi,condC,Zh,ZL,Zx,Z5,WP,WR,WQ,Zw,WN,← Bool.not_and,Bool.not_not,Bool.cond_true_left,Bool.cond_false_right,Bool.cond_true_right,Bool.and_true,Bool.and_assoc])
theorem Zqb (L:Nat)(l m:List QR)(h:Len l)(hL:l.length < L):Yg L (l,m,())=some (sm l m):=by
 rw [V3]; exact eqL l m hL (fun self i x y hx hy hi _=>by rw [YD]; simp only [Ze,Zb,cond_true,cond_false,Zd,Zq,Za,Zi,condC,Zh,ZL,Zx,Z5,WP,WR,WQ,Zw,WN,← Bool.not_and,Bool.not_not,Bool.cond_true_left,Bool.cond_false_right,Bool.cond_true_right,Bool.and_true,Bool.and_assoc,hi,hx,hy,wrap_succ hi (by omega),ZjL]) (fun self=>by rw [YD]; simp only [Ze,Zb,cond_true,cond_false,Zd,Zq,Za,Zi,condC,Zh,ZL,Zx,Z5,WP,WR,WQ,Zw,WN,← Bool.not_and,Bool.not_not,Bool.cond_true_left,Bool.cond_false_right,Bool.cond_true_right,Bool.and_true,Bool.and_assoc])
theorem ZuN (L:Nat)(l m:List JC)(h:Len l)(hL:l.length < L):Y0 L (l,m,())=some (sm l m):=by
 rw [J7]; exact eqL l m hL (fun self i x y hx hy hi _=>by rw [YU]; simp only [Ze,Zb,cond_true,cond_false,Zd,Zq,Za,Zi,condC,Zh,ZL,Zx,Z5,WP,WR,WQ,Zw,WN,← Bool.not_and,Bool.not_not,Bool.cond_true_left,Bool.cond_false_right,Bool.cond_true_right,Bool.and_true,Bool.and_assoc,hi,hx,hy,wrap_succ hi (by omega),Zrc]) (fun self=>by rw [YU]; simp only [Ze,Zb,cond_true,cond_false,Zd,Zq,Za,Zi,condC,Zh,ZL,Zx,Z5,WP,WR,WQ,Zw,WN,← Bool.not_and,Bool.not_not,Bool.cond_true_left,Bool.cond_false_right,Bool.cond_true_right,Bool.and_true,Bool.and_assoc])
theorem ZuM (L:Nat)(l m:List Bd)(h:Len l)(hL:l.length < L):Yz L (l,m,())=some (sm l m):=by
 rw [J6]; exact eqL l m hL (fun self i x y hx hy hi _=>by rw [YT]; simp only [Ze,Zb,cond_true,cond_false,Zd,Zq,Za,Zi,condC,Zh,ZL,Zx,Z5,WP,WR,WQ,Zw,WN,← Bool.not_and,Bool.not_not,Bool.cond_true_left,Bool.cond_false_right,Bool.cond_true_right,Bool.and_true,Bool.and_assoc,hi,hx,hy,wrap_succ hi (by omega),ZvU]) (fun self=>by rw [YT]; simp only [Ze,Zb,cond_true,cond_false,Zd,Zq,Za,Zi,condC,Zh,ZL,Zx,Z5,WP,WR,WQ,Zw,WN,← Bool.not_and,Bool.not_not,Bool.cond_true_left,Bool.cond_false_right,Bool.cond_true_right,Bool.and_true,Bool.and_assoc])
theorem Zxb (L:Nat)(l m:List (List UInt8))(h:Len l)(hL:l.length < L):ZI L (l,m,())=some (sm l m):=by
 rw [KC]; exact eqL l m hL (fun self i x y hx hy hi _=>by rw [WL]; simp only [Ze,Zb,cond_true,cond_false,Zd,Zq,Za,Zi,condC,Zh,ZL,Zx,Z5,WP,WR,WQ,Zw,WN,← Bool.not_and,Bool.not_not,Bool.cond_true_left,Bool.cond_false_right,Bool.cond_true_right,Bool.and_true,Bool.and_assoc,hi,hx,hy,wrap_succ hi (by omega)]) (fun self=>by rw [WL]; simp only [Ze,Zb,cond_true,cond_false,Zd,Zq,Za,Zi,condC,Zh,ZL,Zx,Z5,WP,WR,WQ,Zw,WN,← Bool.not_and,Bool.not_not,Bool.cond_true_left,Bool.cond_false_right,Bool.cond_true_right,Bool.and_true,Bool.and_assoc])
theorem Zxc (L:Nat)(l m:List (List UInt8))(h:Len l)(hL:l.length < L):WW L (l,m,())=some (sm l m):=by
 rw [ZdN]; exact eqL l m hL (fun self i x y hx hy hi _=>by rw [Gm]; simp only [Ze,Zb,cond_true,cond_false,Zd,Zq,Za,Zi,condC,Zh,ZL,Zx,Z5,WP,WR,WQ,Zw,WN,← Bool.not_and,Bool.not_not,Bool.cond_true_left,Bool.cond_false_right,Bool.cond_true_right,Bool.and_true,Bool.and_assoc,hi,hx,hy,wrap_succ hi (by omega)]) (fun self=>by rw [Gm]; simp only [Ze,Zb,cond_true,cond_false,Zd,Zq,Za,Zi,condC,Zh,ZL,Zx,Z5,WP,WR,WQ,Zw,WN,← Bool.not_and,Bool.not_not,Bool.cond_true_left,Bool.cond_false_right,Bool.cond_true_right,Bool.and_true,Bool.and_assoc])
theorem ZzL (L:Nat)(l m:List Int)(h:Len l)(hL:l.length < L):UW L (l,m,())=some (sm l m):=by
 rw [Zfc]; exact eqL l m hL (fun self i x y hx hy hi _=>by rw [Iz]; simp only [Ze,Zb,cond_true,cond_false,Zd,Zq,Za,Zi,condC,Zh,ZL,Zx,Z5,WP,WR,WQ,Zw,WN,← Bool.not_and,Bool.not_not,Bool.cond_true_left,Bool.cond_false_right,Bool.cond_true_right,Bool.and_true,Bool.and_assoc,hi,hx,hy,wrap_succ hi (by omega)]) (fun self=>by rw [Iz]; simp only [Ze,Zb,cond_true,cond_false,Zd,Zq,Za,Zi,condC,Zh,ZL,Zx,Z5,WP,WR,WQ,Zw,WN,← Bool.not_and,Bool.not_not,Bool.cond_true_left,Bool.cond_false_right,Bool.cond_true_right,Bool.and_true,Bool.and_assoc])
theorem Zz5 (L:Nat)(l m:List Y1)(h:Len l)(hL:l.length < L):XD L (l,m,())=some (sm l m):=by
 rw [ZbG]; exact eqL l m hL (fun self i x y hx hy hi _=>by rw [U5]; simp only [Ze,Zb,cond_true,cond_false,Zd,Zq,Za,Zi,condC,Zh,ZL,Zx,Z5,WP,WR,WQ,Zw,WN,← Bool.not_and,Bool.not_not,Bool.cond_true_left,Bool.cond_false_right,Bool.cond_true_right,Bool.and_true,Bool.and_assoc,hi,hx,hy,wrap_succ hi (by omega),Znl]) (fun self=>by rw [U5]; simp only [Ze,Zb,cond_true,cond_false,Zd,Zq,Za,Zi,condC,Zh,ZL,Zx,Z5,WP,WR,WQ,Zw,WN,← Bool.not_and,Bool.not_not,Bool.cond_true_left,Bool.cond_false_right,Bool.cond_true_right,Bool.and_true,Bool.and_assoc])
theorem ZuO (L:Nat)(l m:List WO)(h:Len l)(hL:l.length < L):Jc L (l,m,())=some (sm l m):=by
 rw [ZbH]; exact eqL l m hL (fun self i x y hx hy hi _=>by rw [U6]; simp only [Ze,Zb,cond_true,cond_false,Zd,Zq,Za,Zi,condC,Zh,ZL,Zx,Z5,WP,WR,WQ,Zw,WN,← Bool.not_and,Bool.not_not,Bool.cond_true_left,Bool.cond_false_right,Bool.cond_true_right,Bool.and_true,Bool.and_assoc,hi,hx,hy,wrap_succ hi (by omega),Znn]) (fun self=>by rw [U6]; simp only [Ze,Zb,cond_true,cond_false,Zd,Zq,Za,Zi,condC,Zh,ZL,Zx,Z5,WP,WR,WQ,Zw,WN,← Bool.not_and,Bool.not_not,Bool.cond_true_left,Bool.cond_false_right,Bool.cond_true_right,Bool.and_true,Bool.and_assoc])
theorem ZzK (L:Nat)(l m:List Int)(h:Len l)(hL:l.length < L):Yr L (l,m,())=some (sm l m):=by rw [ZgW L l m h hL,WN]
end Go.Proofs.YtleomfgijkapfaaGreatDoor
end
section
namespace Go.Proofs.YtleomfgijkapfaaGreatDoor
open Go Go.Proofs.YtleomfgijkapfaaGreatDoor.Abs Go.Proofs.YtleomfgijkapfaaGreatDoor.Tl
set_option maxRecDepth 100000
theorem ZrN {α:Type}(a b:Bool)(x y:α):(bif a then (bif b then x else y) else y)=bif (a && b) then x else y:=by cases a <;> rfl
mutual
theorem ZxE (L:Nat):∀ (m:Nat) (a b:Zy),YB a→2 * SizeOf.sizeOf a≤m→m≤L→Pg L m (a,b,())=some (sm a b)
 | 0,a,_,_,h,_=>absurd h (by
  have:0 < SizeOf.sizeOf a:=by cases a; simp; omega
  omega)
 | m + 1,a,b,ok,h,hm=>by
  have z1:=Zrz a; have z2:=Zaj a; have hl:=Zu a.Args; have ha:=ok.Args.1; have hb:=ok.Body; have he:=ok.Else
  have lp:=eqL (f := O5 a b L) a.Args b.Args (L := L) (by omega) (fun self i x y hx hy hi mem=>by
   have:=Zzv mem
   rw [O5]; simp only [Ze,Zb,cond_true,cond_false,Zd,Zq,Za,Zi,condC,Zh,ZL,Zx,Z5,WP,WR,WQ,Zw,WN,← Bool.not_and,Bool.not_not,Bool.cond_true_left,Bool.cond_false_right,Bool.cond_true_right,Bool.and_true,Bool.and_assoc,hi,hx,hy,CV L x y (ok.Args.2 x mem) (by omega),wrap_succ hi (by omega)]) (fun self=>by rw [O5]; simp only [Ze,Zb,cond_true,cond_false,Zd,Zq,Za,Zi,condC,Zh,ZL,Zx,Z5,WP,WR,WQ,Zw,WN,← Bool.not_and,Bool.not_not,Bool.cond_true_left,Bool.cond_false_right,Bool.cond_true_right,Bool.and_true,Bool.and_assoc])
  rw [Zl3,lp]
  simp only [Ze,Zb,cond_true,cond_false,Zd,Zq,Za,Zi,condC,Zh,ZL,Zx,Z5,WP,WR,WQ,Zw,WN,← Bool.not_and,Bool.not_not,Bool.cond_true_left,Bool.cond_false_right,Bool.cond_true_right,Bool.and_true,Bool.and_assoc,CV L a.E b.E ok.E (by omega),CV L a.F b.F ok.F (by omega),ZgM L a.Dist b.Dist ok.Dist (by omega),ZvG L m a.Body b.Body (by unfold Len; omega) hb.2 (by omega) (by omega),ZvG L m a.Else b.Else (by unfold Len; omega) he.2 (by omega) (by omega),Zrb]
  ac_rfl
theorem ZvG (L:Nat):∀ (m:Nat) (l k:List Zy),Len l→(∀ x ∈ l,YB x)→2 * SizeOf.sizeOf l + 1≤m→m≤L→Gf L m (l,k,())=some (sm l k)
 | 0,l,_,_,_,h,_=>absurd h (by omega)
 | m + 1,l,k,hn,ok,h,hm=>by
  have hl:=Zu l
  have lp:=eqL (f := O4 m l k L) l k (L := L) (by omega) (fun self i x y hx hy hi mem=>by
   have:=List.sizeOf_lt_of_mem mem
   rw [O4]; simp only [Ze,Zb,cond_true,cond_false,Zd,Zq,Za,Zi,condC,Zh,ZL,Zx,Z5,WP,WR,WQ,Zw,WN,← Bool.not_and,Bool.not_not,Bool.cond_true_left,Bool.cond_false_right,Bool.cond_true_right,Bool.and_true,Bool.and_assoc,hi,hx,hy,ZxE L m x y (ok x mem) (by omega) (by omega),wrap_succ hi (by omega)]) (fun self=>by rw [O4]; simp only [Ze,Zb,cond_true,cond_false,Zd,Zq,Za,Zi,condC,Zh,ZL,Zx,Z5,WP,WR,WQ,Zw,WN,← Bool.not_and,Bool.not_not,Bool.cond_true_left,Bool.cond_false_right,Bool.cond_true_right,Bool.and_true,Bool.and_assoc])
  rw [Zl1,lp]; rfl
end
theorem ZuR (L:Nat)(l k:List Zy)(hn:Len l)(ok:∀ x ∈ l,YB x)(h:2 * SizeOf.sizeOf l + 1≤L):EG L (l,k,())=some (sm l k):=ZvG L L l k hn ok h (Nat.le_refl _)
theorem Zsr (L:Nat)(l k:List Zt)(hn:Len l)(ok:∀ x ∈ l,Yk x)(h:2 * SizeOf.sizeOf l≤L):Uh L (l,k,())=some (sm l k):=by
 have hl:=Zu l
 rw [ZdM]
 exact eqL l k (by omega) (fun self i x y hx hy hi mem=>by
  have:=List.sizeOf_lt_of_mem mem
  rw [Gl]; simp only [Ze,Zb,cond_true,cond_false,Zd,Zq,Za,Zi,condC,Zh,ZL,Zx,Z5,WP,WR,WQ,Zw,WN,← Bool.not_and,Bool.not_not,Bool.cond_true_left,Bool.cond_false_right,Bool.cond_true_right,Bool.and_true,Bool.and_assoc,hi,hx,hy,Pj L x y (ok x mem) (by omega),wrap_succ hi (by omega)]) (fun self=>by rw [Gl]; simp only [Ze,Zb,cond_true,cond_false,Zd,Zq,Za,Zi,condC,Zh,ZL,Zx,Z5,WP,WR,WQ,Zw,WN,← Bool.not_and,Bool.not_not,Bool.cond_true_left,Bool.cond_false_right,Bool.cond_true_right,Bool.and_true,Bool.and_assoc])
theorem ZqC (L:Nat):∀ (m:Nat) (l k:List Zy),Len l→(∀ x ∈ l,YB x)→2 * SizeOf.sizeOf l≤m→m≤L→Oe L m (l,k,())=some (sm l k)
 | 0,l,_,_,_,h,_=>absurd h (by have:=ZvX l; omega)
 | m + 1,l,k,hn,ok,h,hm=>by
  have hl:=Zu l
  rw [Zok]
  exact eqL l k (by omega) (fun self i x y hx hy hi mem=>by
   have:=List.sizeOf_lt_of_mem mem
   have z1:=Zrz x; have z2:=Zaj x; have o:=ok x mem; have ha:=o.Args.1; have hb:=o.Body; have he:=o.Else
   rw [Ed]
   simp only [Ze,Zb,cond_true,cond_false,Zd,Zq,Za,Zi,condC,Zh,ZL,Zx,Z5,WP,WR,WQ,Zw,WN,← Bool.not_and,Bool.not_not,Bool.cond_true_left,Bool.cond_false_right,Bool.cond_true_right,Bool.and_true,Bool.and_assoc,hi,hx,hy,Pj L x.E y.E o.E (by omega),Pj L x.F y.F o.F (by omega),Zsr L x.Args y.Args (by unfold Len; omega) o.Args.2 (by omega),ZbZ L x.Dist y.Dist o.Dist (by omega),ZqC L m x.Body y.Body (by unfold Len; omega) hb.2 (by omega) (by omega),ZqC L m x.Else y.Else (by unfold Len; omega) he.2 (by omega) (by omega),wrap_succ hi (by omega),Zrb,ZrN]
   congr 1; ac_rfl) (fun self=>by rw [Ed]; simp only [Ze,Zb,cond_true,cond_false,Zd,Zq,Za,Zi,condC,Zh,ZL,Zx,Z5,WP,WR,WQ,Zw,WN,← Bool.not_and,Bool.not_not,Bool.cond_true_left,Bool.cond_false_right,Bool.cond_true_right,Bool.and_true,Bool.and_assoc])
theorem Zss (L:Nat)(l k:List Zy)(hn:Len l)(ok:∀ x ∈ l,YB x)(h:2 * SizeOf.sizeOf l≤L):Zao L (l,k,())=some (sm l k):=ZqC L L l k hn ok h (Nat.le_refl _)
theorem ZtV (x:Zn):SizeOf.sizeOf x.Shift < SizeOf.sizeOf x∧SizeOf.sizeOf x.Fault.Up < SizeOf.sizeOf x∧SizeOf.sizeOf x.Fault.Down < SizeOf.sizeOf x:=by obtain ⟨_,_,_,_,⟨_,_,_⟩⟩:=x; simp; omega
theorem ZtU (x:RV):SizeOf.sizeOf x.Terms < SizeOf.sizeOf x:=by cases x; simp; omega
theorem ZtW (x:Qm):SizeOf.sizeOf x.Args < SizeOf.sizeOf x:=by cases x; simp; omega
theorem ZyY (L:Nat)(a b:RV)(ok:Zka a)(h:SizeOf.sizeOf a≤L):Ue L (a,b,())=some (sm a b):=by
 have h1:=ZtU a; have h2:=Zu a.Terms; have h3:=ok.Terms.1
 rw [ZdJ]; simp only [Ze,Zb,cond_true,cond_false,Zd,Zq,Za,Zi,condC,Zh,ZL,Zx,Z5,WP,WR,WQ,Zw,WN,← Bool.not_and,Bool.not_not,Bool.cond_true_left,Bool.cond_false_right,Bool.cond_true_right,Bool.and_true,Bool.and_assoc,ZuN L a.Terms b.Terms (by unfold Len; omega) (by omega),Zra]; ac_rfl
theorem Zxd (L:Nat)(a b:RV)(ok:Zka a)(h:SizeOf.sizeOf a≤L):Hw L (a,b,())=some (sm a b):=by
 have h1:=ZtU a; have h2:=Zu a.Terms; have h3:=ok.Terms.1
 rw [Zhr]
 rcases ZmC a.Terms b.Terms with ⟨e,e2⟩ | ⟨e2,e3⟩
 ·have lp:=eqG (f := UO a b) (fun i=>(i,())) a.Terms b.Terms e (L := L) (by omega) (some true) (fun self i x y hx hy hi mem=>by rw [UO]; simp only [Ze,Zb,cond_true,cond_false,Zd,Zq,Za,Zi,condC,Zh,ZL,Zx,Z5,WP,WR,WQ,Zw,WN,← Bool.not_and,Bool.not_not,Bool.cond_true_left,Bool.cond_false_right,Bool.cond_true_right,Bool.and_true,Bool.and_assoc,hi,hx,hy,wrap_succ hi (by omega),Zrc]) (fun self=>by rw [UO]; simp only [Ze,Zb,cond_true,cond_false,Zd,Zq,Za,Zi,condC,Zh,ZL,Zx,Z5,WP,WR,WQ,Zw,WN,← Bool.not_and,Bool.not_not,Bool.cond_true_left,Bool.cond_false_right,Bool.cond_true_right,Bool.and_true,Bool.and_assoc])
  simp only [Ze,Zb,cond_true,cond_false,Zd,Zq,Za,Zi,condC,Zh,ZL,Zx,Z5,WP,WR,WQ,Zw,WN,← Bool.not_and,Bool.not_not,Bool.cond_true_left,Bool.cond_false_right,Bool.cond_true_right,Bool.and_true,Bool.and_assoc,lp,e2,Zra]; congr 1; ac_rfl
 ·simp only [Ze,Zb,cond_true,cond_false,Zd,Zq,Za,Zi,condC,Zh,ZL,Zx,Z5,WP,WR,WQ,Zw,WN,← Bool.not_and,Bool.not_not,Bool.cond_true_left,Bool.cond_false_right,Bool.cond_true_right,Bool.and_true,Bool.and_assoc,e2,e3,Zra,Bool.and_false,Bool.false_and]
theorem ZuT (L:Nat)(a b:Qm)(ok:Be a)(h:SizeOf.sizeOf a≤L):V8 L (a,b,())=some (sm a b):=by
 have h1:=ZtW a; have h2:=Zu a.Args; have h3:=ok.Args.1
 rw [CY]; simp only [Ze,Zb,cond_true,cond_false,Zd,Zq,Za,Zi,condC,Zh,ZL,Zx,Z5,WP,WR,WQ,Zw,WN,← Bool.not_and,Bool.not_not,Bool.cond_true_left,Bool.cond_false_right,Bool.cond_true_right,Bool.and_true,Bool.and_assoc,ZzK L a.Args b.Args (by unfold Len; omega) (by omega),Znm]
theorem Zza (L:Nat)(a b:ZJ)(ok:Ic a)(h:2 * SizeOf.sizeOf a≤L):X8 L (a,b,())=some (sm a b):=by
 have h1:=ZjO a; have h2:=Zu a.Params; have h3:=ok.Params.1; have h4:=Zu a.Locals; have h5:=ok.Locals.1; have h6:=ok.Body.1
 rw [Eb]; simp only [Ze,Zb,cond_true,cond_false,Zd,Zq,Za,Zi,condC,Zh,ZL,Zx,Z5,WP,WR,WQ,Zw,WN,← Bool.not_and,Bool.not_not,Bool.cond_true_left,Bool.cond_false_right,Bool.cond_true_right,Bool.and_true,Bool.and_assoc,ZmD L a.Params b.Params (by unfold Len; omega) (by omega),ZmD L a.Locals b.Locals (by unfold Len; omega) (by omega),ZuR L a.Body b.Body (by unfold Len; omega) ok.Body.2 (by omega),Zgl]
theorem ZyZ (L:Nat)(a b:Zn)(ok:YL a)(h:2 * SizeOf.sizeOf a≤L):Xd L (a,b,())=some (sm a b):=by
 have h1:=ZtV a; have h2:=Zu a.Shift; have h3:=ok.Shift.1
 rw [PO]; simp only [Ze,Zb,cond_true,cond_false,Zd,Zq,Za,Zi,condC,Zh,ZL,Zx,Z5,WP,WR,WQ,Zw,WN,← Bool.not_and,Bool.not_not,Bool.cond_true_left,Bool.cond_false_right,Bool.cond_true_right,Bool.and_true,Bool.and_assoc,Zqb L a.Shift b.Shift (by unfold Len; omega) (by omega),ZgM L a.Fault.Up b.Fault.Up ok.Fault.Up (by omega),ZgM L a.Fault.Down b.Fault.Down ok.Fault.Down (by omega),IC,Znk]; ac_rfl
theorem Zxe (L:Nat)(a b:Zn)(ok:YL a)(h:2 * SizeOf.sizeOf a≤L):XR L (a,b,())=some (sm a b):=by
 have h1:=ZtV a; have h2:=Zu a.Shift; have h3:=ok.Shift.1
 rw [Fa]
 rcases ZmC a.Shift b.Shift with ⟨e,e2⟩ | ⟨e2,e3⟩
 ·have lp:=eqG (f := X3 a b L) (fun i=>(i,())) a.Shift b.Shift e (L := L) (by omega) (some (sm a.Fault.Up b.Fault.Up && sm a.Fault.Down b.Fault.Down)) (fun self i x y hx hy hi mem=>by rw [X3]; simp only [Ze,Zb,cond_true,cond_false,Zd,Zq,Za,Zi,condC,Zh,ZL,Zx,Z5,WP,WR,WQ,Zw,WN,← Bool.not_and,Bool.not_not,Bool.cond_true_left,Bool.cond_false_right,Bool.cond_true_right,Bool.and_true,Bool.and_assoc,hi,hx,hy,wrap_succ hi (by omega),ZjL]) (fun self=>by rw [X3]; simp only [Ze,Zb,cond_true,cond_false,Zd,Zq,Za,Zi,condC,Zh,ZL,Zx,Z5,WP,WR,WQ,Zw,WN,← Bool.not_and,Bool.not_not,Bool.cond_true_left,Bool.cond_false_right,Bool.cond_true_right,Bool.and_true,Bool.and_assoc,ZbZ L a.Fault.Up b.Fault.Up ok.Fault.Up (by omega),ZbZ L a.Fault.Down b.Fault.Down ok.Fault.Down (by omega)])
  simp only [Ze,Zb,cond_true,cond_false,Zd,Zq,Za,Zi,condC,Zh,ZL,Zx,Z5,WP,WR,WQ,Zw,WN,← Bool.not_and,Bool.not_not,Bool.cond_true_left,Bool.cond_false_right,Bool.cond_true_right,Bool.and_true,Bool.and_assoc,lp,e2,IC,Znk]; congr 1; ac_rfl
 ·simp only [Ze,Zb,cond_true,cond_false,Zd,Zq,Za,Zi,condC,Zh,ZL,Zx,Z5,WP,WR,WQ,Zw,WN,← Bool.not_and,Bool.not_not,Bool.cond_true_left,Bool.cond_false_right,Bool.cond_true_right,Bool.and_true,Bool.and_assoc,e2,e3,IC,Bool.and_false,Bool.false_and]
end Go.Proofs.YtleomfgijkapfaaGreatDoor
end
section
namespace Go.Proofs.YtleomfgijkapfaaGreatDoor
open Go Go.Proofs.YtleomfgijkapfaaGreatDoor.Abs Go.Proofs.YtleomfgijkapfaaGreatDoor.Tl
set_option maxRecDepth 100000
theorem Zxf (L:Nat)(a b:Zc)(ok:ZA a)(h:2 * SizeOf.sizeOf a≤L):Ja L (a,b,())=some (sm a b):=by
 have z:=Vh a
 have n2:=Zu a.Vars; have n3:=Zu a.Resources; have n4:=Zu a.Stores; have n5:=Zu a.Belts; have n6:=Zu a.Queues; have n7:=Zu a.Streams; have n8:=Zu a.Tallies; have n9:=Zu a.Levels; have n10:=Zu a.Counts; have n11:=Zu a.Routines; have n12:=Zu a.Starts; have n13:=Zu a.Laws
 have k2:=ok.Vars.1; have k3:=ok.Resources.1; have k4:=ok.Stores.1; have k5:=ok.Belts.1; have k6:=ok.Queues.1; have k7:=ok.Streams.1; have k8:=ok.Tallies.1; have k9:=ok.Levels.1; have k10:=ok.Counts.1; have k11:=ok.Routines.1; have k12:=ok.Starts.1; have k13:=ok.Laws.1
 have l0:=eqL (f := Vt a b L) a.Resources b.Resources (L := L) (by omega) (fun self i x y hx hy hi mem=>by
  have:=List.sizeOf_lt_of_mem mem
  rw [Vt]; simp only [Ze,Zb,cond_true,cond_false,Zd,Zq,Za,Zi,condC,Zh,ZL,Zx,Z5,WP,WR,WQ,Zw,WN,← Bool.not_and,Bool.not_not,Bool.cond_true_left,Bool.cond_false_right,Bool.cond_true_right,Bool.and_true,Bool.and_assoc,hi,hx,hy,ZyZ L x y (ok.Resources.2 x mem) (by omega),wrap_succ hi (by omega)]) (fun self=>by rw [Vt]; simp only [Ze,Zb,cond_true,cond_false,Zd,Zq,Za,Zi,condC,Zh,ZL,Zx,Z5,WP,WR,WQ,Zw,WN,← Bool.not_and,Bool.not_not,Bool.cond_true_left,Bool.cond_false_right,Bool.cond_true_right,Bool.and_true,Bool.and_assoc])
 have l1:=eqL (f := Vu a b L) a.Routines b.Routines (L := L) (by omega) (fun self i x y hx hy hi mem=>by
  have:=List.sizeOf_lt_of_mem mem
  rw [Vu]; simp only [Ze,Zb,cond_true,cond_false,Zd,Zq,Za,Zi,condC,Zh,ZL,Zx,Z5,WP,WR,WQ,Zw,WN,← Bool.not_and,Bool.not_not,Bool.cond_true_left,Bool.cond_false_right,Bool.cond_true_right,Bool.and_true,Bool.and_assoc,hi,hx,hy,Zza L x y (ok.Routines.2 x mem) (by omega),wrap_succ hi (by omega)]) (fun self=>by rw [Vu]; simp only [Ze,Zb,cond_true,cond_false,Zd,Zq,Za,Zi,condC,Zh,ZL,Zx,Z5,WP,WR,WQ,Zw,WN,← Bool.not_and,Bool.not_not,Bool.cond_true_left,Bool.cond_false_right,Bool.cond_true_right,Bool.and_true,Bool.and_assoc])
 have l2:=eqL (f := Vw a b L) a.Starts b.Starts (L := L) (by omega) (fun self i x y hx hy hi mem=>by
  have:=List.sizeOf_lt_of_mem mem
  rw [Vw]; simp only [Ze,Zb,cond_true,cond_false,Zd,Zq,Za,Zi,condC,Zh,ZL,Zx,Z5,WP,WR,WQ,Zw,WN,← Bool.not_and,Bool.not_not,Bool.cond_true_left,Bool.cond_false_right,Bool.cond_true_right,Bool.and_true,Bool.and_assoc,hi,hx,hy,ZuT L x y (ok.Starts.2 x mem) (by omega),wrap_succ hi (by omega)]) (fun self=>by rw [Vw]; simp only [Ze,Zb,cond_true,cond_false,Zd,Zq,Za,Zi,condC,Zh,ZL,Zx,Z5,WP,WR,WQ,Zw,WN,← Bool.not_and,Bool.not_not,Bool.cond_true_left,Bool.cond_false_right,Bool.cond_true_right,Bool.and_true,Bool.and_assoc])
 have l3:=eqL (f := Vx a b L) a.Laws b.Laws (L := L) (by omega) (fun self i x y hx hy hi mem=>by
  have:=List.sizeOf_lt_of_mem mem
  rw [Vx]; simp only [Ze,Zb,cond_true,cond_false,Zd,Zq,Za,Zi,condC,Zh,ZL,Zx,Z5,WP,WR,WQ,Zw,WN,← Bool.not_and,Bool.not_not,Bool.cond_true_left,Bool.cond_false_right,Bool.cond_true_right,Bool.and_true,Bool.and_assoc,hi,hx,hy,ZyY L x y (ok.Laws.2 x mem) (by omega),wrap_succ hi (by omega)]) (fun self=>by rw [Vx]; simp only [Ze,Zb,cond_true,cond_false,Zd,Zq,Za,Zi,condC,Zh,ZL,Zx,Z5,WP,WR,WQ,Zw,WN,← Bool.not_and,Bool.not_not,Bool.cond_true_left,Bool.cond_false_right,Bool.cond_true_right,Bool.and_true,Bool.and_assoc])
 rw [ZbE,l0,l1,l2,l3]
 simp only [Ze,Zb,cond_true,cond_false,Zd,Zq,Za,Zi,condC,Zh,ZL,Zx,Z5,WP,WR,WQ,Zw,WN,← Bool.not_and,Bool.not_not,Bool.cond_true_left,Bool.cond_false_right,Bool.cond_true_right,Bool.and_true,Bool.and_assoc,ZmE L a.Vars b.Vars (by unfold Len; omega) (by omega),ZiH L a.Stores b.Stores (by unfold Len; omega) (by omega),Zk2 L a.Belts b.Belts (by unfold Len; omega) (by omega),Zxb L a.Queues b.Queues (by unfold Len; omega) (by omega),Zxb L a.Streams b.Streams (by unfold Len; omega) (by omega),Zxb L a.Tallies b.Tallies (by unfold Len; omega) (by omega),Zxb L a.Levels b.Levels (by unfold Len; omega) (by omega),Zxb L a.Counts b.Counts (by unfold Len; omega) (by omega),Vf]
theorem Zqe (L:Nat)(a b:Zc)(ok:ZA a)(h:2 * SizeOf.sizeOf a≤L):UT L (a,b,())=some (sm a b):=by
 have z:=Vh a
 have n2:=Zu a.Vars; have n3:=Zu a.Resources; have n4:=Zu a.Stores; have n5:=Zu a.Belts; have n6:=Zu a.Queues; have n7:=Zu a.Streams; have n8:=Zu a.Tallies; have n9:=Zu a.Levels; have n10:=Zu a.Counts; have n11:=Zu a.Routines; have n12:=Zu a.Starts; have n13:=Zu a.Laws
 have k2:=ok.Vars.1; have k3:=ok.Resources.1; have k4:=ok.Stores.1; have k5:=ok.Belts.1; have k6:=ok.Queues.1; have k7:=ok.Streams.1; have k8:=ok.Tallies.1; have k9:=ok.Levels.1; have k10:=ok.Counts.1; have k11:=ok.Routines.1; have k12:=ok.Starts.1; have k13:=ok.Laws.1
 have fin:∀ {c:Bool},c=sm a b→some c=some (sm a b):=fun h=>congrArg some h
 rw [ZeZ]
 rcases ZmC a.Resources b.Resources with ⟨a3,e3⟩ | ⟨e3,f3⟩
 rotate_left
 ·simp only [Ze,Zb,cond_true,cond_false,Zd,Zq,Za,Zi,condC,Zh,ZL,Zx,Z5,WP,WR,WQ,Zw,WN,← Bool.not_and,Bool.not_not,Bool.cond_true_left,Bool.cond_false_right,Bool.cond_true_right,Bool.and_true,Bool.and_assoc,ZuO L a.Vars b.Vars (by unfold Len; omega) (by omega),e3,f3,Vf,Bool.and_false,Bool.false_and]
 rcases ZmC a.Stores b.Stores with ⟨a4,e4⟩ | ⟨e4,f4⟩
 rotate_left
 ·simp only [Ze,Zb,cond_true,cond_false,Zd,Zq,Za,Zi,condC,Zh,ZL,Zx,Z5,WP,WR,WQ,Zw,WN,← Bool.not_and,Bool.not_not,Bool.cond_true_left,Bool.cond_false_right,Bool.cond_true_right,Bool.and_true,Bool.and_assoc,ZuO L a.Vars b.Vars (by unfold Len; omega) (by omega),e4,f4,Vf,Bool.and_false,Bool.false_and]
 rcases ZmC a.Belts b.Belts with ⟨a5,e5⟩ | ⟨e5,f5⟩
 rotate_left
 ·simp only [Ze,Zb,cond_true,cond_false,Zd,Zq,Za,Zi,condC,Zh,ZL,Zx,Z5,WP,WR,WQ,Zw,WN,← Bool.not_and,Bool.not_not,Bool.cond_true_left,Bool.cond_false_right,Bool.cond_true_right,Bool.and_true,Bool.and_assoc,ZuO L a.Vars b.Vars (by unfold Len; omega) (by omega),e5,f5,Vf,Bool.and_false,Bool.false_and]
 rcases ZmC a.Routines b.Routines with ⟨a11,e11⟩ | ⟨e11,f11⟩
 rotate_left
 ·simp only [Ze,Zb,cond_true,cond_false,Zd,Zq,Za,Zi,condC,Zh,ZL,Zx,Z5,WP,WR,WQ,Zw,WN,← Bool.not_and,Bool.not_not,Bool.cond_true_left,Bool.cond_false_right,Bool.cond_true_right,Bool.and_true,Bool.and_assoc,ZuO L a.Vars b.Vars (by unfold Len; omega) (by omega),e11,f11,Vf,Bool.and_false,Bool.false_and]
 rcases ZmC a.Starts b.Starts with ⟨a12,e12⟩ | ⟨e12,f12⟩
 rotate_left
 ·simp only [Ze,Zb,cond_true,cond_false,Zd,Zq,Za,Zi,condC,Zh,ZL,Zx,Z5,WP,WR,WQ,Zw,WN,← Bool.not_and,Bool.not_not,Bool.cond_true_left,Bool.cond_false_right,Bool.cond_true_right,Bool.and_true,Bool.and_assoc,ZuO L a.Vars b.Vars (by unfold Len; omega) (by omega),e12,f12,Vf,Bool.and_false,Bool.false_and]
 rcases ZmC a.Laws b.Laws with ⟨a13,e13⟩ | ⟨e13,f13⟩
 rotate_left
 ·simp only [Ze,Zb,cond_true,cond_false,Zd,Zq,Za,Zi,condC,Zh,ZL,Zx,Z5,WP,WR,WQ,Zw,WN,← Bool.not_and,Bool.not_not,Bool.cond_true_left,Bool.cond_false_right,Bool.cond_true_right,Bool.and_true,Bool.and_assoc,ZuO L a.Vars b.Vars (by unfold Len; omega) (by omega),e13,f13,Vf,Bool.and_false,Bool.false_and]
 have l0:=eqG (f := JP a b L) (fun i=>(i,())) a.Laws b.Laws a13 (L := L) (by omega) (some true) (fun self i x y hx hy hi mem=>by
  have:=List.sizeOf_lt_of_mem mem
  rw [JP]; simp only [Ze,Zb,cond_true,cond_false,Zd,Zq,Za,Zi,condC,Zh,ZL,Zx,Z5,WP,WR,WQ,Zw,WN,← Bool.not_and,Bool.not_not,Bool.cond_true_left,Bool.cond_false_right,Bool.cond_true_right,Bool.and_true,Bool.and_assoc,hi,hx,hy,Zxd L x y (ok.Laws.2 x mem) (by omega),wrap_succ hi (by omega)]) (fun self=>by rw [JP]; simp only [Ze,Zb,cond_true,cond_false,Zd,Zq,Za,Zi,condC,Zh,ZL,Zx,Z5,WP,WR,WQ,Zw,WN,← Bool.not_and,Bool.not_not,Bool.cond_true_left,Bool.cond_false_right,Bool.cond_true_right,Bool.and_true,Bool.and_assoc])
 have l1:=eqG (f := JQ a b L) (fun i=>(false,i,())) a.Starts b.Starts a12 (L := L) (by omega) _ (fun self i x y hx hy hi mem=>by
  have:=List.sizeOf_lt_of_mem mem
  have h1:=ZtW x; have h2:=Zu x.Args; have h3:=(ok.Starts.2 x mem).Args.1
  rw [JQ]; simp only [Ze,Zb,cond_true,cond_false,Zd,Zq,Za,Zi,condC,Zh,ZL,Zx,Z5,WP,WR,WQ,Zw,WN,← Bool.not_and,Bool.not_not,Bool.cond_true_left,Bool.cond_false_right,Bool.cond_true_right,Bool.and_true,Bool.and_assoc,hi,hx,hy,ZzL L x.Args y.Args (by unfold Len; omega) (by omega),wrap_succ hi (by omega),Znm]; congr 1; ac_rfl) (fun self=>by rw [JQ]; simp only [Ze,Zb,cond_true,cond_false,Zd,Zq,Za,Zi,condC,Zh,ZL,Zx,Z5,WP,WR,WQ,Zw,WN,← Bool.not_and,Bool.not_not,Bool.cond_true_left,Bool.cond_false_right,Bool.cond_true_right,Bool.and_true,Bool.and_assoc]; exact l0)
 have l2:=eqG (f := JR a b L) (fun i=>(false,i,())) a.Routines b.Routines a11 (L := L) (by omega) _ (fun self i x y hx hy hi mem=>by
  have:=List.sizeOf_lt_of_mem mem
  have o:=ok.Routines.2 x mem
  have h1:=ZjO x; have h2:=Zu x.Params; have h3:=o.Params.1; have h4:=Zu x.Locals; have h5:=o.Locals.1; have h6:=o.Body.1
  rw [JR]; simp only [Ze,Zb,cond_true,cond_false,Zd,Zq,Za,Zi,condC,Zh,ZL,Zx,Z5,WP,WR,WQ,Zw,WN,← Bool.not_and,Bool.not_not,Bool.cond_true_left,Bool.cond_false_right,Bool.cond_true_right,Bool.and_true,Bool.and_assoc,hi,hx,hy,Zz5 L x.Params y.Params (by unfold Len; omega) (by omega),Zz5 L x.Locals y.Locals (by unfold Len; omega) (by omega),Zss L x.Body y.Body (by unfold Len; omega) o.Body.2 (by omega),wrap_succ hi (by omega),Zgl]) (fun self=>by rw [JR]; simp only [Ze,Zb,cond_true,cond_false,Zd,Zq,Za,Zi,condC,Zh,ZL,Zx,Z5,WP,WR,WQ,Zw,WN,← Bool.not_and,Bool.not_not,Bool.cond_true_left,Bool.cond_false_right,Bool.cond_true_right,Bool.and_true,Bool.and_assoc]; exact l1)
 have l3:=eqG (f := JS a b L) (fun i=>(false,i,())) a.Belts b.Belts a5 (L := L) (by omega) _ (fun self i x y hx hy hi mem=>by
  rw [JS]; simp only [Ze,Zb,cond_true,cond_false,Zd,Zq,Za,Zi,condC,Zh,ZL,Zx,Z5,WP,WR,WQ,Zw,WN,← Bool.not_and,Bool.not_not,Bool.cond_true_left,Bool.cond_false_right,Bool.cond_true_right,Bool.and_true,Bool.and_assoc,hi,hx,hy,wrap_succ hi (by omega),Zek]) (fun self=>by rw [JS]; simp only [Ze,Zb,cond_true,cond_false,Zd,Zq,Za,Zi,condC,Zh,ZL,Zx,Z5,WP,WR,WQ,Zw,WN,← Bool.not_and,Bool.not_not,Bool.cond_true_left,Bool.cond_false_right,Bool.cond_true_right,Bool.and_true,Bool.and_assoc]; exact l2)
 have l4:=eqG (f := JU a b L) (fun i=>(false,i,())) a.Stores b.Stores a4 (L := L) (by omega) _ (fun self i x y hx hy hi mem=>by
  rw [JU]; simp only [Ze,Zb,cond_true,cond_false,Zd,Zq,Za,Zi,condC,Zh,ZL,Zx,Z5,WP,WR,WQ,Zw,WN,← Bool.not_and,Bool.not_not,Bool.cond_true_left,Bool.cond_false_right,Bool.cond_true_right,Bool.and_true,Bool.and_assoc,hi,hx,hy,wrap_succ hi (by omega),ZaZ]) (fun self=>by rw [JU]; simp only [Ze,Zb,cond_true,cond_false,Zd,Zq,Za,Zi,condC,Zh,ZL,Zx,Z5,WP,WR,WQ,Zw,WN,← Bool.not_and,Bool.not_not,Bool.cond_true_left,Bool.cond_false_right,Bool.cond_true_right,Bool.and_true,Bool.and_assoc]; exact l3)
 have l5:=eqG (f := Va a b L) (fun i=>(false,i,())) a.Resources b.Resources a3 (L := L) (by omega) _ (fun self i x y hx hy hi mem=>by
  have:=List.sizeOf_lt_of_mem mem
  rw [Va]; simp only [Ze,Zb,cond_true,cond_false,Zd,Zq,Za,Zi,condC,Zh,ZL,Zx,Z5,WP,WR,WQ,Zw,WN,← Bool.not_and,Bool.not_not,Bool.cond_true_left,Bool.cond_false_right,Bool.cond_true_right,Bool.and_true,Bool.and_assoc,hi,hx,hy,Zxe L x y (ok.Resources.2 x mem) (by omega),wrap_succ hi (by omega)]) (fun self=>by rw [Va]; simp only [Ze,Zb,cond_true,cond_false,Zd,Zq,Za,Zi,condC,Zh,ZL,Zx,Z5,WP,WR,WQ,Zw,WN,← Bool.not_and,Bool.not_not,Bool.cond_true_left,Bool.cond_false_right,Bool.cond_true_right,Bool.and_true,Bool.and_assoc]; exact l4)
 rw [show Zo (Va a b L) L (false,0,())=_ from l5]
 simp only [Ze,Zb,cond_true,cond_false,Zd,Zq,Za,Zi,condC,Zh,ZL,Zx,Z5,WP,WR,WQ,Zw,WN,← Bool.not_and,Bool.not_not,Bool.cond_true_left,Bool.cond_false_right,Bool.cond_true_right,Bool.and_true,Bool.and_assoc,ZuO L a.Vars b.Vars (by unfold Len; omega) (by omega),e3,e4,e5,e11,e12,e13,Zxc L a.Queues b.Queues (by unfold Len; omega) (by omega),Zxc L a.Streams b.Streams (by unfold Len; omega) (by omega),Zxc L a.Tallies b.Tallies (by unfold Len; omega) (by omega),Zxc L a.Levels b.Levels (by unfold Len; omega) (by omega),Zxc L a.Counts b.Counts (by unfold Len; omega) (by omega),Vf]
 ac_rfl
theorem Zsq (L:Nat)(h1:1000≤L)(d e:Zc)(ok:ZA d)(h:2 * SizeOf.sizeOf d≤L):OB L (⟨[],[],[d],[]⟩,⟨[],[],[e],[]⟩,())=some (sm d e):=by
 have l0:=eqL (f := GI ⟨[],[],[d],[]⟩ ⟨[],[],[e],[]⟩ L) [d] [e] (L := L) (by simp; omega) (fun self i x y hx hy hi mem=>by
  have:x=d:=by simpa using mem
  subst this
  rw [GI]; simp only [Ze,Zb,cond_true,cond_false,Zd,Zq,Za,Zi,condC,Zh,ZL,Zx,Z5,WP,WR,WQ,Zw,WN,← Bool.not_and,Bool.not_not,Bool.cond_true_left,Bool.cond_false_right,Bool.cond_true_right,Bool.and_true,Bool.and_assoc,hi,hx,hy,Zxf L x y ok h,wrap_succ hi (by simp)]) (fun self=>by rw [GI]; simp only [Ze,Zb,cond_true,cond_false,Zd,Zq,Za,Zi,condC,Zh,ZL,Zx,Z5,WP,WR,WQ,Zw,WN,← Bool.not_and,Bool.not_not,Bool.cond_true_left,Bool.cond_false_right,Bool.cond_true_right,Bool.and_true,Bool.and_assoc])
 rw [Zjh]
 simp only [l0]
 simp only [Ze,Zb,cond_true,cond_false,Zd,Zq,Za,Zi,condC,Zh,ZL,Zx,Z5,WP,WR,WQ,Zw,WN,← Bool.not_and,Bool.not_not,Bool.cond_true_left,Bool.cond_false_right,Bool.cond_true_right,Bool.and_true,Bool.and_assoc,ZmE L [] [] (by decide) (by simp; omega),ZuM L [] [] (by decide) (by simp; omega),ZhF,Zrd,decide_true,Bool.true_and]
theorem ZuL (L:Nat)(a b:ZZ)(ok:Gh a)(h:2 * SizeOf.sizeOf a≤L):VY L (a,b,())=some (sm a b):=by
 have z:=Zer a; have hl:=Zu a.Args; have ha:=ok.Args.1
 have lp:=eqL (f := Vq a b L) a.Args b.Args (L := L) (by omega) (fun self i x y hx hy hi mem=>by
  have:=List.sizeOf_lt_of_mem mem
  rw [Vq]; simp only [Ze,Zb,cond_true,cond_false,Zd,Zq,Za,Zi,condC,Zh,ZL,Zx,Z5,WP,WR,WQ,Zw,WN,← Bool.not_and,Bool.not_not,Bool.cond_true_left,Bool.cond_false_right,Bool.cond_true_right,Bool.and_true,Bool.and_assoc,hi,hx,hy,CV L x y (ok.Args.2 x mem) (by omega),wrap_succ hi (by omega)]) (fun self=>by rw [Vq]; simp only [Ze,Zb,cond_true,cond_false,Zd,Zq,Za,Zi,condC,Zh,ZL,Zx,Z5,WP,WR,WQ,Zw,WN,← Bool.not_and,Bool.not_not,Bool.cond_true_left,Bool.cond_false_right,Bool.cond_true_right,Bool.and_true,Bool.and_assoc])
 rw [ZbA,lp]
 simp only [Ze,Zb,cond_true,cond_false,Zd,Zq,Za,Zi,condC,Zh,ZL,Zx,Z5,WP,WR,WQ,Zw,WN,← Bool.not_and,Bool.not_not,Bool.cond_true_left,Bool.cond_false_right,Bool.cond_true_right,Bool.and_true,Bool.and_assoc,CV L a.E b.E ok.E (by omega),CV L a.F b.F ok.F (by omega),ZgM L a.Dist b.Dist ok.Dist (by omega),ZhE]
 ac_rfl
theorem ZwZ (L:Nat)(a b:Y8)(ok:ZhW a)(h:2 * SizeOf.sizeOf a≤L):JZ L (a,b,())=some (sm a b):=by
 have z:=ZhH a; have hl:=Zu a.Instrs; have ha:=ok.Instrs.1
 have lp:=eqL (f := VU a b L) a.Instrs b.Instrs (L := L) (by omega) (fun self i x y hx hy hi mem=>by
  have:=List.sizeOf_lt_of_mem mem
  rw [VU]; simp only [Ze,Zb,cond_true,cond_false,Zd,Zq,Za,Zi,condC,Zh,ZL,Zx,Z5,WP,WR,WQ,Zw,WN,← Bool.not_and,Bool.not_not,Bool.cond_true_left,Bool.cond_false_right,Bool.cond_true_right,Bool.and_true,Bool.and_assoc,hi,hx,hy,ZuL L x y (ok.Instrs.2 x mem) (by omega),wrap_succ hi (by omega)]) (fun self=>by rw [VU]; simp only [Ze,Zb,cond_true,cond_false,Zd,Zq,Za,Zi,condC,Zh,ZL,Zx,Z5,WP,WR,WQ,Zw,WN,← Bool.not_and,Bool.not_not,Bool.cond_true_left,Bool.cond_false_right,Bool.cond_true_right,Bool.and_true,Bool.and_assoc])
 rw [ZdE,lp]
 simp only [Ze,Zb,cond_true,cond_false,Zd,Zq,Za,Zi,condC,Zh,ZL,Zx,Z5,WP,WR,WQ,Zw,WN,← Bool.not_and,Bool.not_not,Bool.cond_true_left,Bool.cond_false_right,Bool.cond_true_right,Bool.and_true,Bool.and_assoc,ZqZ]
theorem ZxV (x:Z4):SizeOf.sizeOf x.Decl < SizeOf.sizeOf x∧SizeOf.sizeOf x.Routines < SizeOf.sizeOf x:=by cases x; simp; omega
theorem ZuS (L:Nat)(h1:1000≤L)(a b:Z4)(ok:FX a)(h:2 * SizeOf.sizeOf a≤L):Ua L (a,b,())=some (sm a b):=by
 have z:=ZxV a; have hl:=Zu a.Routines; have ha:=ok.Routines.1
 have lp:=eqL (f := VV a b L) a.Routines b.Routines (L := L) (by omega) (fun self i x y hx hy hi mem=>by
  have:=List.sizeOf_lt_of_mem mem
  rw [VV]; simp only [Ze,Zb,cond_true,cond_false,Zd,Zq,Za,Zi,condC,Zh,ZL,Zx,Z5,WP,WR,WQ,Zw,WN,← Bool.not_and,Bool.not_not,Bool.cond_true_left,Bool.cond_false_right,Bool.cond_true_right,Bool.and_true,Bool.and_assoc,hi,hx,hy,ZwZ L x y (ok.Routines.2 x mem) (by omega),wrap_succ hi (by omega)]) (fun self=>by rw [VV]; simp only [Ze,Zb,cond_true,cond_false,Zd,Zq,Za,Zi,condC,Zh,ZL,Zx,Z5,WP,WR,WQ,Zw,WN,← Bool.not_and,Bool.not_not,Bool.cond_true_left,Bool.cond_false_right,Bool.cond_true_right,Bool.and_true,Bool.and_assoc])
 rw [ZdF,lp]
 simp only [Ze,Zb,cond_true,cond_false,Zd,Zq,Za,Zi,condC,Zh,ZL,Zx,Z5,WP,WR,WQ,Zw,WN,← Bool.not_and,Bool.not_not,Bool.cond_true_left,Bool.cond_false_right,Bool.cond_true_right,Bool.and_true,Bool.and_assoc,Zsq L h1 a.Decl b.Decl ok.Decl (by omega),En]
theorem ZvY (x:Zm):SizeOf.sizeOf x.Sites < SizeOf.sizeOf x∧SizeOf.sizeOf x.Links < SizeOf.sizeOf x:=by cases x; simp; omega
theorem Zqc (L:Nat)(h1:1000≤L)(a b:Zm)(ok:JB a)(h:2 * SizeOf.sizeOf a≤L):UB L (a,b,())=some (sm a b):=by
 have z:=ZvY a; have hl:=Zu a.Sites; have ha:=ok.Sites.1; have hk:=Zu a.Links; have hc:=ok.Links.1
 have lp:=eqL (f := Oq a b L) a.Sites b.Sites (L := L) (by omega) (fun self i x y hx hy hi mem=>by
  have:=List.sizeOf_lt_of_mem mem
  rw [Oq]; simp only [Ze,Zb,cond_true,cond_false,Zd,Zq,Za,Zi,condC,Zh,ZL,Zx,Z5,WP,WR,WQ,Zw,WN,← Bool.not_and,Bool.not_not,Bool.cond_true_left,Bool.cond_false_right,Bool.cond_true_right,Bool.and_true,Bool.and_assoc,hi,hx,hy,ZuS L h1 x y (ok.Sites.2 x mem) (by omega),wrap_succ hi (by omega)]) (fun self=>by rw [Oq]; simp only [Ze,Zb,cond_true,cond_false,Zd,Zq,Za,Zi,condC,Zh,ZL,Zx,Z5,WP,WR,WQ,Zw,WN,← Bool.not_and,Bool.not_not,Bool.cond_true_left,Bool.cond_false_right,Bool.cond_true_right,Bool.and_true,Bool.and_assoc])
 rw [ZkU,lp]
 simp only [Ze,Zb,cond_true,cond_false,Zd,Zq,Za,Zi,condC,Zh,ZL,Zx,Z5,WP,WR,WQ,Zw,WN,← Bool.not_and,Bool.not_not,Bool.cond_true_left,Bool.cond_false_right,Bool.cond_true_right,Bool.and_true,Bool.and_assoc,Zxa L a.Links b.Links (by unfold Len; omega) (by omega),P7]
theorem Zqd (L:Nat)(l k:List ZZ)(hn:Len l)(ok:∀ x ∈ l,Gh x)(h:2 * SizeOf.sizeOf l≤L):Jd L (l,k,())=some (sm l k):=by
 have hl:=Zu l
 rw [ZbI]
 rcases ZmC l k with ⟨e,e2⟩ | ⟨e2,e3⟩
 ·have lp:=eqG (f := Xj l k L) (fun i=>(false,i,())) l k e (L := L) (by omega) (some true) (fun self i x y hx hy hi mem=>by
   have:=List.sizeOf_lt_of_mem mem
   have o:=ok x mem; have z:=Zer x; have hl':=Zu x.Args; have ha:=o.Args.1
   rw [Xj]
   rcases ZmC x.Args y.Args with ⟨d,d2⟩ | ⟨d2,d3⟩
   ·have lq:=eqG (f := V4 L self (false,(i:Int),()) x y) (fun i=>(false,i,())) x.Args y.Args d (L := L) (by omega) (self (false,(i:Int) + 1,())) (fun self1 i x1 y1 hx hy hi mem=>by
     have:=List.sizeOf_lt_of_mem mem
     rw [V4]; simp only [Ze,Zb,cond_true,cond_false,Zd,Zq,Za,Zi,condC,Zh,ZL,Zx,Z5,WP,WR,WQ,Zw,WN,← Bool.not_and,Bool.not_not,Bool.cond_true_left,Bool.cond_false_right,Bool.cond_true_right,Bool.and_true,Bool.and_assoc,hi,hx,hy,Pj L x1 y1 (o.Args.2 x1 mem) (by omega),wrap_succ hi (by omega)]) (fun self1=>by rw [V4]; simp only [Ze,Zb,cond_true,cond_false,Zd,Zq,Za,Zi,condC,Zh,ZL,Zx,Z5,WP,WR,WQ,Zw,WN,← Bool.not_and,Bool.not_not,Bool.cond_true_left,Bool.cond_false_right,Bool.cond_true_right,Bool.and_true,Bool.and_assoc,wrap_succ hi (by omega)])
    simp only [Ze,Zb,cond_true,cond_false,Zd,Zq,Za,Zi,condC,Zh,ZL,Zx,Z5,WP,WR,WQ,Zw,WN,← Bool.not_and,Bool.not_not,Bool.cond_true_left,Bool.cond_false_right,Bool.cond_true_right,Bool.and_true,Bool.and_assoc,hi,hx,hy,lq,Pj L x.E y.E o.E (by omega),Pj L x.F y.F o.F (by omega),ZbZ L x.Dist y.Dist o.Dist (by omega),d2,ZhE,ZrN]
    congr 1; ac_rfl
   ·simp only [Ze,Zb,cond_true,cond_false,Zd,Zq,Za,Zi,condC,Zh,ZL,Zx,Z5,WP,WR,WQ,Zw,WN,← Bool.not_and,Bool.not_not,Bool.cond_true_left,Bool.cond_false_right,Bool.cond_true_right,Bool.and_true,Bool.and_assoc,hi,hx,hy,d2,d3,ZhE,Bool.and_false,Bool.false_and]) (fun self=>by rw [Xj]; simp only [Ze,Zb,cond_true,cond_false,Zd,Zq,Za,Zi,condC,Zh,ZL,Zx,Z5,WP,WR,WQ,Zw,WN,← Bool.not_and,Bool.not_not,Bool.cond_true_left,Bool.cond_false_right,Bool.cond_true_right,Bool.and_true,Bool.and_assoc])
  rw [show Zo (Xj l k L) L (false,0,())=_ from lp]
  simp only [Ze,Zb,cond_true,cond_false,Zd,Zq,Za,Zi,condC,Zh,ZL,Zx,Z5,WP,WR,WQ,Zw,WN,← Bool.not_and,Bool.not_not,Bool.cond_true_left,Bool.cond_false_right,Bool.cond_true_right,Bool.and_true,Bool.and_assoc,e2]
 ·simp only [Ze,Zb,cond_true,cond_false,Zd,Zq,Za,Zi,condC,Zh,ZL,Zx,Z5,WP,WR,WQ,Zw,WN,← Bool.not_and,Bool.not_not,Bool.cond_true_left,Bool.cond_false_right,Bool.cond_true_right,Bool.and_true,Bool.and_assoc,e2,e3]
theorem ZuP (L:Nat)(a b:Y8)(ok:ZhW a)(h:2 * SizeOf.sizeOf a≤L):UX L (a,b,())=some (sm a b):=by
 have z:=ZhH a; have hl:=Zu a.Instrs; have ha:=ok.Instrs.1
 rw [Zfd]; simp only [Ze,Zb,cond_true,cond_false,Zd,Zq,Za,Zi,condC,Zh,ZL,Zx,Z5,WP,WR,WQ,Zw,WN,← Bool.not_and,Bool.not_not,Bool.cond_true_left,Bool.cond_false_right,Bool.cond_true_right,Bool.and_true,Bool.and_assoc,Zqd L a.Instrs b.Instrs (by unfold Len; omega) ok.Instrs.2 (by omega),ZqZ]
theorem ZuQ (L:Nat)(h1:1000≤L)(a b:Zm)(ok:JB a)(h:2 * SizeOf.sizeOf a≤L):PI L (a,b,())=some (sm a b):=by
 have z:=ZvY a; have hl:=Zu a.Sites; have ha:=ok.Sites.1; have hk:=Zu a.Links; have hc:=ok.Links.1
 rw [Zor]
 rcases ZmC a.Links b.Links with ⟨g,g2⟩ | ⟨g2,g3⟩
 rotate_left
 ·simp only [Ze,Zb,cond_true,cond_false,Zd,Zq,Za,Zi,condC,Zh,ZL,Zx,Z5,WP,WR,WQ,Zw,WN,← Bool.not_and,Bool.not_not,Bool.cond_true_left,Bool.cond_false_right,Bool.cond_true_right,Bool.and_true,Bool.and_assoc,g2,g3,P7,Bool.and_false]
 rcases ZmC a.Sites b.Sites with ⟨e,e2⟩ | ⟨e2,e3⟩
 rotate_left
 ·simp only [Ze,Zb,cond_true,cond_false,Zd,Zq,Za,Zi,condC,Zh,ZL,Zx,Z5,WP,WR,WQ,Zw,WN,← Bool.not_and,Bool.not_not,Bool.cond_true_left,Bool.cond_false_right,Bool.cond_true_right,Bool.and_true,Bool.and_assoc,e2,e3,P7,Bool.and_false,Bool.false_and]
 have l1:=eqG (f := MP a b) (fun i=>(i,())) a.Links b.Links g (L := L) (by omega) (some true) (fun self i x y hx hy hi mem=>by
  rw [MP]; simp only [Ze,Zb,cond_true,cond_false,Zd,Zq,Za,Zi,condC,Zh,ZL,Zx,Z5,WP,WR,WQ,Zw,WN,← Bool.not_and,Bool.not_not,Bool.cond_true_left,Bool.cond_false_right,Bool.cond_true_right,Bool.and_true,Bool.and_assoc,hi,hx,hy,wrap_succ hi (by omega),ZtS]) (fun self=>by rw [MP]; simp only [Ze,Zb,cond_true,cond_false,Zd,Zq,Za,Zi,condC,Zh,ZL,Zx,Z5,WP,WR,WQ,Zw,WN,← Bool.not_and,Bool.not_not,Bool.cond_true_left,Bool.cond_false_right,Bool.cond_true_right,Bool.and_true,Bool.and_assoc])
 have l2:=eqG (f := I7 a b L) (fun i=>(false,i,())) a.Sites b.Sites e (L := L) (by omega) _ (fun self i x y hx hy hi mem=>by
  have:=List.sizeOf_lt_of_mem mem
  have o:=ok.Sites.2 x mem; have z:=ZxV x; have hl':=Zu x.Routines; have ha:=o.Routines.1
  rw [I7]
  rcases ZmC x.Routines y.Routines with ⟨d,d2⟩ | ⟨d2,d3⟩
  ·have lq:=eqG (f := MO L self (false,(i:Int),()) x y) (fun i=>(false,i,())) x.Routines y.Routines d (L := L) (by omega) (self (false,(i:Int) + 1,())) (fun self1 i x1 y1 hx hy hi mem=>by
    have:=List.sizeOf_lt_of_mem mem
    rw [MO]; simp only [Ze,Zb,cond_true,cond_false,Zd,Zq,Za,Zi,condC,Zh,ZL,Zx,Z5,WP,WR,WQ,Zw,WN,← Bool.not_and,Bool.not_not,Bool.cond_true_left,Bool.cond_false_right,Bool.cond_true_right,Bool.and_true,Bool.and_assoc,hi,hx,hy,ZuP L x1 y1 (o.Routines.2 x1 mem) (by omega),wrap_succ hi (by omega)]) (fun self1=>by rw [MO]; simp only [Ze,Zb,cond_true,cond_false,Zd,Zq,Za,Zi,condC,Zh,ZL,Zx,Z5,WP,WR,WQ,Zw,WN,← Bool.not_and,Bool.not_not,Bool.cond_true_left,Bool.cond_false_right,Bool.cond_true_right,Bool.and_true,Bool.and_assoc,wrap_succ hi (by omega)])
   simp only [Ze,Zb,cond_true,cond_false,Zd,Zq,Za,Zi,condC,Zh,ZL,Zx,Z5,WP,WR,WQ,Zw,WN,← Bool.not_and,Bool.not_not,Bool.cond_true_left,Bool.cond_false_right,Bool.cond_true_right,Bool.and_true,Bool.and_assoc,hi,hx,hy,lq,Zqe L x.Decl y.Decl o.Decl (by omega),d2,En,ZrN]
  ·simp only [Ze,Zb,cond_true,cond_false,Zd,Zq,Za,Zi,condC,Zh,ZL,Zx,Z5,WP,WR,WQ,Zw,WN,← Bool.not_and,Bool.not_not,Bool.cond_true_left,Bool.cond_false_right,Bool.cond_true_right,Bool.and_true,Bool.and_assoc,hi,hx,hy,Zqe L x.Decl y.Decl o.Decl (by omega),d2,d3,En,Bool.and_false,Bool.false_and]) (fun self=>by rw [I7]; simp only [Ze,Zb,cond_true,cond_false,Zd,Zq,Za,Zi,condC,Zh,ZL,Zx,Z5,WP,WR,WQ,Zw,WN,← Bool.not_and,Bool.not_not,Bool.cond_true_left,Bool.cond_false_right,Bool.cond_true_right,Bool.and_true,Bool.and_assoc]; exact l1)
 rw [show Zo (I7 a b L) L (false,0,())=_ from l2]
 simp only [Ze,Zb,cond_true,cond_false,Zd,Zq,Za,Zi,condC,Zh,ZL,Zx,Z5,WP,WR,WQ,Zw,WN,← Bool.not_and,Bool.not_not,Bool.cond_true_left,Bool.cond_false_right,Bool.cond_true_right,Bool.and_true,Bool.and_assoc,e2,g2,P7,ZrN]
end Go.Proofs.YtleomfgijkapfaaGreatDoor
end
section
namespace Go.Proofs.YtleomfgijkapfaaGreatDoor
open Go Go.Proofs.YtleomfgijkapfaaGreatDoor.Abs Go.Proofs.YtleomfgijkapfaaGreatDoor.Tl
set_option maxRecDepth 100000
theorem ZeU (L:Nat)(h1:1000≤L)(p q:Zm)(a:Zr0)(hp:JB p)(hq:JB q)(hL:2 * SizeOf.sizeOf p≤L)(hM:2 * SizeOf.sizeOf q≤L):Gp L (p,q,a,())=some true:=by
 obtain ⟨b1,e1⟩:=Zx5 L p hp hL
 obtain ⟨b2,e2⟩:=Zx5 L q hq hM
 obtain ⟨v,e3,_⟩:=ZfG L h1 p hp hL
 obtain ⟨w,e4,_⟩:=ZfG L h1 q hq hM
 have z:=ZvY p; have hk:=Zu p.Links; have hc:=hp.Links.1
 have a1:=ZtK L p a.e0 a.e1 (by omega) (by omega)
 have a2:=ZtN L p a.e0 a.e1 (by omega) (by omega)
 have s1:=Zqc L h1 p q hp hL
 have s2:=ZuQ L h1 p q hp hL
 have s3:=Zqc L h1 q p hq hM
 have s4:=Zqc L h1 p p hp hL
 rw [ZbC]
 by_cases h:p=q
 ·subst h
  rw [e3] at e4; cases e4
  rw [e1] at e2; cases e2
  cases b1 <;> simp [e1,e3,a1,a2,s1,s2,ZhF,Zq]
 ·have n1:sm p q=false:=by rw [← Bool.not_eq_true,KL]; exact h
  have n2:sm q p=false:=by rw [ZvV]; exact n1
  rw [n1] at s1 s2; rw [n2] at s3; rw [ZhF] at s4
  cases b1 <;> cases b2 <;> simp [e1,e2,a1,a2,s1,s2,s3,s4,Zq]
end Go.Proofs.YtleomfgijkapfaaGreatDoor
end
