import Derived.Test.YtgjcjbhhhlelnaaGreatDoorHEv15
set_option linter.all false
section
namespace Go.Proofs.YtgjcjbhhhlelnaaGreatDoor
open Go Go.Proofs.YtgjcjbhhhlelnaaGreatDoor.Abs Go.Proofs.YtgjcjbhhhlelnaaGreatDoor.Tl
set_option maxRecDepth 100000
theorem ZbT {α:Type}(nm:α→List UInt8)(s:List UInt8)(l:List α):decide (Gl (fun x=>decide (nm x=s)) l 0 ≥ 0)=(l.map nm).contains s:=by
 rw [show decide (Gl (fun x=>decide (nm x=s)) l 0 ≥ 0)=_ from Ae _ l 0 (Int.le_refl _),← ZkA,List.any_map]
 congr 1; funext x; exact decide_eq_decide.2 ⟨Eq.symm,Eq.symm⟩
theorem VZ (d:Zc):SizeOf.sizeOf d.Name < SizeOf.sizeOf d∧SizeOf.sizeOf d.Vars < SizeOf.sizeOf d∧SizeOf.sizeOf d.Resources < SizeOf.sizeOf d∧SizeOf.sizeOf d.Stores < SizeOf.sizeOf d∧SizeOf.sizeOf d.Belts < SizeOf.sizeOf d∧SizeOf.sizeOf d.Queues < SizeOf.sizeOf d∧SizeOf.sizeOf d.Streams < SizeOf.sizeOf d∧SizeOf.sizeOf d.Tallies < SizeOf.sizeOf d∧SizeOf.sizeOf d.Levels < SizeOf.sizeOf d∧SizeOf.sizeOf d.Counts < SizeOf.sizeOf d∧SizeOf.sizeOf d.Routines < SizeOf.sizeOf d∧SizeOf.sizeOf d.Starts < SizeOf.sizeOf d∧SizeOf.sizeOf d.Laws < SizeOf.sizeOf d:=by
 cases d; simp; omega
structure Sh (L:Nat)(d:Zc):Prop where
 nm:d.Name.length < L
 vars:d.Vars.length < L
 res:d.Resources.length < L
 sto:d.Stores.length < L
 bel:d.Belts.length < L
 que:d.Queues.length < L
 str:d.Streams.length < L
 tal:d.Tallies.length < L
 lev:d.Levels.length < L
 cnt:d.Counts.length < L
 rou:d.Routines.length < L
 sta:d.Starts.length < L
 law:d.Laws.length < L
theorem Sh.of {L:Nat}{d:Zc}(h:SizeOf.sizeOf d≤L):Sh L d:=by
 have:=VZ d
 constructor
 ·have:=ZG d.Name; omega
 ·have:=ZG d.Vars; omega
 ·have:=ZG d.Resources; omega
 ·have:=ZG d.Stores; omega
 ·have:=ZG d.Belts; omega
 ·have:=ZG d.Queues; omega
 ·have:=ZG d.Streams; omega
 ·have:=ZG d.Tallies; omega
 ·have:=ZG d.Levels; omega
 ·have:=ZG d.Counts; omega
 ·have:=ZG d.Routines; omega
 ·have:=ZG d.Starts; omega
 ·have:=ZG d.Laws; omega
theorem ZmK (L:Nat)(d:Zc)(t:I7)(h:ZF d)(hL:d.Stores.length < L):Zt (XE d t) L (0,())=some (Gl (fun x:Yw=>decide (x.Name=t.Name)) d.Stores 0):=by
 have:=h.st
 exact ZiM d.Stores (fun l i=>some (Gl (fun x:Yw=>decide (x.Name=t.Name)) l i)) hL (fun self i x r hx hi _ e=>by
  rw [XE]; simp only [Zi,Zd,cond_true,cond_false,Zf,Zz,Za,Zn,condC,Zh,Zg,Zm,ZH,ZT,ZB,hi,hx,wrap_succ hi (by omega),e,Gl]; simp only [Yu,Xa,if_true,if_false,Bool.false_eq_true,ne_eq,decide_not,gt_iff_lt,ge_iff_le]) (fun self=>by rw [XE]; simp only [Zi,Zd,cond_true,cond_false,Zf,Zz,Za,Zn,condC,Zh,Zg,Zm,ZH,ZT,ZB,Gl])
theorem ZwR (L:Nat)(d:Zc)(t:I7)(h:ZF d)(hs:Sh L d):H9 L (d,t,())=some (ZdB d t):=by
 have:=h.st
 have sl:=ZmK L d t h hs.sto
 rw [Zh5,show SB=XE from rfl,show SC=XE from rfl]
 simp only [Zi,Zd,cond_true,cond_false,Zf,Zz,Za,Zn,condC,Zh,Zg,Zm,ZH,ZT,ZB,Ze0 L d t.Name (by unfold Len; omega) hs.rou,sl,Zez L d.Counts t.Name (by unfold Len; omega) hs.cnt,Ud,ZbT,ZdB,ZdC]; simp only [Yu,Xa,if_true,if_false,Bool.false_eq_true,ne_eq,decide_not,gt_iff_lt,ge_iff_le]
theorem Zzg {l:List Zdi}{x:Zdi}(h:x ∈ l):x.Terms.length < SizeOf.sizeOf l∧x.Name.length < SizeOf.sizeOf l:=by
 have:=List.sizeOf_lt_of_mem h
 have h1:=ZG x.Terms; have h2:=ZG x.Name
 have:SizeOf.sizeOf x.Terms < SizeOf.sizeOf x∧SizeOf.sizeOf x.Name < SizeOf.sizeOf x:=by cases x; simp; omega
 omega
theorem PX {α σ:Type}(f:α→Int)(s:σ):∀ l:List α,YI (fun x s=>(f x,s)) l s=(Yj f l,s)
 | []=>rfl
 | x :: l=>by rw [YI,PX f s l,Yj]; split <;> rfl
theorem ZwM (L:Nat)(d:Zc)(h:ZF d)(hL:SizeOf.sizeOf d≤L):H7 L (d,())=some (BM d):=by
 have hs:=Sh.of hL
 have hz:=VZ d
 have hl:d.Laws.length≤4611686018427387:=by have:=h.Laws.1; omega
 have lp:=Zfm (f := UX d L) d.Laws (fun l:Zdi=>Yx l.Name (ZpL d l)) hs.law ([]:Seen) (fun self s i x hx hi mem=>by
  have hsz:=Zzg mem
  have ok:=h.Laws.2 x mem
  have hn:=Qx L x.Name (by have:=ok.Name; unfold Len; omega) (by omega)
  have ht:=ok.t
  have tl:=fun s:Seen=>Zfm (f := UW d L x) x.Terms (fun t s=>(ZdB d t,s)) (show x.Terms.length < L by omega) s (fun self s i t hx hi mem=>by
   rw [UW]; simp only [Zi,Zd,cond_true,cond_false,Zf,Zz,Za,Zn,condC,Zh,Zg,Zm,ZH,ZT,ZB,hi,hx,ZwR L d t h hs,wrap_succ hi (by omega)]) (fun self s=>by rw [UW]; simp only [Zi,Zd,cond_true,cond_false,Zf,Zz,Za,Zn,condC,Zh,Zg,Zm,ZH,ZT,ZB])
  simp only [PX] at tl
  rw [UX]
  simp only [Zi,cond_true,Zf,Zz,ZB,UU,hi,hx,hn]
  simp only [Zi,Zd,cond_true,cond_false,Zf,Zz,Za,Zn,condC,Zh,Zg,Zm,ZH,ZT,ZB,Zy7,tl,wrap_succ hi (by omega)]
  simp only [Yx,ZpL,Px]
  by_cases a:(Y7 x.Name s).1=0 <;> by_cases b:x.Terms=[] <;> by_cases c:8 < (x.Terms.length:Int) <;> by_cases e:Yj (ZdB d) x.Terms=0 <;> rcases Bool.eq_false_or_eq_true (inB x.Total) with g | g <;> simp [a,b,c,e,g,Zz])
  (fun self s=>by rw [UX]; simp only [Zi,Zd,cond_true,cond_false,Zf,Zz,Za,Zn,condC,Zh,Zg,Zm,ZH,ZT,ZB])
 rw [Zh3,Gi 32 (fun l:Zdi=>Yx l.Name (ZpL d l)) d.Laws [] lp,Zz]
 rfl
end Go.Proofs.YtgjcjbhhhlelnaaGreatDoor
end
section
namespace Go.Proofs.YtgjcjbhhhlelnaaGreatDoor
open Go Go.Proofs.YtgjcjbhhhlelnaaGreatDoor.Abs Go.Proofs.YtgjcjbhhhlelnaaGreatDoor.Tl
set_option maxRecDepth 100000
theorem Zrt (L:Nat)(a b:List WB)(h:a.length + b.length≤1000)(hL:2 < L):Ye L ([a,b],())=some (a ++ b):=by
 have w1:IntKind.i64.wrap (0 + (a.length:Int))=a.length:=by rw [Int.zero_add]; exact wrap_in (by omega) (by omega)
 have w2:IntKind.i64.wrap ((a.length:Int) + b.length)=(a.length:Int) + b.length:=wrap_in (by omega) (by omega)
 have n1:decide ((a.length:Int) < 0)=false:=by simp only [decide_eq_false_iff_not]; omega
 have n2:decide ((a.length:Int) + b.length < 0)=false:=by simp only [decide_eq_false_iff_not]; omega
 have g:Zq6 [] ((a.length:Int) + b.length)=some []:=by unfold Zq6; rw [if_pos ⟨rfl,by omega,by omega⟩]
 have p1:apT 24 [] a=some a:=by unfold apT; rw [if_pos (by simp only [List.length_nil]; omega)]; rfl
 have p2:apT 24 a b=some (a ++ b):=by unfold apT; rw [if_pos (by omega)]
 rw [XQ,Zdy _ hL]
 simp only [WE,two,w01,Zz,cond_true,cond_false,w1,w2,n1,n2,g,Zdy (Y1 _) hL,Y1,p1,p2]
theorem Zyy {α σ:Type}{f:(Int×σ×PUnit→Option Int)→Int×σ×PUnit→Option Int}(l:List α)(step:α→σ→Int×σ)(e:Int){m:Nat}(hm:l.length < m)(s:σ)
  (h1:∀ self s (i:Nat) x,l[i]? = some x→i < l.length→x ∈ l→f self ((i:Int),s,())=bif !decide ((step x s).1=0) then some (step x s).1 else self ((i:Int) + 1,(step x s).2,()))
  (h2:∀ self s,f self ((l.length:Int),s,())=some e):Zt f m (0,s,())=some (if decide ((YI step l s).1≠0)=true then (YI step l s).1 else e) :=
 ZgZ l (fun s i=>(i,s,())) (fun l s=>some (if decide ((YI step l s).1≠0)=true then (YI step l s).1 else e)) (fun self s i x r hx hi mem e=>by
  rw [h1 self s i x hx hi mem,e,YI]
  by_cases c:(step x s).1=0 <;> simp [c]) (fun self s=>by rw [h2]; rfl) m 0 s (Nat.zero_le _) (by omega)
theorem Zx9 {l:List WB}{x:WB}(h:x ∈ l):x.Name.length < SizeOf.sizeOf l:=by
 have:=List.sizeOf_lt_of_mem h
 have h2:=ZG x.Name
 have:SizeOf.sizeOf x.Name < SizeOf.sizeOf x:=by cases x; simp; omega
 omega
theorem ZsC (r:ZR):SizeOf.sizeOf r.Name < SizeOf.sizeOf r∧SizeOf.sizeOf r.Params < SizeOf.sizeOf r∧SizeOf.sizeOf r.Locals < SizeOf.sizeOf r∧SizeOf.sizeOf r.Body < SizeOf.sizeOf r:=by cases r; simp; omega
theorem Zpa (L:Nat)(h1:100≤L)(r:ZR)(h:I5 r)(hL:SizeOf.sizeOf r≤L):Jc L (r,())=some (Xn r):=by
 have hz:=ZsC r
 have hp:=h.p
 have hw:IntKind.i64.wrap ((r.Params.length:Int) + (r.Locals.length:Int))=(r.Params.length:Int) + (r.Locals.length:Int):=wrap_in (by omega) (by omega)
 rw [Zcw,hw,Xn]
 by_cases hc:6 < (r.Params.length:Int)∨16 < (r.Params.length:Int) + (r.Locals.length:Int)
 ·rw [if_pos (by simpa using hc),show (decide ((r.Params.length:Int) > 6) || decide ((r.Params.length:Int) + (r.Locals.length:Int) > 16))=true by simpa using hc]; rfl
 ·have hf:(decide ((r.Params.length:Int) > 6) || decide ((r.Params.length:Int) + (r.Locals.length:Int) > 16))=false:=by
   simp only [Bool.or_eq_false_iff,decide_eq_false_iff_not]; omega
  have hf':¬ ((decide (6 < (r.Params.length:Int)) || decide (16 < (r.Params.length:Int) + (r.Locals.length:Int)))=true):=by simpa using hc
  rw [if_neg hf',hf,cond_false,Zrt L _ _ (by omega) (by omega),Zz]
  have hlen:(r.Params ++ r.Locals).length≤16:=by rw [List.length_append]; omega
  exact Zyy (f := Vg r L (r.Params ++ r.Locals)) (r.Params ++ r.Locals) (fun f:WB=>Yx f.Name (ZbL f)) (FP r.Body) (by omega) [] (fun self s i x hx hi mem=>by
   have ok:ZaP x∧x.Name.length < L:=by
    rcases List.mem_append.1 mem with m | m
    ·exact ⟨h.Params.2 x m,by have:=Zx9 m; omega⟩
    ·exact ⟨h.Locals.2 x m,by have:=Zx9 m; omega⟩
   have hn:=Qx L x.Name (by have:=ok.1.Name; unfold Len; omega) ok.2
   rw [Vg]
   simp only [Zi,cond_true,Zf,Zz,ZB,UU,hi,hx,hn]
   simp only [Zi,Zd,cond_true,cond_false,Zf,Zz,Za,Zn,condC,Zh,Zg,Zm,ZH,ZT,ZB,Zlm,wrap_succ hi (by omega)]
   simp only [Yx,ZbL]
   by_cases a:(Y7 x.Name s).1=0 <;> rcases Bool.eq_false_or_eq_true (btw x.Ty 1 3) with g | g <;> simp [a,g]) (fun self s=>by
   rw [Vg]; simp only [Zi,Zd,cond_true,cond_false,Zf,Zz,Za,Zn,condC,Zh,Zg,Zm,ZH,ZT,ZB,Zr1 L h1 r.Body h.p.2.2 (by omega)])
theorem Znc {α:Type}[SizeOf α](g:α→List UInt8)(hg:∀ x,SizeOf.sizeOf (g x) < SizeOf.sizeOf x){l:List α}{x:α}(h:x ∈ l):(g x).length < SizeOf.sizeOf l∧SizeOf.sizeOf x < SizeOf.sizeOf l:=by
 have h1:=List.sizeOf_lt_of_mem h
 have h2:=ZG (g x)
 have h3:=hg x
 omega
theorem Zos (L:Nat)(d:Zc)(h:d.Queues.length * 16≤140737488351232∧∀ y ∈ d.Queues,y.length≤140737488351232)(hL:SizeOf.sizeOf d.Queues≤L)(s:Seen):Zt (Kr d L) L (0,s,())=some ((YI Y7 d.Queues s).1,(YI Y7 d.Queues s).2,()):=by
 have hk:=ZG d.Queues
 refine Zfm d.Queues Y7 (by omega) s (fun self s i x hx hi mem=>?_) (fun self s=>by rw [Kr]; simp only [Zi,Zd,cond_true,cond_false,Zf,Zz,Za,Zn,condC,Zh,Zg,Zm,ZH,ZT,ZB])
 have h1:=List.sizeOf_lt_of_mem mem
 have hn:=Qx L x (by have:=h.2 x mem; unfold Len; omega) (by have:=ZG x; omega)
 rw [Kr]
 simp only [Zi,cond_true,Zf,Zz,ZB,UU,hi,hx,hn]
 simp only [Zi,Zd,cond_true,cond_false,Zf,Zz,Za,Zn,condC,Zh,Zg,Zm,ZH,ZT,ZB,wrap_succ hi (by omega)]
theorem ZvU (L:Nat)(d:Zc)(h:ZF d)(hL:SizeOf.sizeOf d≤L)(s:Seen):Zt (UY d L) L (0,s,())=some ((YI (fun v:V6=>Yx v.Name (MH v)) d.Vars s).1,(YI (fun v:V6=>Yx v.Name (MH v)) d.Vars s).2,()):=by
 have hz:=VZ d
 have hs:=Sh.of hL
 have hl:=h.Vars.1
 refine Zfm d.Vars _ hs.vars s (fun self s i x hx hi mem=>?_) (fun self s=>by rw [UY]; simp only [Zi,Zd,cond_true,cond_false,Zf,Zz,Za,Zn,condC,Zh,Zg,Zm,ZH,ZT,ZB])
 have hm:=Znc (fun v:V6=>v.Name) (fun x=>by cases x; simp; omega) mem
 have hn:=Qx L x.Name (by have:=(h.Vars.2 x mem).Name; unfold Len; omega) (by omega)
 rw [UY]
 simp only [Zi,cond_true,Zf,Zz,ZB,UU,hi,hx,hn]
 simp only [Zi,Zd,cond_true,cond_false,Zf,Zz,Za,Zn,condC,Zh,Zg,Zm,ZH,ZT,ZB,Zlm,Zs3,wrap_succ hi (by omega)]
 simp only [Yx,MH]
 by_cases a:(Y7 x.Name s).1=0 <;> rcases Bool.eq_false_or_eq_true (btw x.Ty 1 3) with g | g <;> rcases Bool.eq_false_or_eq_true (fitsT x.Ty x.N) with g' | g' <;> simp [a,g,g']
theorem Zyr (L:Nat)(h1:100≤L)(d:Zc)(h:ZF d)(hL:SizeOf.sizeOf d≤L)(s:Seen):Zt (UZ d L) L (0,s,())=some ((YI (fun v:Zu=>Yx v.Name (ZmC d v)) d.Resources s).1,(YI (fun v:Zu=>Yx v.Name (ZmC d v)) d.Resources s).2,()):=by
 have hz:=VZ d
 have hs:=Sh.of hL
 have hl:=h.Resources.1
 refine Zfm d.Resources _ hs.res s (fun self s i x hx hi mem=>?_) (fun self s=>by rw [UZ]; simp only [Zi,Zd,cond_true,cond_false,Zf,Zz,Za,Zn,condC,Zh,Zg,Zm,ZH,ZT,ZB])
 have hm:=Znc (fun v:Zu=>v.Name) (fun x=>by cases x; simp; omega) mem
 have ok:=h.Resources.2 x mem
 have hx2:SizeOf.sizeOf x.Fault < SizeOf.sizeOf x∧SizeOf.sizeOf x.Shift < SizeOf.sizeOf x:=by cases x; simp; omega
 have hsh:=ZG x.Shift
 have hn:=Qx L x.Name (by have:=ok.Name; unfold Len; omega) (by omega)
 rw [UZ]
 simp only [Zi,cond_true,Zf,Zz,ZB,UU,hi,hx,hn]
 simp only [Zi,Zd,cond_true,cond_false,Zf,Zz,Za,Zn,condC,Zh,Zg,Zm,ZH,ZT,ZB,Ud,Zmr L x ok (by omega),Zmn L d h hL x.Fault ok.Fault (by omega) h1,wrap_succ hi (by omega)]
 simp only [Yx,ZmC]
 by_cases a:(Y7 x.Name s).1=0 <;> rcases Bool.eq_false_or_eq_true (btw x.Units 0 1000) with g | g <;> by_cases b:ZpQ x=0 <;> simp [a,g,b]
theorem Zyu (L:Nat)(d:Zc)(h:ZF d)(hL:SizeOf.sizeOf d≤L)(s:Seen):Zt (Ko d L) L (0,s,())=some ((YI (fun v:Yw=>Yx v.Name (Md v)) d.Stores s).1,(YI (fun v:Yw=>Yx v.Name (Md v)) d.Stores s).2,()):=by
 have hz:=VZ d
 have hs:=Sh.of hL
 have hl:=h.Stores.1
 refine Zfm d.Stores _ hs.sto s (fun self s i x hx hi mem=>?_) (fun self s=>by rw [Ko]; simp only [Zi,Zd,cond_true,cond_false,Zf,Zz,Za,Zn,condC,Zh,Zg,Zm,ZH,ZT,ZB])
 have hm:=Znc (fun v:Yw=>v.Name) (fun x=>by cases x; simp; omega) mem
 have hn:=Qx L x.Name (by have:=(h.Stores.2 x mem).Name; unfold Len; omega) (by omega)
 rw [Ko]
 simp only [Zi,cond_true,Zf,Zz,ZB,UU,hi,hx,hn]
 simp only [Zi,Zd,cond_true,cond_false,Zf,Zz,Za,Zn,condC,Zh,Zg,Zm,ZH,ZT,ZB,Ud,wrap_succ hi (by omega)]
 simp only [Yx,Md]
 by_cases a:(Y7 x.Name s).1=0 <;> rcases Bool.eq_false_or_eq_true (btw x.Room 1 1000) with g | g <;> by_cases b:x.Policy < 1 <;> by_cases c:3 < x.Policy <;> simp [a,g,b,c]
theorem Zyp (L:Nat)(d:Zc)(h:ZF d)(hL:SizeOf.sizeOf d≤L)(s:Seen):Zt (Kq d L) L (0,s,())=some ((YI (fun v:YW=>Yx v.Name (Zaj v)) d.Belts s).1,(YI (fun v:YW=>Yx v.Name (Zaj v)) d.Belts s).2,()):=by
 have hz:=VZ d
 have hs:=Sh.of hL
 have hl:=h.Belts.1
 refine Zfm d.Belts _ hs.bel s (fun self s i x hx hi mem=>?_) (fun self s=>by rw [Kq]; simp only [Zi,Zd,cond_true,cond_false,Zf,Zz,Za,Zn,condC,Zh,Zg,Zm,ZH,ZT,ZB])
 have hm:=Znc (fun v:YW=>v.Name) (fun x=>by cases x; simp; omega) mem
 have hn:=Qx L x.Name (by have:=(h.Belts.2 x mem).Name; unfold Len; omega) (by omega)
 rw [Kq]
 simp only [Zi,cond_true,Zf,Zz,ZB,UU,hi,hx,hn]
 simp only [Zi,Zd,cond_true,cond_false,Zf,Zz,Za,Zn,condC,Zh,Zg,Zm,ZH,ZT,ZB,Ud,wrap_succ hi (by omega)]
 simp only [Yx,Zaj]
 by_cases a:(Y7 x.Name s).1=0 <;> rcases Bool.eq_false_or_eq_true (btw x.Length 1 1000) with g | g <;> rcases Bool.eq_false_or_eq_true (btw x.Step 1 1000) with g' | g' <;> simp [a,g,g']
theorem Zys (L:Nat)(h1:100≤L)(d:Zc)(h:ZF d)(hL:SizeOf.sizeOf d≤L)(s:Seen):Zt (Kt d L) L (0,s,())=some ((YI (fun v:ZR=>Yx v.Name (Xn v)) d.Routines s).1,(YI (fun v:ZR=>Yx v.Name (Xn v)) d.Routines s).2,()):=by
 have hz:=VZ d
 have hs:=Sh.of hL
 have hl:=h.Routines.1
 refine Zfm d.Routines _ hs.rou s (fun self s i x hx hi mem=>?_) (fun self s=>by rw [Kt]; simp only [Zi,Zd,cond_true,cond_false,Zf,Zz,Za,Zn,condC,Zh,Zg,Zm,ZH,ZT,ZB])
 have hm:=Znc (fun v:ZR=>v.Name) (fun x=>by cases x; simp; omega) mem
 have ok:=h.Routines.2 x mem
 have hn:=Qx L x.Name (by have:=ok.Name; unfold Len; omega) (by omega)
 rw [Kt]
 simp only [Zi,cond_true,Zf,Zz,ZB,UU,hi,hx,hn]
 simp only [Zi,Zd,cond_true,cond_false,Zf,Zz,Za,Zn,condC,Zh,Zg,Zm,ZH,ZT,ZB,Zpa L h1 x ok (by omega),wrap_succ hi (by omega)]
 simp only [Yx]
 by_cases a:(Y7 x.Name s).1=0 <;> simp [a]
theorem Zyt (L:Nat)(d:Zc)(h:ZF d)(hL:SizeOf.sizeOf d≤L)(s:Seen):Zt (Xb d L) L (0,s,())=some (Yj (VC d) d.Starts,s,()):=by
 have hz:=VZ d
 have hs:=Sh.of hL
 have hl:=h.Starts.1
 have:=Zfm (f := Xb d L) d.Starts (fun x s=>(VC d x,s)) hs.sta s (fun self s i x hx hi mem=>by
  have hm:=Znc (fun v:Xi=>v.Routine) (fun x=>by cases x; simp; omega) mem
  have hx2:SizeOf.sizeOf x.Args < SizeOf.sizeOf x:=by cases x; simp; omega
  have ha:=ZG x.Args
  rw [Xb]
  simp only [Zi,Zd,cond_true,cond_false,Zf,Zz,Za,Zn,condC,Zh,Zg,Zm,ZH,ZT,ZB,hi,hx,Zuu L d h hs.rou x (h.Starts.2 x mem) (by omega),wrap_succ hi (by omega)]) (fun self s=>by rw [Xb]; simp only [Zi,Zd,cond_true,cond_false,Zf,Zz,Za,Zn,condC,Zh,Zg,Zm,ZH,ZT,ZB])
 rw [PX] at this
 exact this
theorem Rz {σ:Type}(P:Int×σ)(r:List (σ→Int×σ)){X:Option (Int×σ×PUnit)}(h:X=some ((Bo r P.2).1,(Bo r P.2).2,()))(f:σ→Int×σ)(s:σ)(hP:f s=P):(bif P.1 != 0 then some (P.1,P.2,()) else X)=some ((Bo (f :: r) s).1,(Bo (f :: r) s).2,()):=by
 subst h; subst hP
 rw [Bo]
 by_cases c:(f s).1=0 <;> simp [c,ZB]
theorem ZwQ (L:Nat)(h1:100≤L)(d:Zc)(h:ZF d)(hL:SizeOf.sizeOf d≤L):H8 L (d,())=some (Zgd d):=by
 have hz:=VZ d
 have e0:=fun s=>Gi 32 (fun v:V6=>Yx v.Name (MH v)) d.Vars s (ZvU L d h hL s)
 have e1:=fun s=>Gi 32 (fun v:Zu=>Yx v.Name (ZmC d v)) d.Resources s (Zyr L h1 d h hL s)
 have e2:=fun s=>Gi 32 (fun v:Yw=>Yx v.Name (Md v)) d.Stores s (Zyu L d h hL s)
 have e3:=fun s=>Gi 32 (fun v:YW=>Yx v.Name (Zaj v)) d.Belts s (Zyp L d h hL s)
 have e4:=fun s=>Gi 32 Y7 d.Queues s (Zos L d h.Queues (by omega) s)
 have e5:=fun s:Seen=>Gi 32 Y7 d.Streams s (show Zt (Sv d L) L (0,s,())=_ from Zos L { d with Queues:=d.Streams } h.Streams (show SizeOf.sizeOf d.Streams≤L by omega) s)
 have e6:=fun s:Seen=>Gi 32 Y7 d.Tallies s (show Zt (Sz d L) L (0,s,())=_ from Zos L { d with Queues:=d.Tallies } h.Tallies (show SizeOf.sizeOf d.Tallies≤L by omega) s)
 have e7:=fun s:Seen=>Gi 32 Y7 d.Levels s (show Zt (S9 d L) L (0,s,())=_ from Zos L { d with Queues:=d.Levels } h.Levels (show SizeOf.sizeOf d.Levels≤L by omega) s)
 have e8:=fun s:Seen=>Gi 32 Y7 d.Counts s (show Zt (SA d L) L (0,s,())=_ from Zos L { d with Queues:=d.Counts } h.Counts (show SizeOf.sizeOf d.Counts≤L by omega) s)
 have e9:=fun s=>Gi 16 (fun v:ZR=>Yx v.Name (Xn v)) d.Routines s (Zys L h1 d h hL s)
 have ea:∀ s:Seen,(bif decide ((d.Starts.length:Int) > 32) then some (6,s,()) else Zt (Xb d L) L (0,s,()))=some (Px 32 (VC d) d.Starts,s,()):=fun s=>by
  rw [Zyt L d h hL s]; unfold Px; by_cases c:32 < (d.Starts.length:Int) <;> simp [c]
 rw [Zh4]
 simp only [e0,e1,e2,e3,e4,e5,e6,e7,e8,e9,ea,Zz,ZwM L d h hL]
 have fin:∀ s:Seen,(bif BM d != 0 then some (BM d,s,()) else some (0,s,()))=some ((Bo [fun s:Seen=>(BM d,s)] s).1,(Bo [fun s:Seen=>(BM d,s)] s).2,()):=fun s=>by
  rw [Bo,Bo,ZB]; by_cases c:BM d=0 <;> simp [c]
 have key:=Rz _ _ (Rz _ _ (Rz _ _ (Rz _ _ (Rz _ _ (Rz _ _ (Rz _ _ (Rz _ _ (Rz _ _ (Rz _ _ (Rz (Px 32 (VC d) d.Starts,_) _ (fin _) (fun s=>(Px 32 (VC d) d.Starts,s)) _ rfl) (QN 16 (fun v:ZR=>Yx v.Name (Xn v)) d.Routines) _ rfl) (QN 32 Y7 d.Counts) _ rfl) (QN 32 Y7 d.Levels) _ rfl) (QN 32 Y7 d.Tallies) _ rfl) (QN 32 Y7 d.Streams) _ rfl) (QN 32 Y7 d.Queues) _ rfl) (QN 32 (fun v:YW=>Yx v.Name (Zaj v)) d.Belts) _ rfl) (QN 32 (fun v:Yw=>Yx v.Name (Md v)) d.Stores) _ rfl) (QN 32 (fun v:Zu=>Yx v.Name (ZmC d v)) d.Resources) _ rfl) (QN 32 (fun v:V6=>Yx v.Name (MH v)) d.Vars) ([]:Seen) rfl
 exact (congrArg (fun o:Option (Int×Seen×PUnit)=>bT o fun y=>some y.1) key).trans rfl
end Go.Proofs.YtgjcjbhhhlelnaaGreatDoor
end
section
namespace Go.Proofs.YtgjcjbhhhlelnaaGreatDoor
open Go Go.Proofs.YtgjcjbhhhlelnaaGreatDoor.Abs Go.Proofs.YtgjcjbhhhlelnaaGreatDoor.Tl
set_option maxRecDepth 100000
def M1 (n:List UInt8)(d:Zc):Int:=if decide (Vr n≠0)=true then Vr n else (Yx d.Name (Zgd d) []).1
theorem one1 {α:Type}(a:α):ZM [a] 0=some a∧decide ((0:Int) < (([a].length:Nat):Int))=true∧decide ((1:Int) < (([a].length:Nat):Int))=false∧decide ((([a].length:Nat):Int) > 16)=false∧decide ((([a].length:Nat):Int)=0)=false∧decide ((([a].length:Nat):Int) > 0)=true∧decide ((([a].length:Nat):Int)≤16)=true :=
 ⟨Zf [a] 0,by simp,by simp,by simp,by simp,by simp,by simp⟩
theorem ZuZ (α:Type):decide ((0:Int) < ((([]:List α).length:Nat):Int))=false∧decide (((([]:List α).length:Nat):Int) > 32)=false∧decide (((([]:List α).length:Nat):Int)≤32)=true:=⟨rfl,rfl,rfl⟩
theorem Zry (L:Nat)(h1:100≤L)(n:List UInt8)(hn:n.length≤140737488351232)(hnL:n.length < L)(d:Zc)(h:ZF d)(hL:SizeOf.sizeOf d≤L):Kz L (⟨n,[],[d],[]⟩,())=some (M1 n d):=by
 have hs:=Sh.of hL
 have e1:=Qx L n (by unfold Len; omega) hnL
 have e2:=Qx L d.Name (by have:=h.Name; unfold Len; omega) hs.nm
 have e3:KA L (⟨n,[],[d],[]⟩,())=some 0:=by
  rw [ZfF,Zdy _ (show 2 < L by omega)]
  simp only [DC,ZuZ,cond_false,Zz]
 have e4:Zt (Iu ⟨n,[],[d],[]⟩ L) L (0,[],())=some (0,[],()):=by
  rw [Zdy _ (show 2 < L by omega)]
  simp only [Iu,ZuZ,cond_false]
 rw [ZfD]
 simp only [Zdy (Iw ⟨n,[],[d],[]⟩ L) (show 2 < L by omega),Iw,one1,ZuZ,w01,e1,e2,e3,e4,UU,Zz,cond_true,cond_false,ZB,ZH,ZwQ L h1 d h hL]
 simp only [M1,Yx]
 by_cases a:Vr n=0 <;> by_cases b:(Y7 d.Name []).1=0 <;> by_cases c:Zgd d=0 <;> simp [a,b,c,Zz]
theorem Ue (L:Nat)(a b c:Int):ZL L (a,b,c,())=some (btw a b c):=ZhB L a b c
theorem J9 (L:Nat)(a b:Int):Z8 L (a,b,())=some (YU a b):=by
 simp only [Zi,Zd,cond_true,cond_false,Zf,Zz,Za,Zn,condC,Zh,Zg,Zm,ZH,ZT,ZB,Zj7,YU]; simp only [Yu,Xa,if_true,if_false,Bool.false_eq_true,ne_eq,decide_not,gt_iff_lt,ge_iff_le]
theorem XF (L:Nat)(a:Bool)(b:Int):Zo L (a,b,())=some (Y2 a b):=by
 simp only [Zi,Zd,cond_true,cond_false,Zf,Zz,Za,Zn,condC,Zh,Zg,Zm,ZH,ZT,ZB,ZhA,Y2]; simp only [Yu,Xa,if_true,if_false,Bool.false_eq_true,ne_eq,decide_not,gt_iff_lt,ge_iff_le]
theorem ZoT (L:Nat)(t:Int):GM L (t,())=some (Zij t):=Zj6 L t
theorem Zs2 (L:Nat)(t n:Int):Oj L (t,n,())=some (fitsT t n):=by
 simp only [Zi,Zd,cond_true,cond_false,Zf,Zz,Za,Zn,condC,Zh,Zg,Zm,ZH,ZT,ZB,Zm2,Zuq,Ue,fitsT]; simp only [Yu,Xa,if_true,if_false,Bool.false_eq_true,ne_eq,decide_not,gt_iff_lt,ge_iff_le]
theorem ZkQ (s:List UInt8)(l:List (List UInt8)):decide (Gl (fun k=>decide (k=s)) l 0 < 0)=!(l.contains s):=by
 have:=ZbT (fun x:List UInt8=>x) s l
 rw [List.map_id'] at this
 rw [← this,show decide (Gl (fun k=>decide (k=s)) l 0 < 0)=!decide (Gl (fun k=>decide (k=s)) l 0 ≥ 0) by rw [← decide_not]; congr 1; exact propext Int.not_le.symm]
theorem ZaD (L:Nat)(h1:100≤L)(s:List UInt8)(seen:Seen)(hs:Len s)(hsL:s.length < L)(hl:Len seen)(hL:seen.length < L):V3 L (s,seen,())=some (FT s seen):=by
 simp only [Zi,Zd,cond_true,cond_false,Zf,Zz,Za,Zn,condC,Zh,Zg,Zm,ZH,ZT,ZB,Zj9,JA L s hs hsL h1,Zhl L seen s hl hL,XF,J9,ZkQ,FT]
theorem apS {l:List (List UInt8)}{a:List UInt8}(h:l.length≤8000000000000):apT 16 l [a]=some (l ++ [a]):=by unfold apT; rw [if_pos (by simp only [List.length_cons,List.length_nil]; omega)]
theorem Zo1 {α τ ρ:Type}{f:(τ→Option ρ)→τ→Option ρ}(l:List α)(nm:α→List UInt8)(pk:List (List UInt8)→Int→τ)(o:Option ρ){m:Nat}(hm:l.length < m)
  (h1:∀ self s (i:Nat) x,l[i]? = some x→i < l.length→s.length≤i→f self (pk s i)=self (pk (s ++ [nm x]) ((i:Int) + 1)))
  (h2:∀ self,f self (pk (l.map nm) (l.length:Nat))=o):Zt f m (pk [] 0)=o:=by
 have key:∀ (m i:Nat),i≤l.length→l.length - i < m→Zt f m (pk ((l.take i).map nm) i)=o:=by
  intro m
  induction m with
  | zero=>intro i _ h; exact absurd h (Nat.not_lt_zero _)
  | succ m ih =>
   intro i hi hm
   show f (Zt f m) _=_
   rcases Nat.lt_or_ge i l.length with hlt | hge
   ·have hx:=List.getElem?_eq_getElem hlt
    rw [h1 _ _ i _ hx hlt (by rw [List.length_map,List.length_take]; omega),← ih (i + 1) hlt (by omega)]
    rw [List.take_succ,hx,List.map_append]; rfl
   ·have:i=l.length:=by omega
    subst this
    rw [List.take_length,h2]
 exact key m 0 (Nat.zero_le _) (by omega)
theorem Zjd (L:Nat)(d:Zc)(h:ZF d)(hs:Sh L d):JG L (d,())=some ((XY d).map (·.2)):=by
 have a1:=h.Vars.1; have a2:=h.Resources.1; have a3:=h.Stores.1; have a4:=h.Belts.1; have a5:=h.Routines.1
 rw [Zj5]
 refine Zo1 d.Vars (·.Name) (fun s i=>(i,s,[],[],[],[],[],[],[],[],[],())) _ hs.vars (fun self s i x hx hi hsl=>by
  rw [Ro]; simp only [Zi,Zd,cond_true,cond_false,Zf,Zz,Za,Zn,condC,Zh,Zg,Zm,ZH,ZT,ZB,hi,hx,wrap_succ hi (by omega),apS (show s.length≤8000000000000 by omega)]) (fun self=>?_)
 rw [Ro]; simp only [Zi,Zd,cond_true,cond_false,Zf,Zz,Za,Zn,condC,Zh,Zg,Zm,ZH,ZT,ZB]
 refine Zo1 d.Resources (·.Name) (fun s i=>(i,_,s,[],[],[],[],[],[],[],[],())) _ hs.res (fun self s i x hx hi hsl=>by
  rw [Rn]; simp only [Zi,Zd,cond_true,cond_false,Zf,Zz,Za,Zn,condC,Zh,Zg,Zm,ZH,ZT,ZB,hi,hx,wrap_succ hi (by omega),apS (show s.length≤8000000000000 by omega)]) (fun self=>?_)
 rw [Rn]; simp only [Zi,Zd,cond_true,cond_false,Zf,Zz,Za,Zn,condC,Zh,Zg,Zm,ZH,ZT,ZB]
 refine Zo1 d.Stores (·.Name) (fun s i=>(i,_,_,s,[],[],[],[],[],[],[],())) _ hs.sto (fun self s i x hx hi hsl=>by
  rw [Rl]; simp only [Zi,Zd,cond_true,cond_false,Zf,Zz,Za,Zn,condC,Zh,Zg,Zm,ZH,ZT,ZB,hi,hx,wrap_succ hi (by omega),apS (show s.length≤8000000000000 by omega)]) (fun self=>?_)
 rw [Rl]; simp only [Zi,Zd,cond_true,cond_false,Zf,Zz,Za,Zn,condC,Zh,Zg,Zm,ZH,ZT,ZB]
 refine Zo1 d.Belts (·.Name) (fun s i=>(i,_,_,_,s,[],[],[],[],[],[],())) _ hs.bel (fun self s i x hx hi hsl=>by
  rw [Rk]; simp only [Zi,Zd,cond_true,cond_false,Zf,Zz,Za,Zn,condC,Zh,Zg,Zm,ZH,ZT,ZB,hi,hx,wrap_succ hi (by omega),apS (show s.length≤8000000000000 by omega)]) (fun self=>?_)
 rw [Rk]; simp only [Zi,Zd,cond_true,cond_false,Zf,Zz,Za,Zn,condC,Zh,Zg,Zm,ZH,ZT,ZB]
 refine Zo1 d.Routines (·.Name) (fun s i=>(i,_,_,_,_,_,_,_,_,_,s,())) _ hs.rou (fun self s i x hx hi hsl=>by
  rw [Rj]; simp only [Zi,Zd,cond_true,cond_false,Zf,Zz,Za,Zn,condC,Zh,Zg,Zm,ZH,ZT,ZB,hi,hx,wrap_succ hi (by omega),apS (show s.length≤8000000000000 by omega)]) (fun self=>?_)
 rw [Rj]; simp only [Zi,Zd,cond_true,cond_false,Zf,Zz,Za,Zn,condC,Zh,Zg,Zm,ZH,ZT,ZB]
 rfl
end Go.Proofs.YtgjcjbhhhlelnaaGreatDoor
end
section
namespace Go.Proofs.YtgjcjbhhhlelnaaGreatDoor
open Go Go.Proofs.YtgjcjbhhhlelnaaGreatDoor.Abs Go.Proofs.YtgjcjbhhhlelnaaGreatDoor.Tl
set_option maxRecDepth 100000
theorem ZgX (L:Nat)(d:Zc)(h:ZF d)(hs:Sh L d):∀ p ∈ XY d,Len p.2∧p.2.length < L:=by
 have a1:=h.Vars.1; have a2:=h.Resources.1; have a3:=h.Stores.1; have a4:=h.Belts.1; have a5:=h.Routines.1
 have b1:=h.Queues.1; have b2:=h.Streams.1; have b3:=h.Tallies.1; have b4:=h.Levels.1; have b5:=h.Counts.1
 obtain ⟨c1,c2,c3,c4,c5,c6,c7,c8,c9,c10,c11,c12,c13⟩:=hs
 intro p hp
 simp only [XY,List.mem_cons,List.not_mem_nil,or_false] at hp
 unfold Len
 rcases hp with rfl | rfl | rfl | rfl | rfl | rfl | rfl | rfl | rfl | rfl <;> simp only [List.length_map] <;> omega
theorem Ztt (s:List UInt8)(l:List (List UInt8)):decide (Gl (fun k=>decide (k=s)) l 0 ≥ 0)=l.contains s:=by
 have:=ZbT (fun x:List UInt8=>x) s l
 rwa [List.map_id'] at this
theorem ZwD (L:Nat)(d:Zc)(h:ZF d)(hs:Sh L d)(hL:100≤L)(s:List UInt8):Q9 L (d,s,())=some (IQ s (XY d)):=by
 rw [Zm3,Zjd L d h hs,Zz]
 have lp:=Zd1 (f := OA s L ((XY d).map (·.2))) ((XY d).map (·.2)) ((XY d).map (·.1)) (by simp) (fun l l'=>some (IQ s (l'.zip l))) (m := L) (show 10 < L by omega) (fun self i x y r r' hx hy hi mem e=>by
  have hi2:i < 10:=hi
  obtain ⟨p,hp,rfl⟩:=List.mem_map.1 mem
  have hk:=ZgX L d h hs p hp
  have hy':[[118,97,114],[114,101,115,111,117,114,99,101],[115,116,111,114,101],[98,101,108,116],[113,117,101,117,101],[115,116,114,101,97,109],[116,97,108,108,121],[108,101,118,101,108],[99,111,117,110,116],[114,111,117,116,105,110,101]][i]? = some y:=hy
  rw [OA]
  simp only [Zi,Zd,cond_true,cond_false,Zf,Zz,Za,Zn,condC,Zh,Zg,Zm,ZH,ZT,ZB,hi,hx,Zhl L p.2 s hk.1 hk.2,Ztt]
  rw [wrap_in (by omega) (by omega),e]
  simp only [hy',Zz,Zm,List.zip_cons_cons,IQ]; simp only [Yu,Xa,if_true,if_false,Bool.false_eq_true,ne_eq,decide_not,gt_iff_lt,ge_iff_le]) (fun self=>by rw [OA]; simp only [Zi,Zd,cond_true,cond_false,Zf,Zz,Za,Zn,condC,Zh,Zg,Zm,ZH,ZT,ZB,List.zip_nil_right,IQ])
 rw [lp]
 congr 2
theorem Ah (d:Zc)(h:(Bo ((Xf d).map stepD) []).1=0)(nm:List UInt8)(p:List UInt8×List (List UInt8))(hp:p ∈ XY d):decide (IQ nm (XY d)=p.1)=p.2.contains nm:=by
 have key:IQ nm (XY d)=p.1↔nm ∈ p.2:=by
  refine Zem nm (XY d) ?_ ?_ ?_ p hp
  ·have:=(Zs8 _ _ h).1
   have h2:((Xf d).map Zar).Pairwise (fun a b=>∀ x ∈ a,x ∉ b):=List.pairwise_map.2 this
   rw [← ZkT] at h2
   exact List.pairwise_map.1 h2
  ·simp only [XY,List.map_cons,List.map_nil]; decide
  ·simp only [XY,List.map_cons,List.map_nil]; decide
 rw [← List.contains_iff_mem] at key
 by_cases c:IQ nm (XY d)=p.1
 ·rw [key.1 c]; simp [c]
 ·have:p.2.contains nm=false:=by
   rw [← Bool.not_eq_true]; exact fun e=>c (key.2 e)
  rw [this]; simp [c]
theorem ZrT (t:I7)(b:Bool):YU (YU (Y2 true 1) (Y2 b 5)) (Y2 (btw t.Coef (-1000) 1000 && !decide (t.Coef=0)) 2)=ZdC t b:=by
 unfold ZdC
 rcases Bool.eq_false_or_eq_true (btw t.Coef (-1000) 1000) with h3 | h3 <;> by_cases c:t.Coef=0 <;> cases b <;> simp [YU,Y2,c,h3]
theorem Zut (L:Nat)(d:Zc)(h:ZF d)(hs:Sh L d)(hL:100≤L)(hd:(Bo ((Xf d).map stepD) []).1=0)(t:I7):BD L (d,t,())=some (ZdB d t):=by
 have hR:=Ah d hd t.Name ([114,111,117,116,105,110,101],d.Routines.map (·.Name)) (by simp [XY])
 have hS:=Ah d hd t.Name ([115,116,111,114,101],d.Stores.map (·.Name)) (by simp [XY])
 have hQ:=Ah d hd t.Name ([99,111,117,110,116],d.Counts) (by simp [XY])
 simp only at hR hS hQ
 have z:∀ x,YU (YU (Y2 false 1) x)=fun _=>1:=fun x=>by funext y; simp [YU,Y2]
 simp only [Zi,Zd,cond_true,cond_false,Zf,Zz,Za,Zn,condC,Zh,Zg,Zm,ZH,ZT,ZB,Zm5,XF,J9,ZwD L d h hs hL,Ue,hR,hS,hQ,reduceCtorEq,decide_false,decide_true,Bool.not_false,Bool.not_true,ZrT,z,ZdB]
 simp only [Yu,Xa,if_true,if_false,Bool.false_eq_true,ne_eq,decide_not,gt_iff_lt,ge_iff_le]
theorem ZkI (a b c:Int):YU (YU a b) c=YU a (YU b c):=by
 unfold YU
 by_cases h:a=0 <;> by_cases h2:b=0 <;> simp [h,h2]
theorem Zqw {α:Type}(f:α→Int)(x:α)(r:List α):YU (f x) (Yj f r)=Yj f (x :: r):=by
 unfold YU; rw [Yj]
theorem Zqx (a:Int):YU a 0=a:=by unfold YU; by_cases h:a=0 <;> simp [h]
theorem Zy8 (L:Nat)(d:Zc)(h:ZF d)(hs:Sh L d)(hL:100≤L)(hd:(Bo ((Xf d).map stepD) []).1=0)(l:Zdi)(ok:Zne l)(hl:l.Terms.length < L)(hn:l.Name.length < L)(seen:Seen)(h1:Len seen)(h2:seen.length < L):EE L (d,l,seen,())=some (Yx l.Name (ZpL d l) seen).1:=by
 have ht:=ok.t
 have lp:=fun n=>Zaq (f := Bi d l L) l.Terms (fun r n=>some (YU (YU n (Yj (ZdB d) r)) (Y2 (inB l.Total) 2))) hl n (fun self n i x r hx hi mem e=>by
  rw [Bi]; simp only [Zi,Zd,cond_true,cond_false,Zf,Zz,Za,Zn,condC,Zh,Zg,Zm,ZH,ZT,ZB,hi,hx,Zut L d h hs hL hd x,J9,wrap_succ hi (by omega),e,ZkI,← Zqw]) (fun self n=>by
  rw [Bi]; simp only [Zi,Zd,cond_true,cond_false,Zf,Zz,Za,Zn,condC,Zh,Zg,Zm,ZH,ZT,ZB,Zuq,XF,J9,Yj,Zqx])
 simp only [Zi,Zd,cond_true,cond_false,Zf,Zz,Za,Zn,condC,Zh,Zg,Zm,ZH,ZT,ZB,Zpn,ZaD L hL l.Name seen (by have:=ok.Name; unfold Len; omega) hn h1 h2,XF,J9,lp]
 rw [Zdc]
 simp only [ZkI]
 congr 2
 unfold ZpL Px
 by_cases a:l.Terms=[] <;> by_cases b:8 < (l.Terms.length:Int) <;> by_cases c:Yj (ZdB d) l.Terms=0 <;> rcases Bool.eq_false_or_eq_true (inB l.Total) with g | g <;> simp [a,b,c,g,YU,Y2]
theorem ZkP {α:Type}(nm:α→List UInt8)(s:List UInt8):∀ (l:List α) (i:Int),Gl (fun k=>decide (k=s)) (l.map nm) i=Gl (fun x=>decide (nm x=s)) l i
 | [],_=>rfl
 | x :: l,i=>by simp only [List.map_cons,Gl,ZkP nm s l]
theorem Zmo (L:Nat)(d:Zc)(h:ZF d)(hs:Sh L d)(s:List UInt8):KE L (d,s,())=some (Gl (fun r:ZR=>decide (r.Name=s)) d.Routines 0):=by
 have hk:=ZgX L d h hs ([114,111,117,116,105,110,101],d.Routines.map (·.Name)) (by simp [XY])
 rw [ZfK,Zjd L d h hs,Zz,show ZM ((XY d).map (·.2)) 9=some (d.Routines.map (·.Name)) from Zf _ 9,Zz,Zhl L _ s hk.1 hk.2,Zz,ZkP]
theorem ZmB (L:Nat)(s:Xi)(r:ZR)(hp:r.Params.length≤4611686018427387)(he:r.Params.length=s.Args.length)(hL:r.Params.length < L):Zt (Hr s L r) L (0,())=some (MM (CQ s) r.Params s.Args):=by
 refine Zd1 r.Params s.Args he (fun p a=>some (MM (CQ s) p a)) hL (fun self i x y q q' hx hy hi _ e=>?_) (fun self=>?_)
 ·rw [Hr]; simp only [Zi,Zd,cond_true,cond_false,Zf,Zz,Za,Zn,condC,Zh,Zg,Zm,ZH,ZT,ZB,hi,hx,hy,Zs2,wrap_succ hi (by omega),e,MM]; simp only [Yu,Xa,if_true,if_false,Bool.false_eq_true,ne_eq,decide_not,gt_iff_lt,ge_iff_le]
 ·rw [Hr,← Zp8]; simp only [Zi,Zd,cond_true,cond_false,Zf,Zz,Za,Zn,condC,Zh,Zg,Zm,ZH,ZT,ZB,Ue,XF,MM,ZjY]; simp only [Yu,Xa,if_true,if_false,Bool.false_eq_true,ne_eq,decide_not,gt_iff_lt,ge_iff_le]
theorem Zr0 (L:Nat)(d:Zc)(h:ZF d)(hs:Sh L d)(s:Xi)(hs':DT s)(hsL:s.Args.length < L):Tm L (d,s,())=some (VC d s):=by
 rw [ZjA,Zmo L d h hs s.Routine,Zz,VC]
 rcases ZaA (fun r:ZR=>decide (r.Name=s.Routine)) d.Routines 0 with ⟨a,b⟩ | ⟨k,r,a,b,c⟩
 ·rw [a,b]; rfl
 ·have ok:=h.Routines.2 r (List.mem_of_getElem? c)
  rw [a,b,Int.zero_add,show decide ((k:Int) < 0)=false by simp only [decide_eq_false_iff_not]; omega,cond_false,Zf,c,Zz]
  simp only
  rcases ZuW s.Args r.Params with ⟨e1,e2⟩ | ⟨e1,e2⟩
  ·rw [ZmB L s r ok.p.1 e1.symm (by omega),ZB,e2]; simp only [Yu,Xa,if_true,if_false,Bool.false_eq_true,ne_eq,decide_not,gt_iff_lt,ge_iff_le,e2,Bool.not_true,cond_false]
  ·rw [ZB,e2]; simp only [Yu,Xa,if_true,if_false,Bool.false_eq_true,ne_eq,decide_not,gt_iff_lt,ge_iff_le,e2,Bool.not_false,cond_true]
theorem ZtC {α τ:Type}{f:(τ→Option Int)→τ→Option Int}(pk:Seen→Int→τ)(l:List α)(step:α→Seen→Int×Seen)(c:Nat)(e:Seen→Option Int){m:Nat}(hm:l.length < m)
  (hst:∀ x s,(step x s).2.length≤s.length + 1)
  (h1:∀ self s (i:Nat) x,l[i]? = some x→i < l.length→x ∈ l→s.length≤c + i→f self (pk s i)=bif !decide ((step x s).1=0) then some (step x s).1 else self (pk (step x s).2 ((i:Int) + 1)))
  (h2:∀ self s,s.length≤c + l.length→f self (pk s (l.length:Nat))=e s) (s:Seen) (hs:s.length≤c):Zt f m (pk s 0)=if decide ((YI step l s).1≠0)=true then some (YI step l s).1 else e (YI step l s).2:=by
 have key:∀ (m i:Nat) (s:Seen),i≤l.length→l.length - i < m→s.length≤c + i→Zt f m (pk s i)=if decide ((YI step (l.drop i) s).1≠0)=true then some (YI step (l.drop i) s).1 else e (YI step (l.drop i) s).2:=by
  intro m
  induction m with
  | zero=>intro i s _ h; exact absurd h (Nat.not_lt_zero _)
  | succ m ih =>
   intro i s hi hm hsl
   show f (Zt f m) _=_
   rcases Nat.lt_or_ge i l.length with hlt | hge
   ·have hx:=List.getElem?_eq_getElem hlt
    have:=ih (i + 1) (step l[i] s).2 hlt (by omega) (by have:=hst l[i] s; omega)
    rw [h1 _ s i _ hx hlt (List.getElem_mem hlt) hsl,List.drop_eq_getElem_cons hlt,YI,show ((i:Int) + 1)=((i + 1:Nat):Int) from rfl,this]
    by_cases z:(step l[i] s).1=0 <;> simp [z]
   ·have:i=l.length:=by omega
    subst this
    rw [List.drop_length,h2 _ s hsl]; rfl
 exact key m 0 s (Nat.zero_le _) (by omega) (by omega)
theorem Zdd (s:List UInt8)(r:Int)(seen:Seen):(Yx s r seen).2.length≤seen.length + 1:=by
 have h:(Y7 s seen).2.length≤seen.length + 1:=by
  unfold Y7
  split
  ·exact Nat.le_succ _
  ·split
   ·exact Nat.le_succ _
   ·simp
 unfold Yx
 split <;> exact h
end Go.Proofs.YtgjcjbhhhlelnaaGreatDoor
end
section
namespace Go.Proofs.YtgjcjbhhhlelnaaGreatDoor
open Go Go.Proofs.YtgjcjbhhhlelnaaGreatDoor.Abs Go.Proofs.YtgjcjbhhhlelnaaGreatDoor.Tl
set_option maxRecDepth 100000
theorem Zde {s:List UInt8}{r:Int}{seen:Seen}(h:(Yx s r seen).1=0):(Yx s r seen).2=seen ++ [s]:=(ZpI h).1
theorem Zmq (L:Nat)(h1:100≤L)(r:ZR)(h:I5 r)(hL:SizeOf.sizeOf r≤L):KF L (r,())=some (Xn r):=by
 have hz:=ZsC r
 have hp:=h.p
 have hw:IntKind.i64.wrap ((r.Params.length:Int) + (r.Locals.length:Int))=(r.Params.length:Int) + (r.Locals.length:Int):=wrap_in (by omega) (by omega)
 rw [ZfL,hw,Xn]
 by_cases hc:6 < (r.Params.length:Int)∨16 < (r.Params.length:Int) + (r.Locals.length:Int)
 ·rw [if_pos (by simpa using hc),show (decide ((r.Params.length:Int) > 6) || decide ((r.Params.length:Int) + (r.Locals.length:Int) > 16))=true by simpa using hc]; rfl
 ·have hf:(decide ((r.Params.length:Int) > 6) || decide ((r.Params.length:Int) + (r.Locals.length:Int) > 16))=false:=by
   simp only [Bool.or_eq_false_iff,decide_eq_false_iff_not]; omega
  have hf':¬ ((decide (6 < (r.Params.length:Int)) || decide (16 < (r.Params.length:Int) + (r.Locals.length:Int)))=true):=by simpa using hc
  have hlen:(r.Params ++ r.Locals).length≤16:=by rw [List.length_append]; omega
  have p1:apT 24 [] r.Params=some r.Params:=by unfold apT; rw [if_pos (by simp only [List.length_nil]; omega)]; rfl
  have p2:apT 24 r.Params r.Locals=some (r.Params ++ r.Locals):=by unfold apT; rw [if_pos (by omega)]
  rw [if_neg hf',hf,cond_false,p1,Zz,p2,Zz]
  rw [ZtC (f := JQ r L (r.Params ++ r.Locals)) (fun s i=>(s,i,())) (r.Params ++ r.Locals) (fun f:WB=>Yx f.Name (ZbL f)) 0 (fun _=>some (FP r.Body)) (by omega) (fun x s=>Zdd _ _ _) (fun self s i x hx hi mem hsl=>by
   have ok:ZaP x∧x.Name.length < L:=by
    rcases List.mem_append.1 mem with m | m
    ·exact ⟨h.Params.2 x m,by have:=Zx9 m; omega⟩
    ·exact ⟨h.Locals.2 x m,by have:=Zx9 m; omega⟩
   have hn:=ZaD L h1 x.Name s (by have:=ok.1.Name; unfold Len; omega) ok.2 (by unfold Len; omega) (by omega)
   rw [JQ]
   simp only [Zi,Zd,cond_true,cond_false,Zf,Zz,Za,Zn,condC,Zh,Zg,Zm,ZH,ZT,ZB,hi,hx,hn,ZoT,XF,J9,Zv6,apS (show s.length≤8000000000000 by omega),wrap_succ hi (by omega)]
   rw [← Zdc]
   by_cases c:(Yx x.Name (ZbL x) s).1=0
   ·rw [Zde c]
   ·simp [c]) (fun self s hsl=>by
   rw [JQ]; simp only [Zi,Zd,cond_true,cond_false,Zf,Zz,Za,Zn,condC,Zh,Zg,Zm,ZH,ZT,ZB,Zpb L h1 r.Body h.p.2.2 (by omega)]) [] (Nat.le_refl _)]
  rw [Xa]; rfl
theorem ZjS (L:Nat)(d:Zu)(h:Wl d)(hL:d.Shift.length < L)(hc:IntKind.i64.wrap (d.Cycle - 1)=d.Cycle - 1):Zt (X0 d L) L (0,())=some (ZpR d.Cycle none d.Shift):=by
 have hl:=h.s
 refine Zd0 (f := X0 d L) d.Shift.length (fun i=>(i,())) (fun i=>some (ZpR d.Cycle (Zf9 d.Shift i) (d.Shift.drop i))) (fun self i hi e=>?_) (fun self=>?_) L 0 (Nat.zero_le _) (by omega)
 ·have hx:=List.getElem?_eq_getElem hi
  rw [List.drop_eq_getElem_cons hi,ZpR]
  rw [show Zf9 d.Shift (i + 1)=some (d.Shift[i].At_) by rw [Zf9,hx]; rfl] at e
  rw [X0]
  simp only [Zi,Zd,cond_true,cond_false,Zf,Zz,Za,Zn,condC,Zh,Zg,Zm,ZH,ZT,ZB,hi,hx,Ue,wrap_succ hi (by omega),e,hc,Zpj _ _ _ hi hl]; simp only [Yu,Xa,if_true,if_false,Bool.false_eq_true,ne_eq,decide_not,gt_iff_lt,ge_iff_le]
 ·rw [X0]; simp only [Zi,Zd,cond_true,cond_false,Zf,Zz,Za,Zn,condC,Zh,Zg,Zm,ZH,ZT,ZB,List.drop_length,ZpR]
theorem Zjf (L:Nat)(d:Zu)(h:Wl d)(hL:d.Shift.length < L):JU L (d,())=some (ZpQ d):=by
 simp only [Zi,Zd,cond_true,cond_false,Zf,Zz,Za,Zn,condC,Zh,Zg,Zm,ZH,ZT,ZB,Zd7,Ue,XF,ZpQ]
 by_cases hc:btw d.Cycle 1 1000000000=true
 ·have:=ZjS L d h hL (by simp only [btw,Bool.and_eq_true,decide_eq_true_eq] at hc; exact wrap_in (by omega) (by omega))
  rw [this]; simp only [Yu,Xa,if_true,if_false,Bool.false_eq_true,ne_eq,decide_not,gt_iff_lt,ge_iff_le,Y2]
  by_cases a:d.Cycle=0 <;> simp [a]
 ·rw [Bool.not_eq_true] at hc
  simp only [Yu,Xa,if_true,if_false,Bool.false_eq_true,ne_eq,decide_not,gt_iff_lt,ge_iff_le,hc,Bool.not_false,Y2]
  by_cases a:d.Cycle=0 <;> simp [a]
theorem Zmp (L:Nat)(h1:100≤L)(d:Zc)(h:ZF d)(hs:Sh L d)(x:Zu)(ok:Wl x)(hx:SizeOf.sizeOf x≤L):JV L (d,x,())=some (ZmC d x):=by
 have hx2:SizeOf.sizeOf x.Fault < SizeOf.sizeOf x∧SizeOf.sizeOf x.Shift < SizeOf.sizeOf x∧SizeOf.sizeOf x.Fault.Up < SizeOf.sizeOf x.Fault∧SizeOf.sizeOf x.Fault.Down < SizeOf.sizeOf x.Fault:=by
  obtain ⟨a,b,c,d,⟨e,f,g⟩⟩:=x; simp; omega
 have hsh:=ZG x.Shift
 have hst:=h.st
 rw [← Zu8]
 simp only [Zi,Zd,cond_true,cond_false,Zf,Zz,Za,Zn,condC,Zh,Zg,Zm,ZH,ZT,ZB,Zd8,Ue,XF,J9,Zjf L x ok (by omega),ZaC L x.Fault.Up _ ok.Fault.Up (by omega),ZaC L x.Fault.Down _ ok.Fault.Down (by omega),KJ,Zhl L d.Streams x.Fault.Stream (by unfold Len; omega) hs.str,Bg L x.Fault.Up ok.Fault.Up (by omega),Bg L x.Fault.Down ok.Fault.Down (by omega),ZkQ,ZyG]; simp only [Yu,Xa,if_true,if_false,Bool.false_eq_true,ne_eq,decide_not,gt_iff_lt,ge_iff_le]
theorem ZwF (L:Nat)(d:Zc)(j:Nat)(x:V6)(hx:d.Vars[j]? = some x):YK L (d,0,(j:Int),())=some (MH x):=by
 rw [Xc]; simp only [Zi,Zd,cond_true,cond_false,Zf,Zz,Za,Zn,condC,Zh,Zg,Zm,ZH,ZT,ZB,hx,Int.reduceEq,decide_true,decide_false,ZoT,XF,Zs2,J9,valueR]
theorem ZwG (L:Nat)(h1:100≤L)(d:Zc)(h:ZF d)(hL:SizeOf.sizeOf d≤L)(j:Nat)(x:Zu)(hx:d.Resources[j]? = some x):YK L (d,1,(j:Int),())=some (ZmC d x):=by
 have hz:=VZ d
 have mem:=List.mem_of_getElem? hx
 have hm:=List.sizeOf_lt_of_mem mem
 rw [Xc]; simp only [Zi,Zd,cond_true,cond_false,Zf,Zz,Za,Zn,condC,Zh,Zg,Zm,ZH,ZT,ZB,hx,Int.reduceEq,decide_true,decide_false,Zmp L h1 d h (Sh.of hL) x (h.Resources.2 x mem) (by omega)]
theorem ZwH (L:Nat)(d:Zc)(j:Nat)(x:Yw)(hx:d.Stores[j]? = some x):YK L (d,2,(j:Int),())=some (Md x):=by
 rw [Xc]; simp only [Zi,Zd,cond_true,cond_false,Zf,Zz,Za,Zn,condC,Zh,Zg,Zm,ZH,ZT,ZB,hx,Int.reduceEq,decide_true,decide_false,Ue,XF,J9,ge_iff_le,Zxq]
theorem ZwI (L:Nat)(d:Zc)(j:Nat)(x:YW)(hx:d.Belts[j]? = some x):YK L (d,3,(j:Int),())=some (Zaj x):=by
 rw [Xc]; simp only [Zi,Zd,cond_true,cond_false,Zf,Zz,Za,Zn,condC,Zh,Zg,Zm,ZH,ZT,ZB,hx,Int.reduceEq,decide_true,decide_false,Ue,XF,ZxP]
theorem ZwJ (L:Nat)(h1:100≤L)(d:Zc)(h:ZF d)(hL:SizeOf.sizeOf d≤L)(j:Nat)(x:ZR)(hx:d.Routines[j]? = some x):YK L (d,9,(j:Int),())=some (Xn x):=by
 have hz:=VZ d
 have mem:=List.mem_of_getElem? hx
 have hm:=List.sizeOf_lt_of_mem mem
 have e:=Zmq L h1 x (h.Routines.2 x mem) (by omega)
 generalize Xn x=z at e ⊢
 rw [Xc,show ((9:Int) == 0)=false from rfl,show ((9:Int) == 1)=false from rfl,show ((9:Int) == 2)=false from rfl,show ((9:Int) == 3)=false from rfl,show ((9:Int) == 9)=true from rfl,cond_false,cond_false,cond_false,cond_false,cond_true,Zf,hx,Zz,e,Zz]
theorem Zhn (L:Nat)(d:Zc)(k j:Int)(h:k=4∨k=5∨k=6∨k=7∨k=8):YK L (d,k,j,())=some 0:=by
 rw [Xc]; rcases h with rfl | rfl | rfl | rfl | rfl <;> simp only [Zi,Zd,cond_true,cond_false,Zf,Zz,Za,Zn,condC,Zh,Zg,Zm,ZH,ZT,ZB,Int.reduceEq,decide_true,decide_false]
end Go.Proofs.YtgjcjbhhhlelnaaGreatDoor
end
section
namespace Go.Proofs.YtgjcjbhhhlelnaaGreatDoor
open Go Go.Proofs.YtgjcjbhhhlelnaaGreatDoor.Abs Go.Proofs.YtgjcjbhhhlelnaaGreatDoor.Tl
set_option maxRecDepth 100000
theorem Zmm (L:Nat)(h1:100≤L)(d:Zc)(h:ZF d)(hL:SizeOf.sizeOf d≤L)(k:Nat)(p:Int×List (List UInt8×Int))(hp:(Xf d)[k]? = some p)(j:Nat)(q:List UInt8×Int)(hq:p.2[j]? = some q):YK L (d,(k:Int),(j:Int),())=some q.2:=by
 rcases k with _ | _ | _ | _ | _ | _ | _ | _ | _ | _ | k
 ·obtain rfl:=Option.some.inj hp; obtain ⟨x,hx,rfl⟩:=Ir hq; exact ZwF L d j x hx
 ·obtain rfl:=Option.some.inj hp; obtain ⟨x,hx,rfl⟩:=Ir hq; exact ZwG L h1 d h hL j x hx
 ·obtain rfl:=Option.some.inj hp; obtain ⟨x,hx,rfl⟩:=Ir hq; exact ZwH L d j x hx
 ·obtain rfl:=Option.some.inj hp; obtain ⟨x,hx,rfl⟩:=Ir hq; exact ZwI L d j x hx
 ·obtain rfl:=Option.some.inj hp; obtain ⟨x,hx,rfl⟩:=Ir hq; exact Zhn L d 4 j (by simp)
 ·obtain rfl:=Option.some.inj hp; obtain ⟨x,hx,rfl⟩:=Ir hq; exact Zhn L d 5 j (by simp)
 ·obtain rfl:=Option.some.inj hp; obtain ⟨x,hx,rfl⟩:=Ir hq; exact Zhn L d 6 j (by simp)
 ·obtain rfl:=Option.some.inj hp; obtain ⟨x,hx,rfl⟩:=Ir hq; exact Zhn L d 7 j (by simp)
 ·obtain rfl:=Option.some.inj hp; obtain ⟨x,hx,rfl⟩:=Ir hq; exact Zhn L d 8 j (by simp)
 ·obtain rfl:=Option.some.inj hp; obtain ⟨x,hx,rfl⟩:=Ir hq; exact ZwJ L h1 d h hL j x hx
 ·exact absurd hp (by simp [Xf])
theorem ZlW (L:Nat)(d:Zc)(h:ZF d)(hL:SizeOf.sizeOf d≤L):∀ p ∈ Xf d,∀ q ∈ p.2,Len q.1∧q.1.length < L:=by
 have hz:=VZ d
 intro p hp q hq
 simp only [Xf,List.mem_cons,List.not_mem_nil,or_false] at hp
 unfold Len
 rcases hp with rfl | rfl | rfl | rfl | rfl | rfl | rfl | rfl | rfl | rfl <;> obtain ⟨x,mem,rfl⟩:=List.mem_map.1 hq
 ·have:=Znc (fun v:V6=>v.Name) (fun x=>by cases x; simp; omega) mem; have:=(h.Vars.2 x mem).Name; simp only; omega
 ·have:=Znc (fun v:Zu=>v.Name) (fun x=>by cases x; simp; omega) mem; have:=(h.Resources.2 x mem).Name; simp only; omega
 ·have:=Znc (fun v:Yw=>v.Name) (fun x=>by cases x; simp; omega) mem; have:=(h.Stores.2 x mem).Name; simp only; omega
 ·have:=Znc (fun v:YW=>v.Name) (fun x=>by cases x; simp; omega) mem; have:=(h.Belts.2 x mem).Name; simp only; omega
 ·have:=List.sizeOf_lt_of_mem mem; have:=ZG x; have:=h.Queues.2 x mem; simp only; omega
 ·have:=List.sizeOf_lt_of_mem mem; have:=ZG x; have:=h.Streams.2 x mem; simp only; omega
 ·have:=List.sizeOf_lt_of_mem mem; have:=ZG x; have:=h.Tallies.2 x mem; simp only; omega
 ·have:=List.sizeOf_lt_of_mem mem; have:=ZG x; have:=h.Levels.2 x mem; simp only; omega
 ·have:=List.sizeOf_lt_of_mem mem; have:=ZG x; have:=h.Counts.2 x mem; simp only; omega
 ·have:=Znc (fun v:ZR=>v.Name) (fun x=>by cases x; simp; omega) mem; have:=(h.Routines.2 x mem).Name; simp only; omega
theorem inner (L:Nat)(h1:1000≤L)(d:Zc)(h:ZF d)(hL:SizeOf.sizeOf d≤L)(k:Nat)(p:Int×List (List UInt8×Int))(hp:(Xf d)[k]? = some p)(hl:p.2.length≤32)(hk:k < 10)(self:Int×List (List UInt8)×Int×PUnit→Option Int)(s0 s:Seen)(hs:s.length≤32 * k) :
  Zt (Gq d L ((Xf d).map Zar) self (0,s0,(k:Int),())) L (0,s,0,())=if decide ((YI Gy p.2 s).1≠0)=true then some (YI Gy p.2 s).1 else self (0,(YI Gy p.2 s).2,(k:Int) + 1,()):=by
 have hg:ZM ((Xf d).map Zar) (k:Int)=some (Zar p):=by rw [Zf,List.getElem?_map,hp]; rfl
 have hlen:(Zar p).length=p.2.length:=by simp [Zar]
 refine ZtC (f := Gq d L ((Xf d).map Zar) self (0,s0,(k:Int),())) (fun s i=>(0,s,i,())) p.2 Gy (32 * k) (fun s=>self (0,s,(k:Int) + 1,())) (by omega) (fun x s=>Zdd _ _ _) (fun self1 s i x hx hi mem hsl=>?_) (fun self1 s hsl=>?_) s hs
 ·have hq:(Zar p)[i]? = some x.1:=by unfold Zar; rw [List.getElem?_map,hx]; rfl
  have hi':i < (Zar p).length:=by omega
  have hnl:=ZlW L d h hL p (List.mem_of_getElem? hp) x mem
  have hn:=ZaD L (by omega) x.1 s hnl.1 hnl.2 (by unfold Len; omega) (by omega)
  have hd:=Zmm L (by omega) d h hL k p hp i x hx
  rw [Gq]
  simp only [hg,Zz]
  simp only [Zi,Zd,cond_true,cond_false,Zf,Zz,Za,Zn,condC,Zh,Zg,Zm,ZH,ZT,ZB,hi',hq,hn,hd,J9,apS (show s.length≤8000000000000 by omega),wrap_in (show -9223372036854775808≤(i:Int) + 1 by omega) (by omega)]
  rw [← Zdc]
  show _=bif !decide ((Yx x.1 x.2 s).1=0) then some (Yx x.1 x.2 s).1 else self1 (0,(Yx x.1 x.2 s).2,(i:Int) + 1,())
  by_cases c:(Yx x.1 x.2 s).1=0
  ·rw [Zde c]
  ·simp [c]
 ·rw [Gq,← hlen]
  simp only [hg,Zz]
  simp only [Zi,Zd,cond_true,cond_false,Zf,Zz,Za,Zn,condC,Zh,Zg,Zm,ZH,ZT,ZB,wrap_in (show -9223372036854775808≤(k:Int) + 1 by omega) (by omega)]
theorem outer (L:Nat)(h1:1000≤L)(d:Zc)(h:ZF d)(hL:SizeOf.sizeOf d≤L)(E:Option Int)(hE:(bif decide ((d.Starts.length:Int) > 32) then some (6:Int) else Zt (Gs d L) L (0,0,()))=E):∀ (m k:Nat) (s:Seen),k≤10→10 - k < m→s.length≤32 * k →
  Zt (JC d L ((Xf d).map Zar)) m (0,s,(k:Int),())=if decide ((Bo (((Xf d).drop k).map stepD) s).1≠0)=true then some (Bo (((Xf d).drop k).map stepD) s).1 else E
 | 0,_,_,_,h,_=>absurd h (Nat.not_lt_zero _)
 | m + 1,k,s,hk,hm,hs=>by
  show JC d L ((Xf d).map Zar) (Zt (JC d L ((Xf d).map Zar)) m) (0,s,(k:Int),())=_
  have hlen:(Xf d).length=10:=rfl
  have hlm:((Xf d).map Zar).length=10:=by rw [List.length_map,hlen]
  rcases Nat.lt_or_ge k 10 with hlt | hge
  ·have hp:=List.getElem?_eq_getElem (show k < (Xf d).length by omega)
   generalize (Xf d)[k]=p at hp
   have hg:ZM ((Xf d).map Zar) (k:Int)=some (Zar p):=by rw [Zf,List.getElem?_map,hp]; rfl
   have hnl:(Zar p).length=p.2.length:=by simp [Zar]
   have hmost:=ZlV d k p hp
   have hdrop:(Xf d).drop k=p :: (Xf d).drop (k + 1):=by
    rw [List.drop_eq_getElem_cons (show k < (Xf d).length by omega)]
    congr 1
    exact Option.some.inj ((List.getElem?_eq_getElem (show k < (Xf d).length by omega)).symm.trans hp)
   have hguard:(decide ((p.2.length:Int) > 32) || (decide ((k:Int)=9) && decide ((p.2.length:Int) > 16)))=decide (p.1 < (p.2.length:Int)):=by
    rw [hmost]
    by_cases c:k=9
    ·subst c; simp; omega
    ·rw [if_neg c,show decide ((k:Int)=9)=false by simp only [decide_eq_false_iff_not]; omega]; simp
   rw [JC,hdrop,List.map_cons,Bo]
   simp only [hlm,show decide ((k:Int) < ((10:Nat):Int))=true by simp only [decide_eq_true_eq]; omega,cond_true,hg,Zz,hnl]
   simp only [Zi,Zd,cond_true,cond_false,Zf,Zz,Za,Zn,condC,Zh,Zg,Zm,ZH,ZT,ZB,hguard]
   by_cases c:p.1 < (p.2.length:Int)
   ·have e:stepD p s=(6,s):=by unfold stepD QN; rw [if_pos (by simpa using c)]
    simp [c,e]
   ·have e:stepD p s=YI Gy p.2 s:=by unfold stepD QN; rw [if_neg (by simpa using c)]
    have hpl:p.2.length≤32:=by rw [hmost] at c; split at c <;> omega
    rw [show decide (p.1 < (p.2.length:Int))=false by simpa using c,cond_false,inner L h1 d h hL k p hp hpl hlt,e]
    have hsl:(YI Gy p.2 s).2.length≤32 * (k + 1):=by have:=Zl2 p.2 s; omega
    have ih:=outer L h1 d h hL E hE m (k + 1) (YI Gy p.2 s).2 hlt (by omega) hsl
    by_cases z:(YI Gy p.2 s).1=0
    ·simp only [z,ne_eq,not_true_eq_false,decide_false,Bool.false_eq_true,if_false]
     exact ih
    ·simp [z]
    exact hs
  ·have:k=10:=by omega
   subst this
   rw [JC,hlm,show (Xf d).drop 10=[] from rfl]
   simp only [Zi,Zd,cond_true,cond_false,Zf,Zz,Za,Zn,condC,Zh,Zg,Zm,ZH,ZT,ZB,show decide (((10:Nat):Int) < ((10:Nat):Int))=false from rfl,hE]
   simp [Bo]
theorem Zot (L:Nat)(h1:1000≤L)(d:Zc)(h:ZF d)(hL:SizeOf.sizeOf d≤L)(hd:(Bo ((Xf d).map stepD) []).1=0)(hl:d.Laws.length≤32):Zt (JB d L) L ([],0,())=some (YI (fun l:Zdi=>Yx l.Name (ZpL d l)) d.Laws []).1:=by
 have hs:=Sh.of hL
 have hz:=VZ d
 rw [ZtC (f := JB d L) (fun s i=>(s,i,())) d.Laws (fun l:Zdi=>Yx l.Name (ZpL d l)) 0 (fun _=>some 0) hs.law (fun x s=>Zdd _ _ _) (fun self s i x hx hi mem hsl=>by
  have hm:=Zzg mem
  have e:=Zy8 L d h hs (by omega) hd x (h.Laws.2 x mem) (by omega) (by omega) s (by unfold Len; omega) (by omega)
  rw [JB]
  simp only [Zi,Zd,cond_true,cond_false,Zf,Zz,Za,Zn,condC,Zh,Zg,Zm,ZH,ZT,ZB,hi,hx,e,apS (show s.length≤8000000000000 by omega),wrap_succ hi (by omega)]
  by_cases c:(Yx x.Name (ZpL d x) s).1=0
  ·rw [Zde c]
  ·simp [c]) (fun self s hsl=>by rw [JB]; simp only [Zi,Zd,cond_true,cond_false,Zf,Zz,Za,Zn,condC,Zh,Zg,Zm,ZH,ZT,ZB]) [] (Nat.le_refl _)]
 by_cases c:(YI (fun l:Zdi=>Yx l.Name (ZpL d l)) d.Laws []).1=0 <;> simp [c]
theorem Zus (L:Nat)(h1:1000≤L)(d:Zc)(h:ZF d)(hL:SizeOf.sizeOf d≤L):BC L (d,())=some (Zgd d):=by
 have hs:=Sh.of hL
 have hz:=VZ d
 rw [Zm4,Zjd L d h hs,Zz,ZkT,ZuD]
 have o:=outer L h1 d h hL _ rfl L 0 [] (Nat.zero_le _) (by omega) (Nat.le_refl _)
 rw [List.drop_zero] at o
 rw [show ((0:Int))=((0:Nat):Int) from rfl]
 refine o.trans ?_
 unfold Zxp
 by_cases hd:(Bo ((Xf d).map stepD) []).1=0
 ·rw [if_neg (by simp [hd]),if_neg (by simp [hd])]
  have st:Zt (Gs d L) L (0,0,())=some (if decide (Yj (VC d) d.Starts≠0)=true then Yj (VC d) d.Starts else BM d):=by
   have hl:=h.Starts.1
   have lw:(bif decide ((d.Laws.length:Int) > 32) then some (6:Int) else Zt (JB d L) L ([],0,()))=some (BM d):=by
    unfold BM QN
    by_cases c:32 < (d.Laws.length:Int)
    ·simp [c]
    ·rw [Zot L h1 d h hL hd (by omega)]; simp [c]
   refine Zaq d.Starts (fun l _=>some (if decide (Yj (VC d) l≠0)=true then Yj (VC d) l else BM d)) hs.sta 0 (fun self n i x r hx hi mem e=>?_) (fun self n=>?_)
   ·have hm:=Znc (fun v:Xi=>v.Routine) (fun x=>by cases x; simp; omega) mem
    have hx2:SizeOf.sizeOf x.Args < SizeOf.sizeOf x:=by cases x; simp; omega
    have ha:=ZG x.Args
    rw [Gs]
    simp only [Zi,Zd,cond_true,cond_false,Zf,Zz,Za,Zn,condC,Zh,Zg,Zm,ZH,ZT,ZB,hi,hx,Zr0 L d h hs x (h.Starts.2 x mem) (by omega),wrap_succ hi (by omega),e,Yj]
    by_cases c:VC d x=0 <;> simp [c]
   ·rw [Gs]; simp only [Zi,Zd,cond_true,cond_false,Zf,Zz,Za,Zn,condC,Zh,Zg,Zm,ZH,ZT,ZB,lw,Yj]; rfl
  rw [st]
  unfold ZaM Px
  by_cases c:32 < (d.Starts.length:Int) <;> simp [c]
 ·rw [if_pos (by simp [hd]),if_pos (by simp [hd])]
theorem ZoY (L:Nat)(h1:1000≤L)(n:List UInt8)(hn:n.length≤140737488351232)(hnL:n.length < L)(d:Zc)(h:ZF d)(hL:SizeOf.sizeOf d≤L):Ti L (⟨n,[],[d],[]⟩,())=some (M1 n d):=by
 have hs:=Sh.of hL
 have e1:=JA L n (by unfold Len; omega) hnL (by omega)
 have e2:=ZaD L (by omega) d.Name [] (by have:=h.Name; unfold Len; omega) hs.nm (by simp [Len]) (by simp; omega)
 have e3:Tj L (⟨n,[],[d],[]⟩,())=some 0:=by
  rw [Zj8,Zdy _ (show 2 < L by omega)]
  simp only [Cf,ZuZ,cond_false]
 have e5:Zt (Rh ⟨n,[],[d],[]⟩ L) L ([],0,())=some (Yx d.Name (Zgd d) []).1:=by
  rw [Zdy _ (show 2 < L by omega)]
  simp only [Rh,one1,w01,e2,e3,Zz,Za,cond_true,cond_false,Zus L h1 d h hL,J9,apS (show ([]:List (List UInt8)).length≤8000000000000 by simp),ZB]
  rw [← Zdc]
  by_cases c:(Yx d.Name (Zgd d) []).1=0 <;> simp [c]
 have e4:Zt (Ri ⟨n,[],[d],[]⟩ L) L (0,[],0,())=some (Yx d.Name (Zgd d) []).1:=by
  rw [Zdy _ (show 2 < L by omega)]
  simp only [Ri,ZuZ,one1,cond_false,XF,J9,Zz,Za,ZB,Y2,if_true,YU,e5]
  rfl
 rw [Zj4,e1,e4]
 simp only [Zz,Za,XF,J9,ZuZ,Y2,if_true,YU,ZB,M1]
 by_cases a:Vr n=0 <;> simp [a]
end Go.Proofs.YtgjcjbhhhlelnaaGreatDoor
end
section
namespace Go.Proofs.YtgjcjbhhhlelnaaGreatDoor
open Go Go.Proofs.YtgjcjbhhhlelnaaGreatDoor.Abs Go.Proofs.YtgjcjbhhhlelnaaGreatDoor.Tl
set_option maxRecDepth 100000
mutual
theorem Zlu (L:Nat):∀ (m:Nat) (a b:Zr),Yh a→2 * SizeOf.sizeOf a≤m→m≤L→TA L m (a,b,())=some (Ed a b)
 | 0,e,_,h,hs,_=>absurd hs (by have:=DJ e; omega)
 | m + 1,e,b,h,hs,hm=>by
  have hz:=ZpB e
  have ih:=Zji L m e.Kids b.Kids h.k (fun x hx=>h.Kids.2 x hx) (by omega) (by omega)
  simp only [Zi,Zd,cond_true,cond_false,Zf,Zz,Za,Zn,condC,Zh,Zg,Zm,ZH,ZT,ZB,Zmx,ih,ZaK,ZiD]; simp only [Yu,Xa,if_true,if_false,Bool.false_eq_true,ne_eq,decide_not,gt_iff_lt,ge_iff_le]
  by_cases h1:e.Op=b.Op <;> by_cases h2:e.Name=b.Name <;> by_cases h3:e.N=b.N <;> simp [h1,h2,h3]
theorem Zji (L:Nat):∀ (m:Nat) (a b:List Zr),a.length≤4611686018427387→(∀ x ∈ a,Yh x)→2 * SizeOf.sizeOf a + 1≤m→m≤L→I4 L m (a,b,())=some (if (!decide ((a.length:Int)=(b.length:Int)))=true then false else all2 Ed a b)
 | 0,e,_,h,_,hs,_=>absurd hs (by omega)
 | m + 1,a,b,h,ho,hs,hm=>by
  have hk:=ZG a
  rcases ZuW a b with ⟨hl1,hl2⟩ | ⟨hl1,hl2⟩
  ·have lp:Zt (JP m a b L) L (0,())=some (all2 Ed a b):=by
    refine Zd1 a b hl1 (fun l l'=>some (all2 Ed l l')) (by omega) (fun self i x y r r' hx hy hi mem e'=>?_) (fun self=>?_)
    ·have ih:=Zlu L m x y (ho x mem) (by have:=List.sizeOf_lt_of_mem mem; omega) (by omega)
     rw [JP]; simp only [Zi,Zd,cond_true,cond_false,Zf,Zz,Za,Zn,condC,Zh,Zg,Zm,ZH,ZT,ZB,hi,hx,hy,ih,wrap_succ hi (by omega),e',all2]; simp only [Yu,Xa,if_true,if_false,Bool.false_eq_true,ne_eq,decide_not,gt_iff_lt,ge_iff_le]
    ·rw [JP]; simp only [Zi,Zd,cond_true,cond_false,Zf,Zz,Za,Zn,condC,Zh,Zg,Zm,ZH,ZT,ZB,all2]
   simp only [Zi,Zd,cond_true,cond_false,Zf,Zz,Za,Zn,condC,Zh,Zg,Zm,ZH,ZT,ZB,SQ,lp,hl2,Bool.not_true]; simp only [Yu,Xa,if_true,if_false,Bool.false_eq_true,ne_eq,decide_not,gt_iff_lt,ge_iff_le]
  ·simp only [Zi,Zd,cond_true,cond_false,Zf,Zz,Za,Zn,condC,Zh,Zg,Zm,ZH,ZT,ZB,SQ,hl2,Bool.not_false]; simp only [Yu,Xa,if_true,if_false,Bool.false_eq_true,ne_eq,decide_not,gt_iff_lt,ge_iff_le]
end
theorem Zpc (L:Nat)(e:Zr)(h:Yh e)(hL:2 * SizeOf.sizeOf e≤L):Oh L (e,⟨0,[],0,[]⟩,())=some (EG e):=by
 rw [show Oh L (e,⟨0,[],0,[]⟩,())=_ from Zlu L L e _ h hL (Nat.le_refl _),Aw]
mutual
def Zgo (hd:Zr→Bool):Zr→Bool
 | ⟨o,a,n,ks⟩=>hd ⟨o,a,n,ks⟩ && BF hd ks
def BF (hd:Zr→Bool):List Zr→Bool
 | []=>true
 | x :: r=>Zgo hd x && BF hd r
end
theorem Zni (hd:Zr→Bool)(e:Zr):Zgo hd e=(hd e && BF hd e.Kids):=by cases e; rw [Zgo]
def hdA (d:Zc)(c:YX)(e:Zr):Bool :=
 if decide (e.Op=25)=true then decide (0≤e.N) && decide (e.N < c.Slots) else if decide (e.Op=26)=true then decide (0≤e.N) && decide (e.N < (d.Vars.length:Int)) else if decide (e.Op=22)=true then decide (0≤e.N) && decide (e.N < (d.Resources.length:Int)) else if decide (e.Op=23)=true then decide (0≤e.N) && decide (e.N < (d.Stores.length:Int))
 else if decide (e.Op=24)=true then decide (e.N < IntKind.i64.wrap ((d.Resources.length:Int) + (d.Queues.length:Int))) else true
def hdB (d:Zc)(c:YX)(e:Zr):Bool :=
 if (decide (e.Op=25) && decide (c.Slots≤e.N))=true then false else if (decide (e.Op=26) && decide ((d.Vars.length:Int)≤e.N))=true then false else if (decide (e.Op=22) && decide ((d.Resources.length:Int)≤e.N))=true then false else if (decide (e.Op=23) && decide ((d.Stores.length:Int)≤e.N))=true then false
 else if (decide (e.Op=24) && decide (IntKind.i64.wrap ((d.Resources.length:Int) + (d.Queues.length:Int))≤e.N))=true then false else true
theorem Zyb (d:Zc)(c:YX)(e:Zr)(h:Zas true e=0):hdA d c e=hdB d c e:=by
 have key:(e.Op=25∨e.Op=26∨e.Op=22∨e.Op=23)→0≤e.N:=by
  intro ho
  rcases ho with ho | ho | ho | ho <;> simp [Zas,ho,ZpM,ZoC,ZbX,ZgW,Zet] at h <;> grind
 unfold hdA hdB
 by_cases h1:e.Op=25
 ·have:=key (.inl h1); simp [h1,this]; (first | omega | (rw [← decide_not]; exact decide_eq_decide.2 (by omega)) | (split <;> simp_all <;> omega) | grind)
 by_cases h2:e.Op=26
 ·have:=key (.inr (.inl h2)); simp [h2,this]; (first | omega | (rw [← decide_not]; exact decide_eq_decide.2 (by omega)) | (split <;> simp_all <;> omega) | grind)
 by_cases h3:e.Op=22
 ·have:=key (.inr (.inr (.inl h3))); simp [h3,this]; (first | omega | (rw [← decide_not]; exact decide_eq_decide.2 (by omega)) | (split <;> simp_all <;> omega) | grind)
 by_cases h4:e.Op=23
 ·have:=key (.inr (.inr (.inr h4))); simp [h4,this]; (first | omega | (rw [← decide_not]; exact decide_eq_decide.2 (by omega)) | (split <;> simp_all <;> omega) | grind)
 by_cases h5:e.Op=24
 ·simp [h5]; (first | omega | (rw [← decide_not]; exact decide_eq_decide.2 (by omega)) | (split <;> simp_all <;> omega) | grind)
 simp [h1,h2,h3,h4,h5]
theorem ZkJ {α:Type}(f:α→Int):∀ l:List α,Yj f l=0→∀ x ∈ l,f x=0
 | [],_,x,hx=>by cases hx
 | y :: l,h,x,hx=>by
  rw [Yj] at h
  by_cases c:f y=0
  ·simp [c] at h
   rcases List.mem_cons.1 hx with rfl | hx
   ·exact c
   ·exact ZkJ f l h x hx
  ·simp [c] at h
mutual
theorem Zsd (d:Zc) (c:YX):∀ e:Zr,Jv true e=0→Zgo (hdA d c) e=Zgo (hdB d c) e
 | ⟨o,a,n,ks⟩,h=>by
  rw [Zce] at h
  by_cases z:Zas true ⟨o,a,n,ks⟩=0
  ·simp [z] at h
   rw [Zgo,Zgo,Zyb d c _ z,Znk d c ks (ZkJ _ ks h)]
  ·simp [z] at h
theorem Znk (d:Zc) (c:YX):∀ l:List Zr,(∀ x ∈ l,Jv true x=0)→BF (hdA d c) l=BF (hdB d c) l
 | [],_=>by rw [BF,BF]
 | x :: l,h=>by rw [BF,BF,Zsd d c x (h x (List.mem_cons_self ..)),Znk d c l fun y hy=>h y (List.mem_cons_of_mem _ hy)]
end
theorem Zpg (L:Nat)(p:Zk)(si:Int)(sc:ZK)(hs:ZM p.Sites si=some sc)(c:YX):∀ (m:Nat) (e:Zr),Yh e→SizeOf.sizeOf e≤m→m≤L→TC L m (p,si,c,e,())=some (Zgo (hdB sc.Decl c) e)
 | 0,e,h,hsz,_=>absurd hsz (by have:=DJ e; omega)
 | m + 1,e,h,hsz,hm=>by
  have hk:=ZG e.Kids; have hz:=ZpB e; have hl:=h.k
  have lp:Zt (OC m p si c e L) L (0,())=some (BF (hdB sc.Decl c) e.Kids):=by
   refine Zap e.Kids (fun l=>some (BF (hdB sc.Decl c) l)) (by omega) (fun self i x r hx hi mem e'=>?_) (fun self=>?_)
   ·have ih:=Zpg L p si sc hs c m x (h.Kids.2 x mem) (by have:=Sm mem; omega) (by omega)
    rw [OC]; simp only [Zi,Zd,cond_true,cond_false,Zf,Zz,Za,Zn,condC,Zh,Zg,Zm,ZH,ZT,ZB,hi,hx,ih,wrap_succ hi (by omega),e',BF]
    cases Zgo (hdB sc.Decl c) x <;> rfl
   ·rw [OC]; simp only [Zi,Zd,cond_true,cond_false,Zf,Zz,Za,Zn,condC,Zh,Zg,Zm,ZH,ZT,ZB,BF]
  rw [Zm7,hs,Zz,lp,Zni]
  simp only [Zi,Zd,cond_true,cond_false,Zf,Zz,Za,Zn,condC,Zh,Zg,Zm,ZH,ZT,ZB,hdB]; simp only [Yu,Xa,if_true,if_false,Bool.false_eq_true,ne_eq,decide_not,gt_iff_lt,ge_iff_le]
  (repeat' split) <;> simp_all
theorem Znj (hd:Zr→Bool):∀ l:List Zr,(!(l.any fun y=>!(Zgo hd y)))=BF hd l
 | []=>by rw [BF]; rfl
 | x :: l=>by rw [List.any_cons,BF,← Znj hd l]; cases Zgo hd x <;> simp
theorem Zph (L:Nat)(p:Zk)(si:Int)(sc:ZK)(hs:ZM p.Sites si=some sc)(c:YX):∀ (m:Nat) (e:Zr),Yh e→SizeOf.sizeOf e≤m→m≤L→Yf L m (⟨p,si,c⟩,e,())=some (Zgo (hdA sc.Decl c) e)
 | 0,e,h,hsz,_=>absurd hsz (by have:=DJ e; omega)
 | m + 1,e,h,hsz,hm=>by
  have hk:=ZG e.Kids; have hz:=ZpB e; have hl:=h.k
  have lp:Zt (Yd m ⟨p,si,c⟩ e L) L (0,())=some (Gl (fun y=>!(Zgo (hdA sc.Decl c) y)) e.Kids 0):=by
   refine ZiM e.Kids (fun l i=>some (Gl (fun y=>!(Zgo (hdA sc.Decl c) y)) l i)) (by omega) (fun self i x r hx hi mem e'=>?_) (fun self=>?_)
   ·have ih:=Zph L p si sc hs c m x (h.Kids.2 x mem) (by have:=Sm mem; omega) (by omega)
    rw [Yd]; simp only [Zi,Zd,cond_true,cond_false,Zf,Zz,Za,Zn,condC,Zh,Zg,Zm,ZH,ZT,ZB,hi,hx,ih,wrap_succ hi (by omega),e',Gl]; simp only [Yu,Xa,if_true,if_false,Bool.false_eq_true,ne_eq,decide_not,gt_iff_lt,ge_iff_le]
   ·rw [Yd]; simp only [Zi,Zd,cond_true,cond_false,Zf,Zz,Za,Zn,condC,Zh,Zg,Zm,ZH,ZT,ZB,Gl]
  have hge:decide (Gl (fun y=>!(Zgo (hdA sc.Decl c) y)) e.Kids 0 ≥ 0)=e.Kids.any fun y=>!(Zgo (hdA sc.Decl c) y):=Ae _ _ 0 (Int.le_refl _)
  have hmost:∀ w o,Yz L (⟨p,si,c⟩,w,o,())=_:=fun w o=>Vs L ⟨p,si,c⟩ w o
  rw [PK,show U7=Yd from rfl,show U8=Yd from rfl,show U9=Yd from rfl,show UA=Yd from rfl,show UB=Yd from rfl,lp,Zni]
  simp only [Zi,Zd,cond_true,cond_false,Zf,Zz,Za,Zn,condC,Zh,Zg,Zm,ZH,ZT,ZB,VU,hmost,hs,hge,Znj,hdA,Int.reduceEq,decide_true,decide_false]; simp only [Yu,Xa,if_true,if_false,Bool.false_eq_true,ne_eq,decide_not,gt_iff_lt,ge_iff_le,Bool.true_and]
  (repeat' split) <;> simp_all
end Go.Proofs.YtgjcjbhhhlelnaaGreatDoor
end
section
namespace Go.Proofs.YtgjcjbhhhlelnaaGreatDoor
open Go Go.Proofs.YtgjcjbhhhlelnaaGreatDoor.Abs Go.Proofs.YtgjcjbhhhlelnaaGreatDoor.Tl
set_option maxRecDepth 100000
def ZuQ (p:Zk)(a b:Int):Int×Bool×PUnit:=match p.Links.find? (fun l=>decide (l.From=a) && decide (l.To=b)) with
 | some l=>(l.Delay,true,())
 | none=>(0,false,())
theorem ZwE (L:Nat)(p:Zk)(a b:Int)(h:p.Links.length≤4611686018427387)(hL:p.Links.length < L):Bv L (p,a,b,())=some (ZuQ p a b):=by
 rw [Zmu,ZiM p.Links (fun l i=>some (Gl (fun l:Zku=>decide (l.From=a) && decide (l.To=b)) l i)) hL (fun self i x r hx hi _ e=>by
  rw [Pm]; simp only [Zi,Zd,cond_true,cond_false,Zf,Zz,Za,Zn,condC,Zh,Zg,Zm,ZH,ZT,ZB,hi,hx,wrap_succ hi (by omega),e,Gl]; simp only [Yu,Xa,if_true,if_false,Bool.false_eq_true,ne_eq,decide_not,gt_iff_lt,ge_iff_le]) (fun self=>by rw [Pm]; simp only [Zi,Zd,cond_true,cond_false,Zf,Zz,Za,Zn,condC,Zh,Zg,Zm,ZH,ZT,ZB,Gl]),Zz,ZuQ]
 rcases ZaA (fun l:Zku=>decide (l.From=a) && decide (l.To=b)) p.Links 0 with ⟨e1,e2⟩ | ⟨k,r,e1,e2,e3⟩
 ·rw [e1,e2]; rfl
 ·rw [e1,e2,Int.zero_add,show decide ((k:Int) < 0)=false by simp only [decide_eq_false_iff_not]; omega,cond_false,Zf,e3]; rfl
theorem ZwP (L:Nat)(p:Zk)(a b:Int)(h:p.Links.length≤4611686018427387)(hL:p.Links.length < L):EF L (p,a,b,())=some (ZuQ p a b):=by
 rw [Zpo,ZuQ]
 refine Zap p.Links (fun l=>some (match l.find? (fun l=>decide (l.From=a) && decide (l.To=b)) with | some l=>(l.Delay,true,()) | none=>(0,false,()))) hL (fun self i x r hx hi _ e=>?_) (fun self=>?_)
 ·rw [Ap]; simp only [Zi,Zd,cond_true,cond_false,Zf,Zz,Za,Zn,condC,Zh,Zg,Zm,ZH,ZT,ZB,hi,hx,wrap_succ hi (by omega),e,List.find?_cons]
  cases decide (x.From=a) <;> cases decide (x.To=b) <;> rfl
 ·rw [Ap]; simp only [Zi,Zd,cond_true,cond_false,Zf,Zz,Za,Zn,condC,Zh,Zg,Zm,ZH,ZT,ZB,List.find?_nil]
def ZqW (p:Zk)(d:Zc)(c:YX)(k:Int):Int :=
 if decide (k=1)=true then c.Slots else if decide (k=2)=true then (d.Vars.length:Int) else if decide (k=3)=true then (d.Streams.length:Int) else if decide (k=4)=true then (c.Instrs.length:Int) else if decide (k=5)=true then (d.Resources.length:Int) else if decide (k=6)=true then (d.Stores.length:Int) else if decide (k=7)=true then (d.Belts.length:Int) else if decide (k=8)=true then (d.Queues.length:Int) else if decide (k=9)=true then (p.Sites.length:Int) else if decide (k=11)=true then (d.Tallies.length:Int) else if decide (k=12)=true then (d.Levels.length:Int) else if decide (k=13)=true then (d.Counts.length:Int) else 1
def ZqB (p:Zk)(d:Zc)(c:YX)(k x:Int):Bool:=decide (0≤x) && decide (x < ZqW p d c k)
theorem ZwL (L:Nat)(p:Zk)(si:Int)(sc:ZK)(hs:ZM p.Sites si=some sc)(c:YX)(k x o:Int)(hk:k≠10):ZV L (⟨p,si,c⟩,k,x,o,())=some (ZqB p sc.Decl c k x):=by
 have h10:decide (k=10)=false:=by simp [hk]
 have hmost:Yz L (⟨p,si,c⟩,k,o,())=some (ZqW p sc.Decl c k):=by
  rw [Vs]; simp only [Zi,Zd,cond_true,cond_false,Zf,Zz,Za,Zn,condC,Zh,Zg,Zm,ZH,ZT,ZB,hs,h10,ZqW]; simp only [Yu,Xa,if_true,if_false,Bool.false_eq_true,ne_eq,decide_not,gt_iff_lt,ge_iff_le]
 simp only [Zi,Zd,cond_true,cond_false,Zf,Zz,Za,Zn,condC,Zh,Zg,Zm,ZH,ZT,ZB,VU,hmost,ZqB]
theorem ZoW (L:Nat)(p:Zk)(si:Int)(sc:ZK)(hs:ZM p.Sites si=some sc)(c:YX)(x o:Int)(so:ZK)(ho:ZM p.Sites o=some so):ZV L (⟨p,si,c⟩,10,x,o,())=some (decide (0≤x) && decide (x < (so.Routines.length:Int))):=by
 have hmost:Yz L (⟨p,si,c⟩,10,o,())=some (so.Routines.length:Int):=by
  rw [Vs]; simp only [Zi,Zd,cond_true,cond_false,Zf,Zz,Za,Zn,condC,Zh,Zg,Zm,ZH,ZT,ZB,hs,ho,Int.reduceEq,decide_true,decide_false]
 simp only [Zi,Zd,cond_true,cond_false,Zf,Zz,Za,Zn,condC,Zh,Zg,Zm,ZH,ZT,ZB,VU,hmost]
def Zx5 (w:List UInt8):Int:=if w=[115,108,111,116] then 1 else if w=[118,97,114] then 2 else if w=[115,116,114,101,97,109] then 3 else if w=[105,110,115,116,114] then 4 else if w=[114,101,115,111,117,114,99,101] then 5 else if w=[115,116,111,114,101] then 6 else if w=[98,101,108,116] then 7 else if w=[113,117,101,117,101] then 8 else if w=[115,105,116,101] then 9 else if w=[116,97,108,108,121] then 11 else if w=[108,101,118,101,108] then 12 else if w=[99,111,117,110,116] then 13 else 0
def ZlA:List (List UInt8):=[[],[115,108,111,116],[118,97,114],[115,116,114,101,97,109],[105,110,115,116,114],[114,101,115,111,117,114,99,101],[115,116,111,114,101],[98,101,108,116],[113,117,101,117,101],[115,105,116,101],[116,97,108,108,121],[108,101,118,101,108],[99,111,117,110,116]]
theorem Zlj (L:Nat)(p:Zk)(si:Int)(sc:ZK)(hs:ZM p.Sites si=some sc)(c:YX)(w:List UInt8)(hw:w ∈ ZlA)(x:Int):Ut L (p,si,c,w,x,())=some (decide (Zx5 w=0) || ZqB p sc.Decl c (Zx5 w) x):=by
 simp only [ZlA,List.mem_cons,List.not_mem_nil,or_false] at hw
 rcases hw with rfl | rfl | rfl | rfl | rfl | rfl | rfl | rfl | rfl | rfl | rfl | rfl | rfl <;> (rw [ZhC,ZjF,hs,show decide (x ≥ 0)=decide (0≤x) from rfl]; unfold ZqB; generalize decide (0≤x)=b; cases b <;> rfl)
structure Rel (op:Int)(f:Iq)(g:Vm):Prop where
 rc:g.C=f.c
 re:g.E=f.e
 rf:g.F=f.f
 rargs:g.Args=f.args
 rflag:g.Flag=f.preempt
 rdist:f.dist=decide (op=3)
 rgdist:g.Dist=f.dist
 wa:g.A ∈ ZlA
 na:Zx5 g.A=f.a
 wa0:decide (g.A=[])=decide (f.a=0)
 na10:f.a≠10
 wb0:decide (g.B=[])=decide (f.b=0)
 wb:op≠14→op≠15→g.B ∈ ZlA∧Zx5 g.B=f.b∧f.b≠10
 f14:op=14→f.a=9
 f15:op=15→f.a=0
theorem ZnT (L:Nat)(op:Int)(h:1≤op∧op≤19):∃ f g gs,ZM Hm op=some f∧X7 L ()=some gs∧ZM gs op=some g∧Rel op f g:=by
 have:op=1∨op=2∨op=3∨op=4∨op=5∨op=6∨op=7∨op=8∨op=9∨op=10∨op=11∨op=12∨op=13∨op=14∨op=15∨op=16∨op=17∨op=18∨op=19:=by omega
 rcases this with rfl | rfl | rfl | rfl | rfl | rfl | rfl | rfl | rfl | rfl | rfl | rfl | rfl | rfl | rfl | rfl | rfl | rfl | rfl <;>
  exact ⟨_,_,_,rfl,ZjD L,rfl,⟨rfl,rfl,rfl,rfl,rfl,rfl,rfl,by decide,by decide,by decide,by decide,by decide,by decide,by decide,by decide⟩⟩
end Go.Proofs.YtgjcjbhhhlelnaaGreatDoor
end
section
namespace Go.Proofs.YtgjcjbhhhlelnaaGreatDoor
open Go Go.Proofs.YtgjcjbhhhlelnaaGreatDoor.Abs Go.Proofs.YtgjcjbhhhlelnaaGreatDoor.Tl
set_option maxRecDepth 100000
theorem Zvy (c x:Bool):(bif c then false else x)=(!c && x):=by cases c <;> rfl
theorem Zig (i:YE):SizeOf.sizeOf i.E < SizeOf.sizeOf i∧SizeOf.sizeOf i.F < SizeOf.sizeOf i∧SizeOf.sizeOf i.Args < SizeOf.sizeOf i∧SizeOf.sizeOf i.Dist < SizeOf.sizeOf i:=by cases i; simp; omega
def ZgE (f:Iq)(i:YE):Bool:=(!decide (f.a=0) || decide (i.A=0)) && (!decide (f.b=0) || decide (i.B=0)) && (f.c || decide (i.C=0)) && (f.e || EG i.E) && (f.f || EG i.F) && (f.args || decide ((i.Args.length:Int)=0)) && (f.dist || DR i.Dist) && (f.preempt || !i.Flag)
theorem Zuk (L:Nat)(i:YE)(h:Ik i)(hL:2 * SizeOf.sizeOf i≤L)(f:Iq)(hf:ZM Hm i.Op=some f):H6 L (i,())=some (ZgE f i):=by
 have hz:=Zig i
 have z:=fun e (he:Yh e) (hl:SizeOf.sizeOf e≤L)=>show GI L (e,())=some (EG e) by simp only [Zi,Zd,cond_true,cond_false,Zf,Zz,Za,Zn,condC,Zh,Zg,Zm,ZH,ZT,ZB,Zjo,ZoV L e _ he hl,Aw]
 rw [Zhw,hf]
 simp only [Zi,Zd,cond_true,cond_false,Zf,Zz,Za,Zn,condC,Zh,Zg,Zm,ZH,ZT,ZB,z i.E h.E (by omega),z i.F h.F (by omega),Zf2 L i.Dist _ h.Dist (by omega),KJ,ZgE]
theorem Zsv (n:Nat):(!decide ((n:Int) > 0))=decide ((n:Int)=0):=by rw [← decide_not]; exact decide_eq_decide.2 (by omega)
theorem Zup (L:Nat)(i:YE)(h:Ik i)(hL:2 * SizeOf.sizeOf i≤L)(f:Iq)(g:Vm)(gs:List Vm)(hg:X7 L ()=some gs)(hg':ZM gs i.Op=some g)(r:Rel i.Op f g):Tu L (i,())=some (ZgE f i):=by
 have hz:=Zig i
 rw [ZjI,hg,Za,Zz,hg',Zz]
 simp only [Zi,Zd,cond_true,cond_false,Zf,Zz,Za,Zn,condC,Zh,Zg,Zm,ZH,ZT,ZB,Zpc L i.E h.E (by omega),Zpc L i.F h.F (by omega),ZaC L i.Dist _ h.Dist (by omega),KJ,r.wa0,r.wb0,r.rc,r.re,r.rf,r.rargs,r.rflag,r.rgdist,Zvy,Bool.not_and,Bool.not_not,Zsv,ZgE]
 congr 1
 ac_rfl
def ZgI (f:Iq)(i:YE):List Zr:=(bif f.e then [i.E] else []) ++ ((bif f.f then [i.F] else []) ++ (bif f.args then i.Args else []))
theorem apE (l m:List Zr)(h:(l.length + m.length) * 56≤140737488355328):apT 56 l m=some (l ++ m):=by unfold apT; rw [if_pos h]
theorem ZyX (i:YE)(ha:i.Args.length * 56≤140737488351232):apT 56 [] [i.E]=some [i.E]∧apT 56 [] [i.F]=some [i.F]∧apT 56 [i.E] [i.F]=some ([i.E] ++ [i.F])∧apT 56 [] i.Args=some i.Args∧apT 56 [i.E] i.Args=some ([i.E] ++ i.Args)∧apT 56 [i.F] i.Args=some ([i.F] ++ i.Args)∧apT 56 ([i.E] ++ [i.F]) i.Args=some ([i.E] ++ [i.F] ++ i.Args) :=
 ⟨apE [] [i.E] (by simp),apE [] [i.F] (by simp),apE _ _ (by simp),apE [] i.Args (by simp only [List.length_nil]; omega),apE _ _ (by simp only [List.length_cons,List.length_nil]; omega),apE _ _ (by simp only [List.length_cons,List.length_nil]; omega),apE _ _ (by simp only [List.cons_append,List.nil_append,List.length_cons,List.length_nil]; omega)⟩
theorem Zho (L:Nat)(n:Int):Un L (n,())=some (btw n 1 19):=Zhx L n
theorem Ze1 (L:Nat)(n:Int):GN L (n,())=some (btw n 1 19):=ZjH L n
theorem Zrv (L:Nat)(i:YE)(h:Ik i)(hk:btw i.Op 1 19=true)(f:Iq)(hf:ZM Hm i.Op=some f):WF L (i,())=some (ZgI f i):=by
 have ha:=h.Args.1
 simp only [Zi,Zd,cond_true,cond_false,Zf,Zz,Za,Zn,condC,Zh,Zg,Zm,ZH,ZT,ZB,SN,Zho,hk,hf,Bool.not_true]
 unfold ZgI
 obtain ⟨a0,a1,a2,a3,a4,a5,a6⟩:=ZyX i ha
 cases f.e <;> cases f.f <;> cases f.args <;> simp only [cond_true,cond_false,a0,a1,a2,a3,a4,a5,a6,Zz,List.nil_append,List.append_nil,List.append_assoc]
theorem Zrz (L:Nat)(i:YE)(h:Ik i)(hk:btw i.Op 1 19=true)(f:Iq)(g:Vm)(gs:List Vm)(hg:X7 L ()=some gs)(hg':ZM gs i.Op=some g)(r:Rel i.Op f g):Tq L (i,())=some (ZgI f i):=by
 have ha:=h.Args.1
 simp only [Zi,Zd,cond_true,cond_false,Zf,Zz,Za,Zn,condC,Zh,Zg,Zm,ZH,ZT,ZB,ZjC,Ze1,hk,hg,hg',r.re,r.rf,r.rargs,Bool.not_true]
 unfold ZgI
 obtain ⟨a0,a1,a2,a3,a4,a5,a6⟩:=ZyX i ha
 cases f.e <;> cases f.f <;> cases f.args <;> simp only [cond_true,cond_false,a0,a1,a2,a3,a4,a5,a6,Zz,List.nil_append,List.append_nil,List.append_assoc]
theorem Zv2 (f:Iq)(i:YE)(h:Ik i):(ZgI f i).length≤4611686018427387∧(ZgI f i).length≤2 + i.Args.length∧∀ x ∈ ZgI f i,Yh x∧SizeOf.sizeOf x < SizeOf.sizeOf i:=by
 have hz:=Zig i
 have ha:=h.Args.1
 have hl:(ZgI f i).length≤2 + i.Args.length:=by
  unfold ZgI; cases f.e <;> cases f.f <;> cases f.args <;> simp <;> omega
 refine ⟨by omega,hl,fun x hx=>?_⟩
 unfold ZgI at hx
 rcases List.mem_append.1 hx with hx | hx
 ·cases he:f.e <;> rw [he] at hx
  ·cases hx
  ·rw [List.mem_singleton.1 hx]; exact ⟨h.E,by omega⟩
 rcases List.mem_append.1 hx with hx | hx
 ·cases he:f.f <;> rw [he] at hx
  ·cases hx
  ·rw [List.mem_singleton.1 hx]; exact ⟨h.F,by omega⟩
 ·cases he:f.args <;> rw [he] at hx
  ·cases hx
  ·have hx:x ∈ i.Args:=hx
   exact ⟨h.Args.2 x hx,by have:=List.sizeOf_lt_of_mem hx; omega⟩
def esR (d:Zc)(c:YX)(t:Int):List Zr→Int
 | []=>t
 | x :: r=>if decide (Qh true x≠0)=true then Qh true x else if (!(Zgo (hdA d c) x))=true then 2 else esR d c t r
theorem lpA (L:Nat)(h1:1000≤L)(p:Zk)(si:Int)(sc:ZK)(hs:ZM p.Sites si=some sc)(c:YX)(i:YE)(h:Ik i)(hL:2 * SizeOf.sizeOf i≤L)(f:Iq)(op:f.dist=decide (i.Op=3)):Zt (YF ⟨p,si,c⟩ i L f (ZgI f i)) L (0,())=some (esR sc.Decl c (if decide (i.Op=3)=true then MQ i.Dist else 0) (ZgI f i)):=by
 obtain ⟨e1,e2,e3⟩:=Zv2 f i h
 have hz:=Zig i; have hk:=ZG i.Args
 refine Zap (ZgI f i) (fun l=>some (esR sc.Decl c (if decide (i.Op=3)=true then MQ i.Dist else 0) l)) (by omega) (fun self j x r hx hi mem e=>?_) (fun self=>?_)
 ·obtain ⟨o1,o2⟩:=e3 x mem
  rw [YF]
  simp only [Zi,Zd,cond_true,cond_false,Zf,Zz,Za,Zn,condC,Zh,Zg,Zm,ZH,ZT,ZB,hi,hx,Zjc L x o1 (by omega),show WW L (⟨p,si,c⟩,x,())=_ from Zph L p si sc hs c L x o1 (by omega) (Nat.le_refl _),wrap_succ hi (by omega),e,esR]; simp only [Yu,Xa,if_true,if_false,Bool.false_eq_true,ne_eq,decide_not,gt_iff_lt,ge_iff_le]
 ·rw [YF]; simp only [Zi,Zd,cond_true,cond_false,Zf,Zz,Za,Zn,condC,Zh,Zg,Zm,ZH,ZT,ZB,op,O8 L i.Dist h.Dist (by omega) (by omega),esR]; simp only [Yu,Xa,if_true,if_false,Bool.false_eq_true,ne_eq,decide_not,gt_iff_lt,ge_iff_le]
theorem ZgC (x:Zr)(h:Qh true x=0):Jv true x=0:=by
 unfold Qh at h
 by_cases a:60 < ZnC x
 ·simp [a] at h
 by_cases b:12 < ZmZ x
 ·simp [a,b] at h
 simpa [a,b] using h
theorem lpB (L:Nat)(h1:1000≤L)(p:Zk)(si:Int)(sc:ZK)(hs:ZM p.Sites si=some sc)(c:YX)(i:YE)(h:Ik i)(hL:2 * SizeOf.sizeOf i≤L)(f:Iq):Zt (Ht p si c i L (ZgI f i)) L (0,())=some (esR sc.Decl c (if decide (i.Op=3)=true then MQ i.Dist else 0) (ZgI f i)):=by
 obtain ⟨e1,e2,e3⟩:=Zv2 f i h
 have hz:=Zig i; have hk:=ZG i.Args
 refine Zap (ZgI f i) (fun l=>some (esR sc.Decl c (if decide (i.Op=3)=true then MQ i.Dist else 0) l)) (by omega) (fun self j x r hx hi mem e=>?_) (fun self=>?_)
 ·obtain ⟨o1,o2⟩:=e3 x mem
  rw [Ht]
  simp only [Zi,Zd,cond_true,cond_false,Zf,Zz,Za,Zn,condC,Zh,Zg,Zm,ZH,ZT,ZB,hi,hx,Zhq L (by omega) x o1 (by omega),show AZ L (p,si,c,x,())=_ from Zpg L p si sc hs c L x o1 (by omega) (Nat.le_refl _),wrap_succ hi (by omega),e,esR]
  by_cases z:Qh true x=0
  ·rw [Zsd sc.Decl c x (ZgC x z)]
   cases Zgo (hdB sc.Decl c) x <;> simp [z]
  ·simp [z]
 ·rw [Ht]; simp only [Zi,Zd,cond_true,cond_false,Zf,Zz,Za,Zn,condC,Zh,Zg,Zm,ZH,ZT,ZB,Bg L i.Dist h.Dist (by omega),esR]; simp only [Yu,Xa,if_true,if_false,Bool.false_eq_true,ne_eq,decide_not,gt_iff_lt,ge_iff_le]
end Go.Proofs.YtgjcjbhhhlelnaaGreatDoor
end
section
namespace Go.Proofs.YtgjcjbhhhlelnaaGreatDoor
open Go Go.Proofs.YtgjcjbhhhlelnaaGreatDoor.Abs Go.Proofs.YtgjcjbhhhlelnaaGreatDoor.Tl
set_option maxRecDepth 100000
theorem ZnX {α:Type}(l:List α)(n:Int)(h0:0≤n)(h:n < l.length):∃ x,ZM l n=some x∧x ∈ l:=by
 have hn:n.toNat < l.length:=by omega
 refine ⟨l[n.toNat],?_,List.getElem_mem hn⟩
 unfold ZM; rw [if_pos h0]; exact List.getElem?_eq_getElem hn
theorem Zeb (L:Nat)(p:Zk)(o:Int)(so:ZK)(ho:ZM p.Sites o=some so)(i:YE) :
  ((decide (0≤i.B) && decide (i.B < (so.Routines.length:Int)))=false∧JH L (p,o,i,())=some 2) ∨
  ((decide (0≤i.B) && decide (i.B < (so.Routines.length:Int)))=true∧∃ cd,ZM so.Routines i.B=some cd∧JH L (p,o,i,())=some (bif !decide ((i.Args.length:Int)=cd.Params) then 8 else 0)):=by
 rw [ZjE,ho,Zz]
 by_cases h:0≤i.B∧i.B < (so.Routines.length:Int)
 ·refine .inr ⟨by simp [h.1,h.2],?_⟩
  obtain ⟨cd,hc,_⟩:=ZnX so.Routines i.B h.1 h.2
  refine ⟨cd,hc,?_⟩
  rw [show (decide (i.B < 0) || decide (i.B ≥ (so.Routines.length:Int)))=false by simp only [Bool.or_eq_false_iff,decide_eq_false_iff_not]; omega,hc]
  simp only [Zi,Zd,cond_true,cond_false,Zf,Zz,Za,Zn,condC,Zh,Zg,Zm,ZH,ZT,ZB]
 ·refine .inl ⟨by simp only [Bool.and_eq_false_iff,decide_eq_false_iff_not]; omega,?_⟩
  rw [show (decide (i.B < 0) || decide (i.B ≥ (so.Routines.length:Int)))=true by simp only [Bool.or_eq_true,decide_eq_true_eq]; omega]
  rfl
theorem orN (a b:Bool):(!b && !a)=!(a || b):=by cases a <;> cases b <;> rfl
theorem Zmc (L:Nat)(h1:1000≤L)(p:Zk)(hp:p.Links.length≤4611686018427387)(hpL:p.Links.length < L)(si:Int)(sc:ZK)(hs:ZM p.Sites si=some sc)(c:YX)(i:YE)(h:Ik i)(hL:2 * SizeOf.sizeOf i≤L) :
  ∃ v,YS L (⟨p,si,c⟩,i,())=some v∧X8 L (p,si,c,i,())=some v:=by
 rw [BO,ZjG,show JW=YF from rfl,show JX=YF from rfl,Zho,Ze1]
 by_cases hk:btw i.Op 1 19=true
 ·obtain ⟨f,g,gs,hf,hg,hg',r⟩:=ZnT L i.Op (by simpa [btw] using hk)
  rw [Zuk L i h hL f hf,Zup L i h hL f g gs hg hg' r,hf,Zrv L i h hk f hf,Zrz L i h hk f g gs hg hg' r]
  have la:=lpA L h1 p si sc hs c i h hL f r.rdist
  have lb:=lpB L h1 p si sc hs c i h hL f
  generalize esR sc.Decl c (if decide (i.Op=3)=true then MQ i.Dist else 0) (ZgI f i)=V at la lb
  cases hcl:ZgE f i
  ·exact ⟨1,by simp only [Zi,Zd,cond_true,cond_false,Zf,Zz,Za,Zn,condC,Zh,Zg,Zm,ZH,ZT,ZB,hk,Bool.not_true,Bool.not_false,Bool.or_true,Bool.false_or],by simp only [Zi,Zd,cond_true,cond_false,Zf,Zz,Za,Zn,condC,Zh,Zg,Zm,ZH,ZT,ZB,hk,Bool.not_true,Bool.not_false,Bool.or_true,Bool.false_or]⟩
  simp only [ZfM,hg,Zz,hg',ZwL L p si sc hs c f.a i.A 0 r.na10]
  have iA:=Zlj L p si sc hs c g.A r.wa i.A
  rw [r.na] at iA
  by_cases hA:(decide (f.a=0) || ZqB p sc.Decl c f.a i.A)=true
  ·have hA':(!(ZqB p sc.Decl c f.a i.A) && !decide (f.a=0))=false:=by rw [orN,hA]; rfl
   rw [hA] at iA
   by_cases h14:i.Op=14
   ·
    have ha9:=r.f14 h14
    rw [ha9] at hA
    have hA2:0≤i.A∧i.A < (p.Sites.length:Int):=by simpa [ZqB,ZqW] using hA
    obtain ⟨so,ho,_⟩:=ZnX p.Sites i.A hA2.1 hA2.2
    have e14:decide (i.Op=14)=true:=by simp [h14]
    have e15:decide (i.Op=15)=false:=by simp [h14]
    have hb10:=ZoW L p si sc hs c i.B i.A so ho
    simp only [ZH,ZB,e14,e15,cond_true,cond_false,Zz]
    simp only [hA',hk,iA,cond_true,cond_false,Zz,Bool.not_true,Bool.or_false,ZwE L p si i.A hp hpL,ZwP L p si i.A hp hpL]
    simp only [Zg,hb10,ho,Zz,Za,cond_false,Bool.not_true,la,lb]
    cases hq:(!(ZuQ p si i.A).2.1 || !decide ((ZuQ p si i.A).1=i.C))
    ·rcases Zeb L p i.A so ho i with ⟨b1,b2⟩ | ⟨b1,cd,b2,b3⟩
     ·exact ⟨2,by simp only [cond_true,cond_false,Zz,Za,Zn,condC,Zh,Zg,Zm,ZH,ZB,Bool.not_true,Bool.not_false,b1,Bool.not_false] <;> rfl,by simp only [cond_true,cond_false,Zz,Za,Zn,condC,Zh,Zg,Zm,ZH,ZB,Bool.not_true,Bool.not_false,b2] <;> rfl⟩
     ·cases hz:decide ((i.Args.length:Int)=cd.Params)
      ·exact ⟨8,by simp only [cond_true,cond_false,Zz,Za,Zn,condC,Zh,Zg,Zm,ZH,ZB,Bool.not_true,Bool.not_false,b1,b2,hz,Bool.not_true,Bool.not_false] <;> rfl,by simp only [cond_true,cond_false,Zz,Za,Zn,condC,Zh,Zg,Zm,ZH,ZB,Bool.not_true,Bool.not_false,b3,hz,Bool.not_true,Bool.not_false] <;> rfl⟩
      ·exact ⟨V,by simp only [cond_true,cond_false,Zz,Za,Zn,condC,Zh,Zg,Zm,ZH,ZB,Bool.not_true,Bool.not_false,b1,b2,hz,Bool.not_true,Bool.not_false] <;> rfl,by simp only [cond_true,cond_false,Zz,Za,Zn,condC,Zh,Zg,Zm,ZH,ZB,Bool.not_true,Bool.not_false,b3,hz,Bool.not_true,Bool.not_false] <;> rfl⟩
    ·exact ⟨16,by simp only [cond_true,cond_false,Zz,Za,Zn,condC,Zh,Zg,Zm,ZH,ZB,Bool.not_true,Bool.not_false] <;> rfl,by simp only [cond_true,cond_false,Zz,Za,Zn,condC,Zh,Zg,Zm,ZH,ZB,Bool.not_true,Bool.not_false] <;> rfl⟩
   ·by_cases h15:i.Op=15
    ·have e14:decide (i.Op=14)=false:=by simp [h15]
     have e15:decide (i.Op=15)=true:=by simp [h15]
     have hb10:=ZoW L p si sc hs c i.B si sc hs
     simp only [ZH,ZB,e14,e15,cond_true,cond_false,Zz]
     simp only [hA',hk,iA,cond_true,cond_false,Zz,Bool.not_true,Bool.or_false]
     simp only [Zg,hb10,hs,Zz,Za,cond_false,Bool.not_true,la,lb]
     rcases Zeb L p si sc hs i with ⟨b1,b2⟩ | ⟨b1,cd,b2,b3⟩
     ·exact ⟨2,by simp only [cond_true,cond_false,Zz,Za,Zn,condC,Zh,Zg,Zm,ZH,ZB,Bool.not_true,Bool.not_false,b1,Bool.not_false] <;> rfl,by simp only [cond_true,cond_false,Zz,Za,Zn,condC,Zh,Zg,Zm,ZH,ZB,Bool.not_true,Bool.not_false,b2] <;> rfl⟩
     ·cases hz:decide ((i.Args.length:Int)=cd.Params)
      ·exact ⟨8,by simp only [cond_true,cond_false,Zz,Za,Zn,condC,Zh,Zg,Zm,ZH,ZB,Bool.not_true,Bool.not_false,b1,b2,hz,Bool.not_true,Bool.not_false] <;> rfl,by simp only [cond_true,cond_false,Zz,Za,Zn,condC,Zh,Zg,Zm,ZH,ZB,Bool.not_true,Bool.not_false,b3,hz,Bool.not_true,Bool.not_false] <;> rfl⟩
      ·exact ⟨V,by simp only [cond_true,cond_false,Zz,Za,Zn,condC,Zh,Zg,Zm,ZH,ZB,Bool.not_true,Bool.not_false,b1,b2,hz,Bool.not_true,Bool.not_false] <;> rfl,by simp only [cond_true,cond_false,Zz,Za,Zn,condC,Zh,Zg,Zm,ZH,ZB,Bool.not_true,Bool.not_false,b3,hz,Bool.not_true,Bool.not_false] <;> rfl⟩
    ·obtain ⟨w1,w2,w3⟩:=r.wb h14 h15
     have e14:decide (i.Op=14)=false:=by simp [h14]
     have e15:decide (i.Op=15)=false:=by simp [h15]
     have iB:=Zlj L p si sc hs c g.B w1 i.B
     rw [w2] at iB
     simp only [cond_true,cond_false,Zz,Za,Zn,condC,Zh,Zg,Zm,ZH,ZB,Bool.not_true,Bool.not_false,hk,hA',iA,iB,e14,e15,Bool.not_true,Bool.or_false,ZwL L p si sc hs c f.b i.B 0 w3,la,lb]
     cases decide (f.b=0) <;> cases ZqB p sc.Decl c f.b i.B
     ·exact ⟨2,rfl,rfl⟩
     ·exact ⟨V,rfl,rfl⟩
     ·exact ⟨V,rfl,rfl⟩
     ·exact ⟨V,rfl,rfl⟩
  ·rw [Bool.not_eq_true] at hA
   have hA':(!(ZqB p sc.Decl c f.a i.A) && !decide (f.a=0))=true:=by rw [orN,hA]; rfl
   rw [hA] at iA
   exact ⟨2,by simp only [cond_true,cond_false,Zz,Za,Zn,condC,Zh,Zg,Zm,ZH,ZB,Bool.not_true,Bool.not_false,hk,hA',Bool.not_true,Bool.or_false] <;> rfl,by simp only [cond_true,cond_false,Zz,Za,Zn,condC,Zh,Zg,Zm,ZH,ZB,Bool.not_true,Bool.not_false,hk,iA,Bool.not_true,Bool.not_false,Bool.or_false] <;> rfl⟩
 ·rw [Bool.not_eq_true] at hk
  exact ⟨1,by simp only [cond_true,cond_false,Zz,Za,Zn,condC,Zh,Zg,Zm,ZH,ZB,Bool.not_true,Bool.not_false,hk,Bool.not_false,Bool.true_or] <;> rfl,by simp only [cond_true,cond_false,Zz,Za,Zn,condC,Zh,Zg,Zm,ZH,ZB,Bool.not_true,Bool.not_false,hk,Bool.not_false,Bool.true_or] <;> rfl⟩
end Go.Proofs.YtgjcjbhhhlelnaaGreatDoor
end
section
namespace Go.Proofs.YtgjcjbhhhlelnaaGreatDoor
open Go Go.Proofs.YtgjcjbhhhlelnaaGreatDoor.Abs Go.Proofs.YtgjcjbhhhlelnaaGreatDoor.Tl
set_option maxRecDepth 100000
theorem ZuF (c:YX):SizeOf.sizeOf c.Name < SizeOf.sizeOf c∧SizeOf.sizeOf c.Instrs < SizeOf.sizeOf c:=by cases c; simp; omega
theorem Zwc {α:Type}{f:(Int×PUnit→Option Int)→Int×PUnit→Option Int}(l:List α)(V:α→Int)(T:Option Int){m:Nat}(hm:l.length < m)
  (h1:∀ self (i:Nat) x,l[i]? = some x→i < l.length→x ∈ l→f self ((i:Int),())=bif !decide (V x=0) then some (V x) else self ((i:Int) + 1,()))
  (h2:∀ self,f self ((l.length:Int),())=T):Zt f m (0,())=if decide (Yj V l≠0)=true then some (Yj V l) else T :=
 Zap l (fun l=>if decide (Yj V l≠0)=true then some (Yj V l) else T) hm (fun self i x r hx hi mem e=>by
  rw [h1 self i x hx hi mem,e,Yj]
  by_cases c:V x=0 <;> simp [c]) (fun self=>by rw [h2]; rfl)
theorem Cj (L:Nat)(h1:1000≤L)(p:Zk)(hp:p.Links.length≤4611686018427387)(hpL:p.Links.length < L)(si:Int)(sc:ZK)(hs:ZM p.Sites si=some sc)(c:YX)(h:Znd c)(hL:2 * SizeOf.sizeOf c≤L) :
  ∃ v,Y0 L (p,si,c,())=some v∧YQ L (p,si,c,())=some v:=by
 have hz:=ZuF c
 have hk:=ZG c.Instrs; have hl:=h.Instrs.1
 have hn1:=Qx L c.Name (by have:=h.Name; unfold Len; omega) (by have:=ZG c.Name; omega)
 have hn2:=JA L c.Name (by have:=h.Name; unfold Len; omega) (by have:=ZG c.Name; omega) (by omega)
 have hV:∀ i ∈ c.Instrs,YS L (⟨p,si,c⟩,i,())=some ((X8 L (p,si,c,i,())).getD 0)∧X8 L (p,si,c,i,())=some ((X8 L (p,si,c,i,())).getD 0):=fun i mem=>by
  have:=List.sizeOf_lt_of_mem mem
  obtain ⟨v,e1,e2⟩:=Zmc L h1 p hp hpL si sc hs c i (h.Instrs.2 i mem) (by omega)
  rw [e1,e2]; exact ⟨rfl,rfl⟩
 obtain ⟨V,hV'⟩:∃ V:YE→Int,∀ i ∈ c.Instrs,YS L (⟨p,si,c⟩,i,())=some (V i)∧X8 L (p,si,c,i,())=some (V i):=⟨_,hV⟩
 by_cases ge:c.Instrs=[]
 ·have e0:decide ((c.Instrs.length:Int)=0)=true:=by rw [ge]; rfl
  refine ⟨_,by rw [DF]; simp only [hn1,Zz,ZH,ZB,e0,cond_true,Zm]; rfl,?_⟩
  rw [SS]; simp only [hn2,Zz,ZH,ZB,e0,cond_true,Zm]
 ·have hpos:0 < c.Instrs.length:=List.length_pos_iff.2 ge
  have hw:IntKind.i64.wrap ((c.Instrs.length:Int) - 1)=((c.Instrs.length - 1:Nat):Int):=by rw [wrap_in (by omega) (by omega)]; omega
  have hx:=List.getElem?_eq_getElem (show c.Instrs.length - 1 < c.Instrs.length by omega)
  generalize c.Instrs[c.Instrs.length - 1]=x at hx
  have la:=Zwc (f := VN p si c L) c.Instrs V (some (bif !decide (x.Op=19) && !decide (x.Op=4) then 8 else 0)) (m := L) (by omega) (fun self i y hy hi mem=>by
   rw [VN]; simp only [Zi hi,cond_true,Zf,hy,Zz,(hV' y mem).1,ZB,wrap_succ hi (by omega)]) (fun self=>by
   rw [VN]; simp only [Zd,cond_false,hw,Zf,hx,Zz,ZB,Zm])
  have lb:=Zwc (f := JR p si c L) c.Instrs V (some (bif !decide (x.Op=19) && !decide (x.Op=4) then 8 else 0)) (m := L) (by omega) (fun self i y hy hi mem=>by
   rw [JR]; simp only [Zi hi,cond_true,Zf,hy,Zz,Za,(hV' y mem).2,ZB,wrap_succ hi (by omega)]) (fun self=>by
   rw [JR]; simp only [Zd,cond_false,hw,Zf,hx,Zz,ZB,Zm])
  rw [Xa] at la lb
  refine ⟨_,by rw [DF]; simp only [la,hn1,Zz,ZH,ZB,Zm]; rfl,?_⟩
  rw [SS]; simp only [lb,hn2,Zz,ZH,ZB,Zm]
end Go.Proofs.YtgjcjbhhhlelnaaGreatDoor
end
section
namespace Go.Proofs.YtgjcjbhhhlelnaaGreatDoor
open Go Go.Proofs.YtgjcjbhhhlelnaaGreatDoor.Abs Go.Proofs.YtgjcjbhhhlelnaaGreatDoor.Tl
set_option maxRecDepth 100000
def agL:List YX→List ZR→Bool
 | c :: l,r :: m=>if (!(decide (c.Name=r.Name) && decide (c.Params=(r.Params.length:Int)) && decide ((r.Body.length:Int)=0)))=true then false else agL l m
 | _,_=>true
def agB (s:ZK):Bool:=decide ((s.Routines.length:Int)=(s.Decl.Routines.length:Int)) && agL s.Routines s.Decl.Routines
theorem Zru (L:Nat)(s:ZK)(h:s.Routines.length≤4611686018427387)(hL:s.Routines.length < L):Kw L (s,())=some (agB s):=by
 rcases ZuW s.Routines s.Decl.Routines with ⟨e1,e2⟩ | ⟨e1,e2⟩
 ·have lp:=Zd1 (f := JK s L) s.Routines s.Decl.Routines e1 (fun l m=>some (agL l m)) hL (fun self i x y r r' hx hy hi _ e=>by
   rw [JK]; simp only [Zi,Zd,cond_true,cond_false,Zf,Zz,Za,Zn,condC,Zh,Zg,Zm,ZH,ZT,ZB,hi,hx,hy,Zct,wrap_succ hi (by omega),e,agL]; simp only [Yu,Xa,if_true,if_false,Bool.false_eq_true,ne_eq,decide_not,gt_iff_lt,ge_iff_le]) (fun self=>by rw [JK]; simp only [Zi,Zd,cond_true,cond_false,Zf,Zz,Za,Zn,condC,Zh,Zg,Zm,ZH,ZT,ZB,agL])
  rw [SL,lp,agB,ZB,e2]; rfl
 ·rw [SL,agB,ZB,e2]; rfl
theorem Zrw (L:Nat)(s:ZK)(h:s.Routines.length≤4611686018427387)(hL:s.Routines.length < L):Om L (s,())=some (agB s):=by
 rcases ZuW s.Routines s.Decl.Routines with ⟨e1,e2⟩ | ⟨e1,e2⟩
 ·have lp:=Zd1 (f := OB s) s.Routines s.Decl.Routines e1 (fun l m=>some (agL l m)) hL (fun self i x y r r' hx hy hi _ e=>by
   rw [OB]; simp only [Zi,Zd,cond_true,cond_false,Zf,Zz,Za,Zn,condC,Zh,Zg,Zm,ZH,ZT,ZB,hi,hx,hy,wrap_succ hi (by omega),e,agL]
   rw [show decide ((y.Body.length:Int) > 0)=!decide ((y.Body.length:Int)=0) by rw [← Zsv,Bool.not_not],decide_eq_decide.2 (⟨Eq.symm,Eq.symm⟩:y.Name=x.Name↔x.Name=y.Name),decide_eq_decide.2 (⟨Eq.symm,Eq.symm⟩:(y.Params.length:Int)=x.Params↔x.Params=(y.Params.length:Int))]
   cases decide ((y.Body.length:Int)=0) <;> cases decide (x.Name=y.Name) <;> cases decide (x.Params=(y.Params.length:Int)) <;> rfl) (fun self=>by rw [OB]; simp only [Zi,Zd,cond_true,cond_false,Zf,Zz,Za,Zn,condC,Zh,Zg,Zm,ZH,ZT,ZB,agL])
  rw [Ze3,lp,agB,ZB,e2]; rfl
 ·rw [Ze3,agB,ZB,e2]; rfl
def Zat (l:Zku):Int×Int:=(l.From,l.To)
def EQ (p:Zk):List (Int×Int)→List Zku→Int
 | _,[]=>0
 | seen,x :: r=>if (decide (x.From < 0) || decide (x.From ≥ (p.Sites.length:Int)) || decide (x.To < 0) || decide (x.To ≥ (p.Sites.length:Int)) || decide (x.From=x.To) || decide (x.Delay < 1) || decide (x.Delay > 1000000000))=true then 2
  else if seen.contains (Zat x)=true then 4 else EQ p (seen ++ [Zat x]) r
theorem ZgV (l:List (Int×Int))(s:Int×Int):hasK (MK.pint IntKind.i64) l s=l.contains s:=by
 induction l with
 | nil=>rfl
 | cons x l ih =>
  rw [List.contains_cons,← ih]
  show (BEq.beq s.1 x.1 && BEq.beq s.2 x.2 || hasK (MK.pint IntKind.i64) l s)=_
  congr 1
theorem Znh (l:List (Int×Int))(s:Int×Int)(h:l.contains s=false):FK (MK.pint IntKind.i64) l s=l ++ [s]:=by
 unfold FK; rw [ZgV,h]; rfl
theorem Znm (x:Zku)(n:Int):(decide ((if x.To < x.From then x.To else x.From) < 0) || decide ((if x.To > x.From then x.To else x.From) ≥ n) || decide (x.From=x.To))=(decide (x.From < 0) || decide (x.From ≥ n) || decide (x.To < 0) || decide (x.To ≥ n) || decide (x.From=x.To)):=by
 rw [Bool.eq_iff_iff]
 simp only [Bool.or_eq_true,decide_eq_true_eq]
 split <;> split <;> omega
theorem ZoU (L:Nat)(p:Zk)(h:p.Links.length≤4611686018427387)(hL:p.Links.length < L):GH L (p,())=some (if decide (32 < (p.Links.length:Int))=true then 6 else EQ p [] p.Links):=by
 have lp:=ZgZ (f := Ub p) p.Links (fun (s:List (Int×Int)) i=>(i,s,())) (fun l s=>some (EQ p s l)) (fun self s i x r hx hi mem e=>by
  rw [Ub]
  simp only [Zi,Zd,cond_true,cond_false,Zf,Zz,Za,Zn,condC,Zh,Zg,Zm,ZH,ZT,ZB,hi,hx,Znm,wrap_succ hi (by omega),e,ZgV,EQ]
  generalize (decide (x.From < 0) || decide (x.From ≥ (p.Sites.length:Int)) || decide (x.To < 0) || decide (x.To ≥ (p.Sites.length:Int)) || decide (x.From=x.To))=a
  show _=some (if (a || decide (x.Delay < 1) || decide (x.Delay > 1000000000))=true then 2 else if s.contains (x.From,x.To)=true then 4 else EQ p (s ++ [(x.From,x.To)]) r)
  cases hc:s.contains (x.From,x.To)
  ·rw [Znh _ _ hc,e]; cases a <;> cases decide (x.Delay < 1) <;> cases decide (x.Delay > 1000000000) <;> rfl
  ·cases a <;> cases decide (x.Delay < 1) <;> cases decide (x.Delay > 1000000000) <;> rfl) (fun self s=>by rw [Ub]; simp only [Zi,Zd,cond_true,cond_false,Zf,Zz,Za,Zn,condC,Zh,Zg,Zm,ZH,ZT,ZB,EQ]) L 0 [] (Nat.zero_le _) (by omega)
 rw [List.drop_zero] at lp
 rw [Zjn,show Zt (Ub p) L (0,[],())=_ from lp]
 simp only [Yu,Xa,if_true,if_false,Bool.false_eq_true,ne_eq,decide_not,gt_iff_lt,ge_iff_le]
end Go.Proofs.YtgjcjbhhhlelnaaGreatDoor
end
section
namespace Go.Proofs.YtgjcjbhhhlelnaaGreatDoor
open Go Go.Proofs.YtgjcjbhhhlelnaaGreatDoor.Abs Go.Proofs.YtgjcjbhhhlelnaaGreatDoor.Tl
set_option maxRecDepth 100000
theorem ZlD (L:Nat)(p:Zk)(h:p.Links.length≤4611686018427387)(self:Int×Int×PUnit→Option Int)(i:Nat)(hi:i≤p.Links.length)(hL:p.Links.length < L)(y:Zku) :
  Zt (Gt p self (0,(i:Int),()) y) L (0,0,())=if ((p.Links.take i).map Zat).contains (Zat y)=true then some 4 else self (0,IntKind.i64.wrap ((i:Int) + 1),()):=by
 have hlen:(p.Links.take i).length=i:=by rw [List.length_take]; omega
 have:=Zd0 (f := Gt p self (0,(i:Int),()) y) i (fun j=>(0,j,())) (fun j=>if (((p.Links.take i).drop j).map Zat).contains (Zat y)=true then some 4 else self (0,IntKind.i64.wrap ((i:Int) + 1),())) (fun self1 j hj e=>by
  have hjl:j < p.Links.length:=by omega
  have hx:=List.getElem?_eq_getElem hjl
  have hd:(p.Links.take i).drop j=p.Links[j] :: (p.Links.take i).drop (j + 1):=by
   rw [List.drop_eq_getElem_cons (show j < (p.Links.take i).length by omega),List.getElem_take]
  rw [hd,Gt]
  simp only [show decide ((j:Int) < (i:Int))=true by simp only [decide_eq_true_eq]; omega,cond_true,Zf,hx,Zz,ZH,Zn,wrap_in (show -9223372036854775808≤(j:Int) + 1 by omega) (by omega),e,List.map_cons,List.contains_cons]
  generalize p.Links[j]=x
  have hb:(Zat y == Zat x)=(decide (x.From=y.From) && decide (x.To=y.To)):=by
   show (BEq.beq y.From x.From && BEq.beq y.To x.To)=_
   rw [ZH,ZH,decide_eq_decide.2 (⟨Eq.symm,Eq.symm⟩:y.From=x.From↔x.From=y.From),decide_eq_decide.2 (⟨Eq.symm,Eq.symm⟩:y.To=x.To↔x.To=y.To)]
  rw [hb]
  cases decide (x.From=y.From) <;> cases decide (x.To=y.To) <;> rfl) (fun self1=>by
  rw [Gt]
  simp only [Zd,cond_false]
  rw [List.drop_eq_nil_of_le (by omega)]; rfl) L 0 (Nat.zero_le _) (by omega)
 rw [List.drop_zero] at this
 exact this
theorem Zur (L:Nat)(p:Zk)(h:p.Links.length≤4611686018427387)(hL:p.Links.length < L):Ol L (p,())=some (if decide (32 < (p.Links.length:Int))=true then 6 else EQ p [] p.Links):=by
 have lp:=Zd0 (f := Gu p L) p.Links.length (fun i=>(0,i,())) (fun i=>some (EQ p ((p.Links.take i).map Zat) (p.Links.drop i))) (fun self i hi e=>by
  have hx:=List.getElem?_eq_getElem hi
  have ht:(p.Links.take (i + 1)).map Zat=(p.Links.take i).map Zat ++ [Zat p.Links[i]]:=by
   rw [List.take_succ,hx,List.map_append]; rfl
  rw [List.drop_eq_getElem_cons hi,EQ]
  rw [ht] at e
  rw [Gu]
  simp only [Zi hi,cond_true,Zf,hx,Zz,ZH,ZlD L p h self i (Nat.le_of_lt hi) hL,wrap_succ hi (by omega),e]
  rw [Yu]
  split
  ·rfl
  ·split <;> rfl) (fun self=>by
  rw [Gu,List.drop_length]; simp only [Zd,cond_false,EQ]) L 0 (Nat.zero_le _) (by omega)
 rw [List.drop_zero] at lp
 rw [Zm6,show Zt (Gu p L) L (0,0,())=_ from lp]
 simp only [Yu,Xa,if_true,if_false,Bool.false_eq_true,ne_eq,decide_not,gt_iff_lt,ge_iff_le]
 rfl
end Go.Proofs.YtgjcjbhhhlelnaaGreatDoor
end
section
namespace Go.Proofs.YtgjcjbhhhlelnaaGreatDoor
open Go Go.Proofs.YtgjcjbhhhlelnaaGreatDoor.Abs Go.Proofs.YtgjcjbhhhlelnaaGreatDoor.Tl
set_option maxRecDepth 100000
def UL (n:List UInt8):Seen→List ZK→Int
 | _,[]=>0
 | seen,x :: r=>if decide (M1 n x.Decl≠0)=true then M1 n x.Decl else if seen.contains x.Decl.Name=true then 4 else if (!(agB x))=true then 8 else UL n (seen ++ [x.Decl.Name]) r
theorem Zvf (p:Zk){s:ZK}(h:s ∈ p.Sites):SizeOf.sizeOf s.Decl < SizeOf.sizeOf p∧SizeOf.sizeOf s.Routines < SizeOf.sizeOf p∧SizeOf.sizeOf p.Name < SizeOf.sizeOf p∧p.Sites.length < SizeOf.sizeOf p∧p.Links.length < SizeOf.sizeOf p:=by
 have h1:=List.sizeOf_lt_of_mem h
 have h2:SizeOf.sizeOf s.Decl < SizeOf.sizeOf s∧SizeOf.sizeOf s.Routines < SizeOf.sizeOf s:=by cases s; simp; omega
 have h3:SizeOf.sizeOf p.Sites < SizeOf.sizeOf p∧SizeOf.sizeOf p.Name < SizeOf.sizeOf p∧SizeOf.sizeOf p.Links < SizeOf.sizeOf p:=by cases p; simp; omega
 have h4:=ZG p.Sites; have h5:=ZG p.Links
 omega
theorem Zn2 (L:Nat)(h1:1000≤L)(p:Zk)(h:KP p)(hL:2 * SizeOf.sizeOf p≤L)(hne:p.Sites.length < L)(T:Int)(hT:∀ seen:Seen,(bT (GH L (p,())) fun (y:Int)=>bif y != (0:Int) then some y else Zt (XB p L) L (0,0,seen,()))=some T) :
  Zt (VM p L) L (0,0,[],())=some (if decide (UL p.Name [] p.Sites≠0)=true then UL p.Name [] p.Sites else T):=by
 have hl:=h.Sites.1
 have:=ZgZ (f := VM p L) p.Sites (fun (s:Seen) i=>(0,i,s,())) (fun l s=>some (if decide (UL p.Name s l≠0)=true then UL p.Name s l else T)) (fun self s i x r hx hi mem e=>by
  have hz:=Zvf p mem
  have ok:=h.Sites.2 x mem
  have hr:=ok.Routines.1
  have e1:=Zry L (by omega) p.Name h.Name (by have:=ZG p.Name; omega) x.Decl ok.Decl (by omega)
  have e2:=Zru L x (by omega) (by have:=ZG x.Routines; omega)
  rw [VM]
  simp only [Zi hi,cond_true,Zf,hx,Zz,e1,e2,ZB,Zfd,wrap_succ hi (by omega),e,UL]
  by_cases a:M1 p.Name x.Decl=0
  ·rcases Bool.eq_false_or_eq_true (s.contains x.Decl.Name) with b | b
   ·have b':x.Decl.Name ∈ s:=List.contains_iff_mem.1 b
    simp [a,b']
   ·have b':¬ x.Decl.Name ∈ s:=fun hm=>by rw [List.contains_iff_mem.2 hm] at b; cases b
    rw [Zk0 _ _ b,e]
    rcases Bool.eq_false_or_eq_true (agB x) with g | g <;> simp [a,b',g]
  ·simp [a]) (fun self s=>by rw [VM]; simp only [Zd,cond_false,hT,UL]; rfl) L 0 [] (Nat.zero_le _) (by omega)
 rw [List.drop_zero] at this
 exact this
end Go.Proofs.YtgjcjbhhhlelnaaGreatDoor
end
section
namespace Go.Proofs.YtgjcjbhhhlelnaaGreatDoor
open Go Go.Proofs.YtgjcjbhhhlelnaaGreatDoor.Abs Go.Proofs.YtgjcjbhhhlelnaaGreatDoor.Tl
set_option maxRecDepth 100000
theorem ZuB (L:Nat)(p:Zk)(h:p.Sites.length≤4611686018427387)(self:Int×Int×PUnit→Option Int)(i:Nat)(y:ZK)(hy:p.Sites[i]? = some y)(hi:i < p.Sites.length)(hL:p.Sites.length < L)(hf:Om L (y,())=some (agB y)) :
  Zt (Ug p L self (0,(i:Int),())) L (0,0,())=if ((p.Sites.take i).map fun s=>s.Decl.Name).contains y.Decl.Name=true then some 4 else bif !(agB y) then some 8 else self (0,IntKind.i64.wrap ((i:Int) + 1),()):=by
 have hlen:(p.Sites.take i).length=i:=by rw [List.length_take]; omega
 have:=Zd0 (f := Ug p L self (0,(i:Int),())) i (fun j=>(0,j,())) (fun j=>if (((p.Sites.take i).drop j).map fun s=>s.Decl.Name).contains y.Decl.Name=true then some 4 else bif !(agB y) then some 8 else self (0,IntKind.i64.wrap ((i:Int) + 1),())) (fun self1 j hj e=>by
  have hjl:j < p.Sites.length:=by omega
  have hx:=List.getElem?_eq_getElem hjl
  have hd:(p.Sites.take i).drop j=p.Sites[j] :: (p.Sites.take i).drop (j + 1):=by
   rw [List.drop_eq_getElem_cons (show j < (p.Sites.take i).length by omega),List.getElem_take]
  rw [hd,Ug]
  simp only [show decide ((j:Int) < (i:Int))=true by simp only [decide_eq_true_eq]; omega,cond_true,Zf,hx,hy,Zz,ZT,wrap_in (show -9223372036854775808≤(j:Int) + 1 by omega) (by omega),e,List.map_cons,List.contains_cons]
  generalize p.Sites[j]=x
  rw [decide_eq_decide.2 (⟨Eq.symm,Eq.symm⟩:y.Decl.Name=x.Decl.Name↔x.Decl.Name=y.Decl.Name)]
  cases decide (x.Decl.Name=y.Decl.Name) <;> rfl) (fun self1=>by
  rw [Ug]
  simp only [Zd,cond_false,Zf,hy,Zz,hf]
  rw [List.drop_eq_nil_of_le (by omega)]; rfl) L 0 (Nat.zero_le _) (by omega)
 rw [List.drop_zero] at this
 exact this
theorem Zu5 (L:Nat)(h1:1000≤L)(p:Zk)(h:KP p)(hL:2 * SizeOf.sizeOf p≤L)(hne:p.Sites.length < L)(T:Int)(hT:(bT (Ol L (p,())) fun (y:Int)=>Zt (QI p L) L (y,0,()))=some T) :
  Zt (Ui p L) L (0,0,())=some (if decide (UL p.Name [] p.Sites≠0)=true then UL p.Name [] p.Sites else T):=by
 have hl:=h.Sites.1
 have:=Zd0 (f := Ui p L) p.Sites.length (fun i=>(0,i,())) (fun i=>some (if decide (UL p.Name ((p.Sites.take i).map fun s=>s.Decl.Name) (p.Sites.drop i)≠0)=true then UL p.Name ((p.Sites.take i).map fun s=>s.Decl.Name) (p.Sites.drop i) else T)) (fun self i hi e=>by
  have hx:=List.getElem?_eq_getElem hi
  have ht:((p.Sites.take (i + 1)).map fun s=>s.Decl.Name)=((p.Sites.take i).map fun s=>s.Decl.Name) ++ [p.Sites[i].Decl.Name]:=by
   rw [List.take_succ,hx,List.map_append]; rfl
  have mem:=List.getElem_mem hi
  rw [List.drop_eq_getElem_cons hi,UL]
  rw [ht] at e
  generalize p.Sites[i]=x at hx e mem
  have hz:=Zvf p mem
  have ok:=h.Sites.2 x mem
  have hr:=ok.Routines.1
  have e1:=ZoY L h1 p.Name h.Name (by have:=ZG p.Name; omega) x.Decl ok.Decl (by omega)
  have e2:=Zrw L x (by omega) (by have:=ZG x.Routines; omega)
  rw [Ui]
  simp only [Zi hi,cond_true,Zf,hx,Zz,Za,e1,ZB,ZuB L p (by omega) self i x hx hi hne e2,wrap_succ hi (by omega),e]
  by_cases a:M1 p.Name x.Decl=0
  ·by_cases b:x.Decl.Name ∈ (p.Sites.take i).map fun s=>s.Decl.Name
   ·rw [List.contains_iff_mem.2 b]
    simp only [a,ne_eq,not_true_eq_false,decide_false,decide_true,Bool.not_true,Bool.not_false,Bool.false_eq_true,if_false,if_true,cond_true,cond_false] <;> rfl
   ·have b':((p.Sites.take i).map fun s=>s.Decl.Name).contains x.Decl.Name=false:=by rw [← Bool.not_eq_true,List.contains_iff_mem]; exact b
    rw [b']
    rcases Bool.eq_false_or_eq_true (agB x) with g | g <;> simp only [a,g,ne_eq,not_true_eq_false,decide_false,decide_true,Bool.not_true,Bool.not_false,Bool.false_eq_true,if_false,if_true,cond_true,cond_false] <;> rfl
  ·simp [a]) (fun self=>by
  rw [Ui,List.drop_length]; simp only [Zd,cond_false,hT,UL]; rfl) L 0 (Nat.zero_le _) (by omega)
 rw [List.drop_zero] at this
 exact this
end Go.Proofs.YtgjcjbhhhlelnaaGreatDoor
end
section
namespace Go.Proofs.YtgjcjbhhhlelnaaGreatDoor
open Go Go.Proofs.YtgjcjbhhhlelnaaGreatDoor.Abs Go.Proofs.YtgjcjbhhhlelnaaGreatDoor.Tl
set_option maxRecDepth 100000
def rX (V:Int→YX→Int):Int→List ZK→Int
 | _,[]=>0
 | i,x :: r=>if decide (Yj (V i) x.Routines≠0)=true then Yj (V i) x.Routines else rX V (i + 1) r
theorem Zqi (L:Nat)(p:Zk)(V:Int→YX→Int)(self:Int×Int×List (List UInt8)×PUnit→Option Int)(i:Nat)(seen s0:Seen)(y:ZK)(hl:y.Routines.length≤4611686018427387)(hL:y.Routines.length < L)(hV:∀ c ∈ y.Routines,Y0 L (p,(i:Int),c,())=some (V i c)) :
  Zt (VL p L self (0,(i:Int),s0,()) y) L (0,0,seen,())=if decide (Yj (V i) y.Routines≠0)=true then some (Yj (V i) y.Routines) else self (0,IntKind.i64.wrap ((i:Int) + 1),seen,()):=by
 have:=ZgZ (f := VL p L self (0,(i:Int),s0,()) y) y.Routines (fun (_:Unit) j=>(0,j,seen,())) (fun l _=>if decide (Yj (V i) l≠0)=true then some (Yj (V i) l) else self (0,IntKind.i64.wrap ((i:Int) + 1),seen,())) (fun self1 s j x r hx hi mem e=>by
  rw [VL]
  simp only [Zi hi,cond_true,Zf,hx,Zz,hV x mem,ZB,wrap_succ hi (by omega),e (),Yj]
  by_cases a:V i x=0 <;> simp [a]) (fun self1 s=>by rw [VL]; simp only [Zd,cond_false,Yj]; rfl) L 0 () (Nat.zero_le _) (by omega)
 rw [List.drop_zero] at this
 exact this
theorem Zvu (L:Nat)(p:Zk)(V:Int→YX→Int)(h:p.Sites.length≤4611686018427387)(hL:p.Sites.length < L)(hr:∀ y ∈ p.Sites,y.Routines.length≤4611686018427387∧y.Routines.length < L)(hV:∀ (i:Nat) y,p.Sites[i]? = some y→∀ c ∈ y.Routines,Y0 L (p,(i:Int),c,())=some (V i c))(seen:Seen) :
  Zt (XB p L) L (0,0,seen,())=some (rX V 0 p.Sites):=by
 have:=Zd0 (f := XB p L) p.Sites.length (fun i=>(0,i,seen,())) (fun i=>some (rX V i (p.Sites.drop i))) (fun self i hi e=>by
  have hx:=List.getElem?_eq_getElem hi
  have mem:=List.getElem_mem hi
  rw [List.drop_eq_getElem_cons hi,rX]
  generalize p.Sites[i]=y at hx mem
  rw [XB]
  simp only [Zi hi,cond_true,Zf,hx,Zz,Zqi L p V self i seen seen y (hr y mem).1 (hr y mem).2 (hV i y hx),wrap_succ hi (by omega),e]
  by_cases a:Yj (V i) y.Routines=0 <;> simp [a]) (fun self=>by rw [XB,List.drop_length]; simp only [Zd,cond_false,rX]) L 0 (Nat.zero_le _) (by omega)
 rw [List.drop_zero] at this
 exact this
theorem ZrE (L:Nat)(p:Zk)(V:Int→YX→Int)(self:Int×Int×PUnit→Option Int)(i:Nat)(e0 n:Int)(y:ZK)(hy:p.Sites[i]? = some y)(hl:y.Routines.length≤4611686018427387)(hL:y.Routines.length < L)(hV:∀ c ∈ y.Routines,YQ L (p,(i:Int),c,())=some (V i c)) :
  Zt (Uh p L self (e0,(i:Int),())) L (n,0,())=self (if decide (n=0)=true then Yj (V i) y.Routines else n,IntKind.i64.wrap ((i:Int) + 1),()):=by
 refine Zaq (f := Uh p L self (e0,(i:Int),())) y.Routines (fun l n=>self (if decide (n=0)=true then Yj (V i) l else n,IntKind.i64.wrap ((i:Int) + 1),())) hL n (fun self1 n j x r hx hi mem e=>?_) (fun self1 n=>?_)
 ·rw [Uh]
  simp only [Zf,hy,Zz,Za,Zi hi,cond_true,hx,hV x mem,ZH,wrap_succ hi (by omega),e,Yj]
  by_cases a:n=0
  ·by_cases b:V i x=0 <;> simp [a,b]
  ·simp [a]
 ·rw [Uh]
  simp only [Zf,hy,Zz,Zd,cond_false,Yj]
  by_cases a:n=0 <;> simp [a]
theorem ZyF (L:Nat)(p:Zk)(V:Int→YX→Int)(h:p.Sites.length≤4611686018427387)(hL:p.Sites.length < L)(hr:∀ y ∈ p.Sites,y.Routines.length≤4611686018427387∧y.Routines.length < L)(hV:∀ (i:Nat) y,p.Sites[i]? = some y→∀ c ∈ y.Routines,YQ L (p,(i:Int),c,())=some (V i c))(n:Int) :
  Zt (QI p L) L (n,0,())=some (if decide (n=0)=true then rX V 0 p.Sites else n):=by
 have key:∀ (m i:Nat) (n:Int),i≤p.Sites.length→p.Sites.length - i < m→Zt (QI p L) m (n,(i:Int),())=some (if decide (n=0)=true then rX V i (p.Sites.drop i) else n):=by
  intro m
  induction m with
  | zero=>intro i n _ h; exact absurd h (Nat.not_lt_zero _)
  | succ m ih =>
   intro i n hi hm
   show QI p L (Zt (QI p L) m) (n,(i:Int),())=_
   rcases Nat.lt_or_ge i p.Sites.length with hlt | hge
   ·have hx:=List.getElem?_eq_getElem hlt
    have mem:=List.getElem_mem hlt
    rw [List.drop_eq_getElem_cons hlt,rX]
    generalize p.Sites[i]=y at hx mem
    rw [QI]
    simp only [Zi hlt,cond_true,ZrE L p V _ i n n y hx (hr y mem).1 (hr y mem).2 (hV i y hx),wrap_succ hlt (by omega)]
    rw [show ((i:Int) + 1)=((i + 1:Nat):Int) from rfl,ih (i + 1) _ hlt (by omega)]
    by_cases a:n=0
    ·by_cases b:Yj (V i) y.Routines=0 <;> simp [a,b]
    ·simp [a]
   ·have:i=p.Sites.length:=by omega
    subst this
    rw [QI,List.drop_length]; simp only [Zd,cond_false,rX]
    by_cases a:n=0 <;> simp [a]
 have:=key L 0 n (Nat.zero_le _) (by omega)
 rw [List.drop_zero] at this
 exact this
end Go.Proofs.YtgjcjbhhhlelnaaGreatDoor
end
section
namespace Go.Proofs.YtgjcjbhhhlelnaaGreatDoor
open Go Go.Proofs.YtgjcjbhhhlelnaaGreatDoor.Abs Go.Proofs.YtgjcjbhhhlelnaaGreatDoor.Tl
set_option maxRecDepth 100000
theorem ZlS (L:Nat)(h1:1000≤L)(p:Zk)(h:KP p)(hL:2 * SizeOf.sizeOf p≤L):∃ v,Qp L (p,())=some v∧Tn L (p,())=some v:=by
 have h3:SizeOf.sizeOf p.Sites < SizeOf.sizeOf p∧SizeOf.sizeOf p.Name < SizeOf.sizeOf p∧SizeOf.sizeOf p.Links < SizeOf.sizeOf p:=by cases p; simp; omega
 have h4:=ZG p.Sites; have h5:=ZG p.Links; have h6:=ZG p.Name
 have hs:=h.Sites.1; have hl:=h.Links.1
 have hn1:=Qx L p.Name (by have:=h.Name; unfold Len; omega) (by omega)
 have hn2:=JA L p.Name (by have:=h.Name; unfold Len; omega) (by omega) (by omega)
 have hr:∀ y ∈ p.Sites,y.Routines.length≤4611686018427387∧y.Routines.length < L:=fun y mem=>by
  have hz:=Zvf p mem
  have:=(h.Sites.2 y mem).Routines.1
  have:=ZG y.Routines
  omega
 have hV:∀ (i:Nat) y,p.Sites[i]? = some y→∀ c ∈ y.Routines,Y0 L (p,(i:Int),c,())=some ((YQ L (p,(i:Int),c,())).getD 0)∧YQ L (p,(i:Int),c,())=some ((YQ L (p,(i:Int),c,())).getD 0):=fun i y hy c hc=>by
  have mem:=List.mem_of_getElem? hy
  have hz:=Zvf p mem
  have:=List.sizeOf_lt_of_mem hc
  obtain ⟨v,e1,e2⟩:=Cj L h1 p (by omega) (by omega) (i:Int) y (by rw [Zf]; exact hy) c ((h.Sites.2 y mem).Routines.2 c hc) (by omega)
  rw [e1,e2]; exact ⟨rfl,rfl⟩
 obtain ⟨V,hV'⟩:∃ V:Int→YX→Int,∀ (i:Nat) y,p.Sites[i]? = some y→∀ c ∈ y.Routines,Y0 L (p,(i:Int),c,())=some (V i c)∧YQ L (p,(i:Int),c,())=some (V i c):=⟨fun i c=>(YQ L (p,i,c,())).getD 0,hV⟩
 have ca:=ZoU L p (by omega) (by omega)
 have ra:=Zur L p (by omega) (by omega)
 generalize (if decide (32 < (p.Links.length:Int))=true then 6 else EQ p [] p.Links)=A at ca ra
 have c1:=Zn2 L h1 p h hL (by omega) (if decide (A=0)=true then rX V 0 p.Sites else A) (fun seen=>by
  rw [ca,Zz,Zvu L p V (by omega) (by omega) hr (fun i y hy c hc=>(hV' i y hy c hc).1) seen,ZB]
  by_cases a:A=0 <;> simp [a])
 have r1:=Zu5 L h1 p h hL (by omega) (if decide (A=0)=true then rX V 0 p.Sites else A) (by
  rw [ra,Zz,ZyF L p V (by omega) (by omega) hr (fun i y hy c hc=>(hV' i y hy c hc).2) A])
 refine ⟨_,by rw [FV]; simp only [c1,hn1,Zz,ZH,ZB,Zm]; rfl,?_⟩
 rw [ZjB]; simp only [r1,hn2,Zz,ZH,ZB,Zm]
end Go.Proofs.YtgjcjbhhhlelnaaGreatDoor
end
section
namespace Go.Proofs.YtgjcjbhhhlelnaaGreatDoor
open Go Go.Proofs.YtgjcjbhhhlelnaaGreatDoor.Abs Go.Proofs.YtgjcjbhhhlelnaaGreatDoor.Tl
set_option maxRecDepth 100000
theorem ZgN {α:Type}(V:α→Int):∀ l:List α,Yj V l=0→∀ c ∈ l,V c=0
 | [],_,c,h=>by cases h
 | x :: l,h,c,hc=>by
  rw [Yj] at h
  by_cases a:V x=0
  ·simp [a] at h
   rcases List.mem_cons.1 hc with rfl | hc
   ·exact a
   ·exact ZgN V l h c hc
  ·simp [a] at h
theorem ZwW (V:Int→YX→Int):∀ (l:List ZK) (i:Nat),rX V i l=0→∀ (k:Nat) y,l[k]? = some y→∀ c ∈ y.Routines,V ((i + k:Nat):Int) c=0
 | [],_,_,k,y,h=>by simp at h
 | x :: l,i,h,k,y,hy=>by
  rw [rX] at h
  split at h
  ·rename_i a; simp only [decide_eq_true_eq] at a; exact absurd h a
  ·rename_i a
   have a:Yj (V i) x.Routines=0:=by simpa using a
   cases k with
   | zero=>simp at hy; subst hy; exact ZgN (V i) _ a
   | succ k =>
    have:=ZwW V l (i + 1) h k y (by simpa using hy)
    intro c hc
    have e:=this c hc
    rw [show i + (k + 1)=i + 1 + k by omega]; exact e
theorem Zqo (L:Nat)(h1:1000≤L)(p:Zk)(h:KP p)(hL:2 * SizeOf.sizeOf p≤L)(e:Qp L (p,())=some 0) :
  (1≤p.Sites.length∧p.Sites.length≤16)∧(p.Links.length≤32∧EQ p [] p.Links=0)∧∀ (i:Nat) y,p.Sites[i]? = some y→∀ c ∈ y.Routines,Y0 L (p,(i:Int),c,())=some 0:=by
 have h3:SizeOf.sizeOf p.Sites < SizeOf.sizeOf p∧SizeOf.sizeOf p.Name < SizeOf.sizeOf p∧SizeOf.sizeOf p.Links < SizeOf.sizeOf p:=by cases p; simp; omega
 have h4:=ZG p.Sites; have h5:=ZG p.Links; have h6:=ZG p.Name
 have hs:=h.Sites.1; have hl:=h.Links.1
 have hn1:=Qx L p.Name (by have:=h.Name; unfold Len; omega) (by omega)
 have hr:∀ y ∈ p.Sites,y.Routines.length≤4611686018427387∧y.Routines.length < L:=fun y mem=>by
  have hz:=Zvf p mem
  have:=(h.Sites.2 y mem).Routines.1
  have:=ZG y.Routines
  omega
 obtain ⟨V,hV⟩:∃ V:Int→YX→Int,∀ (i:Nat) y,p.Sites[i]? = some y→∀ c ∈ y.Routines,Y0 L (p,(i:Int),c,())=some (V i c):=⟨fun i c=>(Y0 L (p,i,c,())).getD 0,fun i y hy c hc=>by
  have mem:=List.mem_of_getElem? hy
  have hz:=Zvf p mem
  have:=List.sizeOf_lt_of_mem hc
  obtain ⟨v,e1,e2⟩:=Cj L h1 p (by omega) (by omega) (i:Int) y (by rw [Zf]; exact hy) c ((h.Sites.2 y mem).Routines.2 c hc) (by omega)
  show _=some ((Y0 L (p,(i:Int),c,())).getD 0)
  rw [e1]; rfl⟩
 have ca:=ZoU L p (by omega) (by omega)
 generalize hA:(if decide (32 < (p.Links.length:Int))=true then 6 else EQ p [] p.Links)=A at ca
 have c1:=Zn2 L h1 p h hL (by omega) (if decide (A=0)=true then rX V 0 p.Sites else A) (fun seen=>by
  rw [ca,Zz,Zvu L p V (by omega) (by omega) hr hV seen,ZB]
  by_cases a:A=0 <;> simp [a])
 rw [FV,hn1,Zz,c1] at e
 by_cases a1:Vr p.Name=0
 rotate_left
 ·rw [ZB,decide_eq_false a1] at e; exact absurd (Option.some.inj e) a1
 by_cases a2:(p.Sites.length:Int)=0
 ·simp [a1,a2] at e
 by_cases a3:(p.Sites.length:Int) > 16
 ·have a3':decide ((p.Sites.length:Int) > 16)=true:=by simpa using a3
  rw [a3',ZB,a1,ZH,decide_eq_false a2] at e; cases e
 have a3':decide ((p.Sites.length:Int) > 16)=false:=by simpa using a3
 rw [a3',ZB,a1,ZH,decide_eq_false a2] at e
 replace e:(if decide (UL p.Name [] p.Sites≠0)=true then UL p.Name [] p.Sites else if decide (A=0)=true then rX V 0 p.Sites else A)=0:=Option.some.inj e
 split at e
 ·rename_i b; simp only [decide_eq_true_eq] at b; exact absurd e b
 rename_i b
 have b:UL p.Name [] p.Sites=0:=by simpa using b
 split at e
 rotate_left
 ·rename_i d; exact absurd e (by simpa using d)
 rename_i d
 have d:A=0:=by simpa using d
 rw [d] at hA
 refine ⟨⟨by omega,by omega⟩,?_,fun i y hy c hc=>?_⟩
 ·split at hA
  ·cases hA
  ·rename_i g; exact ⟨by simp at g; omega,hA⟩
 ·have:=ZwW V p.Sites 0 e i y hy c hc
  rw [Nat.zero_add] at this
  rw [hV i y hy c hc,this]
end Go.Proofs.YtgjcjbhhhlelnaaGreatDoor
end
section
namespace Go.Proofs.YtgjcjbhhhlelnaaGreatDoor
open Go Go.Proofs.YtgjcjbhhhlelnaaGreatDoor.Abs Go.Proofs.YtgjcjbhhhlelnaaGreatDoor.Tl
set_option maxRecDepth 100000
def at_ (l:List Int)(i:Int):Int:=l.getD i.toNat 0
section
variable (L:Nat)(h1:1000≤L)(p:Zk)(h:KP p)(hL:2 * SizeOf.sizeOf p≤L)
include h1 h hL
theorem Zms:∃ v,Qp L (p,())=some v∧∀ l:List Int,l.length≤40→XJ L (p,l,())=some (IG v l.length p.Sites.length (pcA l Xy 0))∧Zkt L (p,l,())=some (IG v l.length p.Sites.length (pcA l Xy 0)):=by
 obtain ⟨v,e1,e2⟩:=ZlS L h1 p h hL
 refine ⟨v,e1,fun l hl=>⟨?_,?_⟩⟩
 ·show bT (Qp L (p,())) _=_
  rw [e1,Zz]
  exact if_pos ⟨by show l.length < L; omega,by show l.length < 4611686018427387904; omega⟩
 ·show bT (Tn L (p,())) _=_
  rw [e2,Zz]
  refine (if_pos ⟨by show l.length < L; omega,by show l.length < 4611686018427387904; omega⟩).trans (congrArg some ?_)
  show IG v l.length p.Sites.length (rcA l Xy 0)=_
  by_cases hv:v=0
  ·subst hv
   by_cases hn:l.length=p.Sites.length
   ·rw [Zn9 l]
    rintro rfl
    have:=(Zqo L h1 p h hL e1).1
    simp at hn
    omega
   ·have:¬ (l.length:Int)=p.Sites.length:=by omega
    simp [IG,this]
  ·simp [IG,hv]
omit h1 h hL in
theorem ZlZ:((List.range 16).all fun s=>(List.range (s + 1)).all fun k=>(pcA (ZbJ ((s:Int) + 1) ((k:Int) + 1)).1 Xy 0 == 0) && ((ZbJ ((s:Int) + 1) ((k:Int) + 1)).1.length == s + 1) && ((ZbJ ((s:Int) + 1) ((k:Int) + 1)).2.1 == 0))=true:=by decide
theorem BN (k:Int)(hk:0≤k)(hk2:k≤255):Xh L (p,k,())=some true:=by
 rw [MR,Zjr,Zz]
 by_cases hf:(decide ((p.2.length:Int)≤20) && decide ((p.3.length:Int)≤40) && decide ((([]:List Int).length:Int)≤40))=true
 rotate_left
 ·rw [Bool.not_eq_true] at hf
  rw [hf]; rfl
 have hf':=hf
 simp only [Bool.and_eq_true,decide_eq_true_eq] at hf'
 obtain ⟨⟨f1,f2⟩,f3⟩:=hf'
 rw [hf]
 by_cases h0:(p.2.length:Int)=0
 ·rw [ZH,decide_eq_true h0]; rfl
 rw [ZH,decide_eq_false h0,if_neg h0]
 obtain ⟨v,e,hc⟩:=Zms L h1 p h hL
 have hw1:IntKind.i64.wrap k=k:=i64_in (by omega) (by omega)
 have hm:k.tmod (p.2.length:Int)=k % (p.2.length:Int):=Int.tmod_eq_emod_of_nonneg hk
 have hm0:0≤k % (p.2.length:Int):=Int.emod_nonneg _ h0
 have hm1:k % (p.2.length:Int) < p.2.length:=Int.emod_lt_of_pos _ (by omega)
 rw [hw1,hm,i64_in (by omega) (by omega)]
 have hE:∀ s t,U6 L (s,t,())=some (ZbJ s t):=fun _ _=>rfl
 rw [hE,Zz]
 generalize hs:k % (p.2.length:Int)=t at *
 by_cases h16:(p.2.length:Int) > 16
 ·have:Zsf (p.2.length:Int) (t + 1)=true:=by
   have:decide ((16:Int) < p.2.length)=true:=by simpa using h16
   simp [Zsf,this]
  rw [show decide ((p.2.length:Int) > 16)=true by simpa using h16]
  simp [ZbJ,this]
 rw [show decide ((p.2.length:Int) > 16)=false by simpa using h16]
 have h16':(p.2.length:Int)≤16:=by omega
 have ht:=List.all_eq_true.1 (List.all_eq_true.1 ZlZ (p.2.length - 1) (List.mem_range.2 (by omega))) t.toNat (List.mem_range.2 (by omega))
 rw [show (((p.2.length - 1:Nat):Int) + 1)=(p.2.length:Int) by omega,show ((t.toNat:Nat):Int) + 1=t + 1 by omega,show p.2.length - 1 + 1=p.2.length by omega] at ht
 simp only [Bool.and_eq_true,beq_iff_eq] at ht
 obtain ⟨⟨t1,t2⟩,t3⟩:=ht
 have k1:=(hc [] (by simp)).1
 have k2:=(hc (ZbJ (p.2.length:Int) (t + 1)).1 (by omega)).1
 rw [k1,k2,Zz,Zz,t3]
 have hne:¬ (0:Int)=p.Sites.length:=fun c=>h0 c.symm
 have e1:IG v ([]:List Int).length p.Sites.length (pcA [] Xy 0)=if decide (v≠0)=true then v else 8:=by
  simp only [IG,List.length_nil]
  have hd:decide ((((0:Nat):Int))≠(p.Sites.length:Int))=true:=by simpa using hne
  simp only [hd,if_true]
 have e2:IG v (ZbJ (p.2.length:Int) (t + 1)).1.length p.Sites.length (pcA (ZbJ (p.2.length:Int) (t + 1)).1 Xy 0)=if decide (v≠0)=true then v else 0:=by
  rw [t1,t2]; simp [IG]
 rw [e1,e2]
 by_cases hv:v=0
 ·subst hv; rfl
 ·rw [decide_eq_true hv]; simp
end
end Go.Proofs.YtgjcjbhhhlelnaaGreatDoor
end
