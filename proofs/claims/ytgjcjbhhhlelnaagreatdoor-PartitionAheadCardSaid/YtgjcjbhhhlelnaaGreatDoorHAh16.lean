import Derived.Test.YtgjcjbhhhlelnaaGreatDoorHAh15
set_option linter.all false
section
namespace Go.Proofs.YtgjcjbhhhlelnaaGreatDoor
open Go Go.Proofs.YtgjcjbhhhlelnaaGreatDoor.Abs Go.Proofs.YtgjcjbhhhlelnaaGreatDoor.Tl
set_option maxRecDepth 100000
theorem ZdJ {α:Type}(nm:α→List UInt8)(s:List UInt8)(l:List α):decide (H7 (fun x=>decide (nm x=s)) l 0 ≥ 0)=(l.map nm).contains s:=by
 rw [show decide (H7 (fun x=>decide (nm x=s)) l 0 ≥ 0)=_ from ZaA _ l 0 (Int.le_refl _),← Znt,List.any_map]
 congr 1; funext x; exact decide_eq_decide.2 ⟨Eq.symm,Eq.symm⟩
theorem JC (d:Ze):SizeOf.sizeOf d.Name < SizeOf.sizeOf d∧SizeOf.sizeOf d.Vars < SizeOf.sizeOf d∧SizeOf.sizeOf d.Resources < SizeOf.sizeOf d∧SizeOf.sizeOf d.Stores < SizeOf.sizeOf d∧SizeOf.sizeOf d.Belts < SizeOf.sizeOf d∧SizeOf.sizeOf d.Queues < SizeOf.sizeOf d∧SizeOf.sizeOf d.Streams < SizeOf.sizeOf d∧SizeOf.sizeOf d.Tallies < SizeOf.sizeOf d∧SizeOf.sizeOf d.Levels < SizeOf.sizeOf d∧SizeOf.sizeOf d.Counts < SizeOf.sizeOf d∧SizeOf.sizeOf d.Routines < SizeOf.sizeOf d∧SizeOf.sizeOf d.Starts < SizeOf.sizeOf d∧SizeOf.sizeOf d.Laws < SizeOf.sizeOf d:=by
 cases d; simp; omega
structure Sh (L:Nat)(d:Ze):Prop where
 nm:d.Name.length < L
 vars:d.Vars.length < L
 res:d.Resources.length < L
 sto:d.Stores.length < L
 bel:d.Belts.length < L
 que:d.Queues.length < L
 str:d.Streams.length < L
 tal:d.Tallies.length < L
 lev:d.Levels.length < L
 cnt:d.Counts.length < L
 rou:d.Routines.length < L
 sta:d.Starts.length < L
 law:d.Laws.length < L
theorem Sh.of {L:Nat}{d:Ze}(h:SizeOf.sizeOf d≤L):Sh L d:=by
 have:=JC d
 constructor
 ·have:=ZM d.Name; omega
 ·have:=ZM d.Vars; omega
 ·have:=ZM d.Resources; omega
 ·have:=ZM d.Stores; omega
 ·have:=ZM d.Belts; omega
 ·have:=ZM d.Queues; omega
 ·have:=ZM d.Streams; omega
 ·have:=ZM d.Tallies; omega
 ·have:=ZM d.Levels; omega
 ·have:=ZM d.Counts; omega
 ·have:=ZM d.Routines; omega
 ·have:=ZM d.Starts; omega
 ·have:=ZM d.Laws; omega
theorem ZpJ (L:Nat)(d:Ze)(t:OB)(h:ZL d)(hL:d.Stores.length < L):Zx (Vp d t) L (0,())=some (H7 (fun x:Y0=>decide (x.Name=t.Name)) d.Stores 0):=by
 have:=h.st
 exact Zlx d.Stores (fun l i=>some (H7 (fun x:Y0=>decide (x.Name=t.Name)) l i)) hL (fun self i x r hx hi _ e=>by
  rw [Vp]; simp only [Zk,Zc,cond_true,cond_false,Zg,ZA,Za,Zp,condC,Zj,Zi,Zm,ZO,ZY,ZH,hi,hx,wrap_succ hi (by omega),e,H7]; simp only [Yt,X4,if_true,if_false,Bool.false_eq_true,ne_eq,decide_not,gt_iff_lt,ge_iff_le]) (fun self=>by rw [Vp]; simp only [Zk,Zc,cond_true,cond_false,Zg,ZA,Za,Zp,condC,Zj,Zi,Zm,ZO,ZY,ZH,H7])
theorem ZzO (L:Nat)(d:Ze)(t:OB)(h:ZL d)(hs:Sh L d):Oi L (d,t,())=some (ZfM d t):=by
 have:=h.st
 have sl:=ZpJ L d t h hs.sto
 rw [ZjX,show F6=Vp from rfl,show F7=Vp from rfl]
 simp only [Zk,Zc,cond_true,cond_false,Zg,ZA,Za,Zp,condC,Zj,Zi,Zm,ZO,ZY,ZH,Zg7 L d t.Name (by unfold Len; omega) hs.rou,sl,Zg6 L d.Counts t.Name (by unfold Len; omega) hs.cnt,UL,ZdJ,ZfM,ZfN]; simp only [Yt,X4,if_true,if_false,Bool.false_eq_true,ne_eq,decide_not,gt_iff_lt,ge_iff_le]
theorem Z2q {l:List Zfn}{x:Zfn}(h:x ∈ l):x.Terms.length < SizeOf.sizeOf l∧x.Name.length < SizeOf.sizeOf l:=by
 have:=List.sizeOf_lt_of_mem h
 have h1:=ZM x.Terms; have h2:=ZM x.Name
 have:SizeOf.sizeOf x.Terms < SizeOf.sizeOf x∧SizeOf.sizeOf x.Name < SizeOf.sizeOf x:=by cases x; simp; omega
 omega
theorem EL {α σ:Type}(f:α→Int)(s:σ):∀ l:List α,YQ (fun x s=>(f x,s)) l s=(Yl f l,s)
 | []=>rfl
 | x :: l=>by rw [YQ,EL f s l,Yl]; split <;> rfl
theorem ZzJ (L:Nat)(d:Ze)(h:ZL d)(hL:SizeOf.sizeOf d≤L):Og L (d,())=some (PM d):=by
 have hs:=Sh.of hL
 have hz:=JC d
 have hl:d.Laws.length≤4611686018427387:=by have:=h.Laws.1; omega
 have lp:=ZhD (f := Gq d L) d.Laws (fun l:Zfn=>Y2 l.Name (ZsD d l)) hs.law ([]:Seen) (fun self s i x hx hi mem=>by
  have hsz:=Z2q mem
  have ok:=h.Laws.2 x mem
  have hn:=Xc L x.Name (by have:=ok.Name; unfold Len; omega) (by omega)
  have ht:=ok.t
  have tl:=fun s:Seen=>ZhD (f := Gp d L x) x.Terms (fun t s=>(ZfM d t,s)) (show x.Terms.length < L by omega) s (fun self s i t hx hi mem=>by
   rw [Gp]; simp only [Zk,Zc,cond_true,cond_false,Zg,ZA,Za,Zp,condC,Zj,Zi,Zm,ZO,ZY,ZH,hi,hx,ZzO L d t h hs,wrap_succ hi (by omega)]) (fun self s=>by rw [Gp]; simp only [Zk,Zc,cond_true,cond_false,Zg,ZA,Za,Zp,condC,Zj,Zi,Zm,ZO,ZY,ZH])
  simp only [EL] at tl
  rw [Gq]
  simp only [Zk,cond_true,Zg,ZA,ZH,Gl,hi,hx,hn]
  simp only [Zk,Zc,cond_true,cond_false,Zg,ZA,Za,Zp,condC,Zj,Zi,Zm,ZO,ZY,ZH,Z1H,tl,wrap_succ hi (by omega)]
  simp only [Y2,ZsD,SQ]
  by_cases a:(YD x.Name s).1=0 <;> by_cases b:x.Terms=[] <;> by_cases c:8 < (x.Terms.length:Int) <;> by_cases e:Yl (ZfM d) x.Terms=0 <;> rcases Bool.eq_false_or_eq_true (inB x.Total) with g | g <;> simp [a,b,c,e,g,ZA])
  (fun self s=>by rw [Gq]; simp only [Zk,Zc,cond_true,cond_false,Zg,ZA,Za,Zp,condC,Zj,Zi,Zm,ZO,ZY,ZH])
 rw [ZjV,H5 32 (fun l:Zfn=>Y2 l.Name (ZsD d l)) d.Laws [] lp,ZA]
 rfl
end Go.Proofs.YtgjcjbhhhlelnaaGreatDoor
end
section
namespace Go.Proofs.YtgjcjbhhhlelnaaGreatDoor
open Go Go.Proofs.YtgjcjbhhhlelnaaGreatDoor.Abs Go.Proofs.YtgjcjbhhhlelnaaGreatDoor.Tl
set_option maxRecDepth 100000
theorem Zuj (L:Nat)(a b:List WL)(h:a.length + b.length≤1000)(hL:2 < L):Yh L ([a,b],())=some (a ++ b):=by
 have w1:IntKind.i64.wrap (0 + (a.length:Int))=a.length:=by rw [Int.zero_add]; exact wrap_in (by omega) (by omega)
 have w2:IntKind.i64.wrap ((a.length:Int) + b.length)=(a.length:Int) + b.length:=wrap_in (by omega) (by omega)
 have n1:decide ((a.length:Int) < 0)=false:=by simp only [decide_eq_false_iff_not]; omega
 have n2:decide ((a.length:Int) + b.length < 0)=false:=by simp only [decide_eq_false_iff_not]; omega
 have g:Ztz [] ((a.length:Int) + b.length)=some []:=by unfold Ztz; rw [if_pos ⟨rfl,by omega,by omega⟩]
 have p1:apT 24 [] a=some a:=by unfold apT; rw [if_pos (by simp only [List.length_nil]; omega)]; rfl
 have p2:apT 24 a b=some (a ++ b):=by unfold apT; rw [if_pos (by omega)]
 rw [V7,Zf3 _ hL]
 simp only [WO,two,w01,ZA,cond_true,cond_false,w1,w2,n1,n2,g,Zf3 (Y8 _) hL,Y8,p1,p2]
theorem Z1x {α σ:Type}{f:(Int×σ×PUnit→Option Int)→Int×σ×PUnit→Option Int}(l:List α)(step:α→σ→Int×σ)(e:Int){m:Nat}(hm:l.length < m)(s:σ)
  (h1:∀ self s (i:Nat) x,l[i]? = some x→i < l.length→x ∈ l→f self ((i:Int),s,())=bif !decide ((step x s).1=0) then some (step x s).1 else self ((i:Int) + 1,(step x s).2,()))
  (h2:∀ self s,f self ((l.length:Int),s,())=some e):Zx f m (0,s,())=some (if decide ((YQ step l s).1≠0)=true then (YQ step l s).1 else e) :=
 Zj0 l (fun s i=>(i,s,())) (fun l s=>some (if decide ((YQ step l s).1≠0)=true then (YQ step l s).1 else e)) (fun self s i x r hx hi mem e=>by
  rw [h1 self s i x hx hi mem,e,YQ]
  by_cases c:(step x s).1=0 <;> simp [c]) (fun self s=>by rw [h2]; rfl) m 0 s (Nat.zero_le _) (by omega)
theorem Z07 {l:List WL}{x:WL}(h:x ∈ l):x.Name.length < SizeOf.sizeOf l:=by
 have:=List.sizeOf_lt_of_mem h
 have h2:=ZM x.Name
 have:SizeOf.sizeOf x.Name < SizeOf.sizeOf x:=by cases x; simp; omega
 omega
theorem Zv4 (r:ZX):SizeOf.sizeOf r.Name < SizeOf.sizeOf r∧SizeOf.sizeOf r.Params < SizeOf.sizeOf r∧SizeOf.sizeOf r.Locals < SizeOf.sizeOf r∧SizeOf.sizeOf r.Body < SizeOf.sizeOf r:=by cases r; simp; omega
theorem ZrT (L:Nat)(h1:100≤L)(r:ZX)(h:OA r)(hL:SizeOf.sizeOf r≤L):JF L (r,())=some (XJ r):=by
 have hz:=Zv4 r
 have hp:=h.p
 have hw:IntKind.i64.wrap ((r.Params.length:Int) + (r.Locals.length:Int))=(r.Params.length:Int) + (r.Locals.length:Int):=wrap_in (by omega) (by omega)
 rw [Zek,hw,XJ]
 by_cases hc:6 < (r.Params.length:Int)∨16 < (r.Params.length:Int) + (r.Locals.length:Int)
 ·rw [if_pos (by simpa using hc),show (decide ((r.Params.length:Int) > 6) || decide ((r.Params.length:Int) + (r.Locals.length:Int) > 16))=true by simpa using hc]; rfl
 ·have hf:(decide ((r.Params.length:Int) > 6) || decide ((r.Params.length:Int) + (r.Locals.length:Int) > 16))=false:=by
   simp only [Bool.or_eq_false_iff,decide_eq_false_iff_not]; omega
  have hf':¬ ((decide (6 < (r.Params.length:Int)) || decide (16 < (r.Params.length:Int) + (r.Locals.length:Int)))=true):=by simpa using hc
  rw [if_neg hf',hf,cond_false,Zuj L _ _ (by omega) (by omega),ZA]
  have hlen:(r.Params ++ r.Locals).length≤16:=by rw [List.length_append]; omega
  exact Z1x (f := VJ r L (r.Params ++ r.Locals)) (r.Params ++ r.Locals) (fun f:WL=>Y2 f.Name (ZdB f)) (Zb0 r.Body) (by omega) [] (fun self s i x hx hi mem=>by
   have ok:ZcL x∧x.Name.length < L:=by
    rcases List.mem_append.1 mem with m | m
    ·exact ⟨h.Params.2 x m,by have:=Z07 m; omega⟩
    ·exact ⟨h.Locals.2 x m,by have:=Z07 m; omega⟩
   have hn:=Xc L x.Name (by have:=ok.1.Name; unfold Len; omega) ok.2
   rw [VJ]
   simp only [Zk,cond_true,Zg,ZA,ZH,Gl,hi,hx,hn]
   simp only [Zk,Zc,cond_true,cond_false,Zg,ZA,Za,Zp,condC,Zj,Zi,Zm,ZO,ZY,ZH,ZnU,wrap_succ hi (by omega)]
   simp only [Y2,ZdB]
   by_cases a:(YD x.Name s).1=0 <;> rcases Bool.eq_false_or_eq_true (btw x.Ty 1 3) with g | g <;> simp [a,g]) (fun self s=>by
   rw [VJ]; simp only [Zk,Zc,cond_true,cond_false,Zg,ZA,Za,Zp,condC,Zj,Zi,Zm,ZO,ZY,ZH,Zur L h1 r.Body h.p.2.2 (by omega)])
theorem ZpQ {α:Type}[SizeOf α](g:α→List UInt8)(hg:∀ x,SizeOf.sizeOf (g x) < SizeOf.sizeOf x){l:List α}{x:α}(h:x ∈ l):(g x).length < SizeOf.sizeOf l∧SizeOf.sizeOf x < SizeOf.sizeOf l:=by
 have h1:=List.sizeOf_lt_of_mem h
 have h2:=ZM (g x)
 have h3:=hg x
 omega
theorem Zrm (L:Nat)(d:Ze)(h:d.Queues.length * 16≤140737488351232∧∀ y ∈ d.Queues,y.length≤140737488351232)(hL:SizeOf.sizeOf d.Queues≤L)(s:Seen):Zx (Gw d L) L (0,s,())=some ((YQ YD d.Queues s).1,(YQ YD d.Queues s).2,()):=by
 have hk:=ZM d.Queues
 refine ZhD d.Queues YD (by omega) s (fun self s i x hx hi mem=>?_) (fun self s=>by rw [Gw]; simp only [Zk,Zc,cond_true,cond_false,Zg,ZA,Za,Zp,condC,Zj,Zi,Zm,ZO,ZY,ZH])
 have h1:=List.sizeOf_lt_of_mem mem
 have hn:=Xc L x (by have:=h.2 x mem; unfold Len; omega) (by have:=ZM x; omega)
 rw [Gw]
 simp only [Zk,cond_true,Zg,ZA,ZH,Gl,hi,hx,hn]
 simp only [Zk,Zc,cond_true,cond_false,Zg,ZA,Za,Zp,condC,Zj,Zi,Zm,ZO,ZY,ZH,wrap_succ hi (by omega)]
theorem ZyO (L:Nat)(d:Ze)(h:ZL d)(hL:SizeOf.sizeOf d≤L)(s:Seen):Zx (Gs d L) L (0,s,())=some ((YQ (fun v:Je=>Y2 v.Name (Rz v)) d.Vars s).1,(YQ (fun v:Je=>Y2 v.Name (Rz v)) d.Vars s).2,()):=by
 have hz:=JC d
 have hs:=Sh.of hL
 have hl:=h.Vars.1
 refine ZhD d.Vars _ hs.vars s (fun self s i x hx hi mem=>?_) (fun self s=>by rw [Gs]; simp only [Zk,Zc,cond_true,cond_false,Zg,ZA,Za,Zp,condC,Zj,Zi,Zm,ZO,ZY,ZH])
 have hm:=ZpQ (fun v:Je=>v.Name) (fun x=>by cases x; simp; omega) mem
 have hn:=Xc L x.Name (by have:=(h.Vars.2 x mem).Name; unfold Len; omega) (by omega)
 rw [Gs]
 simp only [Zk,cond_true,Zg,ZA,ZH,Gl,hi,hx,hn]
 simp only [Zk,Zc,cond_true,cond_false,Zg,ZA,Za,Zp,condC,Zj,Zi,Zm,ZO,ZY,ZH,ZnU,Zvu,wrap_succ hi (by omega)]
 simp only [Y2,Rz]
 by_cases a:(YD x.Name s).1=0 <;> rcases Bool.eq_false_or_eq_true (btw x.Ty 1 3) with g | g <;> rcases Bool.eq_false_or_eq_true (fitsT x.Ty x.N) with g' | g' <;> simp [a,g,g']
theorem Z1q (L:Nat)(h1:100≤L)(d:Ze)(h:ZL d)(hL:SizeOf.sizeOf d≤L)(s:Seen):Zx (Gt d L) L (0,s,())=some ((YQ (fun v:Z4=>Y2 v.Name (Zpz d v)) d.Resources s).1,(YQ (fun v:Z4=>Y2 v.Name (Zpz d v)) d.Resources s).2,()):=by
 have hz:=JC d
 have hs:=Sh.of hL
 have hl:=h.Resources.1
 refine ZhD d.Resources _ hs.res s (fun self s i x hx hi mem=>?_) (fun self s=>by rw [Gt]; simp only [Zk,Zc,cond_true,cond_false,Zg,ZA,Za,Zp,condC,Zj,Zi,Zm,ZO,ZY,ZH])
 have hm:=ZpQ (fun v:Z4=>v.Name) (fun x=>by cases x; simp; omega) mem
 have ok:=h.Resources.2 x mem
 have hx2:SizeOf.sizeOf x.Fault < SizeOf.sizeOf x∧SizeOf.sizeOf x.Shift < SizeOf.sizeOf x:=by cases x; simp; omega
 have hsh:=ZM x.Shift
 have hn:=Xc L x.Name (by have:=ok.Name; unfold Len; omega) (by omega)
 rw [Gt]
 simp only [Zk,cond_true,Zg,ZA,ZH,Gl,hi,hx,hn]
 simp only [Zk,Zc,cond_true,cond_false,Zg,ZA,Za,Zp,condC,Zj,Zi,Zm,ZO,ZY,ZH,UL,Zpf L x ok (by omega),ZoZ L d h hL x.Fault ok.Fault (by omega) h1,wrap_succ hi (by omega)]
 simp only [Y2,Zpz]
 by_cases a:(YD x.Name s).1=0 <;> rcases Bool.eq_false_or_eq_true (btw x.Units 0 1000) with g | g <;> by_cases b:ZsI x=0 <;> simp [a,g,b]
theorem Z1t (L:Nat)(d:Ze)(h:ZL d)(hL:SizeOf.sizeOf d≤L)(s:Seen):Zx (Gu d L) L (0,s,())=some ((YQ (fun v:Y0=>Y2 v.Name (Rt v)) d.Stores s).1,(YQ (fun v:Y0=>Y2 v.Name (Rt v)) d.Stores s).2,()):=by
 have hz:=JC d
 have hs:=Sh.of hL
 have hl:=h.Stores.1
 refine ZhD d.Stores _ hs.sto s (fun self s i x hx hi mem=>?_) (fun self s=>by rw [Gu]; simp only [Zk,Zc,cond_true,cond_false,Zg,ZA,Za,Zp,condC,Zj,Zi,Zm,ZO,ZY,ZH])
 have hm:=ZpQ (fun v:Y0=>v.Name) (fun x=>by cases x; simp; omega) mem
 have hn:=Xc L x.Name (by have:=(h.Stores.2 x mem).Name; unfold Len; omega) (by omega)
 rw [Gu]
 simp only [Zk,cond_true,Zg,ZA,ZH,Gl,hi,hx,hn]
 simp only [Zk,Zc,cond_true,cond_false,Zg,ZA,Za,Zp,condC,Zj,Zi,Zm,ZO,ZY,ZH,UL,wrap_succ hi (by omega)]
 simp only [Y2,Rt]
 by_cases a:(YD x.Name s).1=0 <;> rcases Bool.eq_false_or_eq_true (btw x.Room 1 1000) with g | g <;> by_cases b:x.Policy < 1 <;> by_cases c:3 < x.Policy <;> simp [a,g,b,c]
theorem Z1o (L:Nat)(d:Ze)(h:ZL d)(hL:SizeOf.sizeOf d≤L)(s:Seen):Zx (Gv d L) L (0,s,())=some ((YQ (fun v:Wn=>Y2 v.Name (Zcf v)) d.Belts s).1,(YQ (fun v:Wn=>Y2 v.Name (Zcf v)) d.Belts s).2,()):=by
 have hz:=JC d
 have hs:=Sh.of hL
 have hl:=h.Belts.1
 refine ZhD d.Belts _ hs.bel s (fun self s i x hx hi mem=>?_) (fun self s=>by rw [Gv]; simp only [Zk,Zc,cond_true,cond_false,Zg,ZA,Za,Zp,condC,Zj,Zi,Zm,ZO,ZY,ZH])
 have hm:=ZpQ (fun v:Wn=>v.Name) (fun x=>by cases x; simp; omega) mem
 have hn:=Xc L x.Name (by have:=(h.Belts.2 x mem).Name; unfold Len; omega) (by omega)
 rw [Gv]
 simp only [Zk,cond_true,Zg,ZA,ZH,Gl,hi,hx,hn]
 simp only [Zk,Zc,cond_true,cond_false,Zg,ZA,Za,Zp,condC,Zj,Zi,Zm,ZO,ZY,ZH,UL,wrap_succ hi (by omega)]
 simp only [Y2,Zcf]
 by_cases a:(YD x.Name s).1=0 <;> rcases Bool.eq_false_or_eq_true (btw x.Length 1 1000) with g | g <;> rcases Bool.eq_false_or_eq_true (btw x.Step 1 1000) with g' | g' <;> simp [a,g,g']
theorem Z1r (L:Nat)(h1:100≤L)(d:Ze)(h:ZL d)(hL:SizeOf.sizeOf d≤L)(s:Seen):Zx (Gx d L) L (0,s,())=some ((YQ (fun v:ZX=>Y2 v.Name (XJ v)) d.Routines s).1,(YQ (fun v:ZX=>Y2 v.Name (XJ v)) d.Routines s).2,()):=by
 have hz:=JC d
 have hs:=Sh.of hL
 have hl:=h.Routines.1
 refine ZhD d.Routines _ hs.rou s (fun self s i x hx hi mem=>?_) (fun self s=>by rw [Gx]; simp only [Zk,Zc,cond_true,cond_false,Zg,ZA,Za,Zp,condC,Zj,Zi,Zm,ZO,ZY,ZH])
 have hm:=ZpQ (fun v:ZX=>v.Name) (fun x=>by cases x; simp; omega) mem
 have ok:=h.Routines.2 x mem
 have hn:=Xc L x.Name (by have:=ok.Name; unfold Len; omega) (by omega)
 rw [Gx]
 simp only [Zk,cond_true,Zg,ZA,ZH,Gl,hi,hx,hn]
 simp only [Zk,Zc,cond_true,cond_false,Zg,ZA,Za,Zp,condC,Zj,Zi,Zm,ZO,ZY,ZH,ZrT L h1 x ok (by omega),wrap_succ hi (by omega)]
 simp only [Y2]
 by_cases a:(YD x.Name s).1=0 <;> simp [a]
theorem Z1s (L:Nat)(d:Ze)(h:ZL d)(hL:SizeOf.sizeOf d≤L)(s:Seen):Zx (X5 d L) L (0,s,())=some (Yl (Jj d) d.Starts,s,()):=by
 have hz:=JC d
 have hs:=Sh.of hL
 have hl:=h.Starts.1
 have:=ZhD (f := X5 d L) d.Starts (fun x s=>(Jj d x,s)) hs.sta s (fun self s i x hx hi mem=>by
  have hm:=ZpQ (fun v:XB=>v.Routine) (fun x=>by cases x; simp; omega) mem
  have hx2:SizeOf.sizeOf x.Args < SizeOf.sizeOf x:=by cases x; simp; omega
  have ha:=ZM x.Args
  rw [X5]
  simp only [Zk,Zc,cond_true,cond_false,Zg,ZA,Za,Zp,condC,Zj,Zi,Zm,ZO,ZY,ZH,hi,hx,Zxk L d h hs.rou x (h.Starts.2 x mem) (by omega),wrap_succ hi (by omega)]) (fun self s=>by rw [X5]; simp only [Zk,Zc,cond_true,cond_false,Zg,ZA,Za,Zp,condC,Zj,Zi,Zm,ZO,ZY,ZH])
 rw [EL] at this
 exact this
theorem Dq {σ:Type}(P:Int×σ)(r:List (σ→Int×σ)){X:Option (Int×σ×PUnit)}(h:X=some ((Py r P.2).1,(Py r P.2).2,()))(f:σ→Int×σ)(s:σ)(hP:f s=P):(bif P.1 != 0 then some (P.1,P.2,()) else X)=some ((Py (f :: r) s).1,(Py (f :: r) s).2,()):=by
 subst h; subst hP
 rw [Py]
 by_cases c:(f s).1=0 <;> simp [c,ZH]
theorem ZzN (L:Nat)(h1:100≤L)(d:Ze)(h:ZL d)(hL:SizeOf.sizeOf d≤L):Oh L (d,())=some (Zi3 d):=by
 have hz:=JC d
 have e0:=fun s=>H5 32 (fun v:Je=>Y2 v.Name (Rz v)) d.Vars s (ZyO L d h hL s)
 have e1:=fun s=>H5 32 (fun v:Z4=>Y2 v.Name (Zpz d v)) d.Resources s (Z1q L h1 d h hL s)
 have e2:=fun s=>H5 32 (fun v:Y0=>Y2 v.Name (Rt v)) d.Stores s (Z1t L d h hL s)
 have e3:=fun s=>H5 32 (fun v:Wn=>Y2 v.Name (Zcf v)) d.Belts s (Z1o L d h hL s)
 have e4:=fun s=>H5 32 YD d.Queues s (Zrm L d h.Queues (by omega) s)
 have e5:=fun s:Seen=>H5 32 YD d.Streams s (show Zx (Fq d L) L (0,s,())=_ from Zrm L { d with Queues:=d.Streams } h.Streams (show SizeOf.sizeOf d.Streams≤L by omega) s)
 have e6:=fun s:Seen=>H5 32 YD d.Tallies s (show Zx (Fv d L) L (0,s,())=_ from Zrm L { d with Queues:=d.Tallies } h.Tallies (show SizeOf.sizeOf d.Tallies≤L by omega) s)
 have e7:=fun s:Seen=>H5 32 YD d.Levels s (show Zx (Fz d L) L (0,s,())=_ from Zrm L { d with Queues:=d.Levels } h.Levels (show SizeOf.sizeOf d.Levels≤L by omega) s)
 have e8:=fun s:Seen=>H5 32 YD d.Counts s (show Zx (F5 d L) L (0,s,())=_ from Zrm L { d with Queues:=d.Counts } h.Counts (show SizeOf.sizeOf d.Counts≤L by omega) s)
 have e9:=fun s=>H5 16 (fun v:ZX=>Y2 v.Name (XJ v)) d.Routines s (Z1r L h1 d h hL s)
 have ea:∀ s:Seen,(bif decide ((d.Starts.length:Int) > 32) then some (6,s,()) else Zx (X5 d L) L (0,s,()))=some (SQ 32 (Jj d) d.Starts,s,()):=fun s=>by
  rw [Z1s L d h hL s]; unfold SQ; by_cases c:32 < (d.Starts.length:Int) <;> simp [c]
 rw [ZjW]
 simp only [e0,e1,e2,e3,e4,e5,e6,e7,e8,e9,ea,ZA,ZzJ L d h hL]
 have fin:∀ s:Seen,(bif PM d != 0 then some (PM d,s,()) else some (0,s,()))=some ((Py [fun s:Seen=>(PM d,s)] s).1,(Py [fun s:Seen=>(PM d,s)] s).2,()):=fun s=>by
  rw [Py,Py,ZH]; by_cases c:PM d=0 <;> simp [c]
 have key:=Dq _ _ (Dq _ _ (Dq _ _ (Dq _ _ (Dq _ _ (Dq _ _ (Dq _ _ (Dq _ _ (Dq _ _ (Dq _ _ (Dq (SQ 32 (Jj d) d.Starts,_) _ (fin _) (fun s=>(SQ 32 (Jj d) d.Starts,s)) _ rfl) (Xr 16 (fun v:ZX=>Y2 v.Name (XJ v)) d.Routines) _ rfl) (Xr 32 YD d.Counts) _ rfl) (Xr 32 YD d.Levels) _ rfl) (Xr 32 YD d.Tallies) _ rfl) (Xr 32 YD d.Streams) _ rfl) (Xr 32 YD d.Queues) _ rfl) (Xr 32 (fun v:Wn=>Y2 v.Name (Zcf v)) d.Belts) _ rfl) (Xr 32 (fun v:Y0=>Y2 v.Name (Rt v)) d.Stores) _ rfl) (Xr 32 (fun v:Z4=>Y2 v.Name (Zpz d v)) d.Resources) _ rfl) (Xr 32 (fun v:Je=>Y2 v.Name (Rz v)) d.Vars) ([]:Seen) rfl
 exact (congrArg (fun o:Option (Int×Seen×PUnit)=>bT o fun y=>some y.1) key).trans rfl
end Go.Proofs.YtgjcjbhhhlelnaaGreatDoor
end
section
namespace Go.Proofs.YtgjcjbhhhlelnaaGreatDoor
open Go Go.Proofs.YtgjcjbhhhlelnaaGreatDoor.Abs Go.Proofs.YtgjcjbhhhlelnaaGreatDoor.Tl
set_option maxRecDepth 100000
def M1 (n:List UInt8)(d:Ze):Int:=if decide (VS n≠0)=true then VS n else (Y2 d.Name (Zi3 d) []).1
theorem one1 {α:Type}(a:α):ZT [a] 0=some a∧decide ((0:Int) < (([a].length:Nat):Int))=true∧decide ((1:Int) < (([a].length:Nat):Int))=false∧decide ((([a].length:Nat):Int) > 16)=false∧decide ((([a].length:Nat):Int)=0)=false∧decide ((([a].length:Nat):Int) > 0)=true∧decide ((([a].length:Nat):Int)≤16)=true :=
 ⟨Zg [a] 0,by simp,by simp,by simp,by simp,by simp,by simp⟩
theorem ZxR (α:Type):decide ((0:Int) < ((([]:List α).length:Nat):Int))=false∧decide (((([]:List α).length:Nat):Int) > 32)=false∧decide (((([]:List α).length:Nat):Int)≤32)=true:=⟨rfl,rfl,rfl⟩
theorem Zuo (L:Nat)(h1:100≤L)(n:List UInt8)(hn:n.length≤140737488351232)(hnL:n.length < L)(d:Ze)(h:ZL d)(hL:SizeOf.sizeOf d≤L):G8 L (⟨n,[],[d],[]⟩,())=some (M1 n d):=by
 have hs:=Sh.of hL
 have e1:=Xc L n (by unfold Len; omega) hnL
 have e2:=Xc L d.Name (by have:=h.Name; unfold Len; omega) hs.nm
 have e3:G9 L (⟨n,[],[d],[]⟩,())=some 0:=by
  rw [Zic,Zf3 _ (show 2 < L by omega)]
  simp only [NG,ZxR,cond_false,ZA]
 have e4:Zx (O6 ⟨n,[],[d],[]⟩ L) L (0,[],())=some (0,[],()):=by
  rw [Zf3 _ (show 2 < L by omega)]
  simp only [O6,ZxR,cond_false]
 rw [Zia]
 simp only [Zf3 (O7 ⟨n,[],[d],[]⟩ L) (show 2 < L by omega),O7,one1,ZxR,w01,e1,e2,e3,e4,Gl,ZA,cond_true,cond_false,ZH,ZO,ZzN L h1 d h hL]
 simp only [M1,Y2]
 by_cases a:VS n=0 <;> by_cases b:(YD d.Name []).1=0 <;> by_cases c:Zi3 d=0 <;> simp [a,b,c,ZA]
theorem UM (L:Nat)(a b c:Int):ZR L (a,b,c,())=some (btw a b c):=Zkd L a b c
theorem Uh (L:Nat)(a b:Int):ZG L (a,b,())=some (Wl a b):=by
 simp only [Zk,Zc,cond_true,cond_false,Zg,ZA,Za,Zp,condC,Zj,Zi,Zm,ZO,ZY,ZH,Zmi,Wl]; simp only [Yt,X4,if_true,if_false,Bool.false_eq_true,ne_eq,decide_not,gt_iff_lt,ge_iff_le]
theorem Vq (L:Nat)(a:Bool)(b:Int):Zt L (a,b,())=some (Y9 a b):=by
 simp only [Zk,Zc,cond_true,cond_false,Zg,ZA,Za,Zp,condC,Zj,Zi,Zm,ZO,ZY,ZH,Zkc,Y9]; simp only [Yt,X4,if_true,if_false,Bool.false_eq_true,ne_eq,decide_not,gt_iff_lt,ge_iff_le]
theorem ZrK (L:Nat)(t:Int):IB L (t,())=some (ZkH t):=Zmh L t
theorem Zvt (L:Nat)(t n:Int):Tn L (t,n,())=some (fitsT t n):=by
 simp only [Zk,Zc,cond_true,cond_false,Zg,ZA,Za,Zp,condC,Zj,Zi,Zm,ZO,ZY,ZH,Zpp,Zxg,UM,fitsT]; simp only [Yt,X4,if_true,if_false,Bool.false_eq_true,ne_eq,decide_not,gt_iff_lt,ge_iff_le]
theorem Zn7 (s:List UInt8)(l:List (List UInt8)):decide (H7 (fun k=>decide (k=s)) l 0 < 0)=!(l.contains s):=by
 have:=ZdJ (fun x:List UInt8=>x) s l
 rw [List.map_id'] at this
 rw [← this,show decide (H7 (fun k=>decide (k=s)) l 0 < 0)=!decide (H7 (fun k=>decide (k=s)) l 0 ≥ 0) by rw [← decide_not]; congr 1; exact propext Int.not_le.symm]
theorem Zc8 (L:Nat)(h1:100≤L)(s:List UInt8)(seen:Seen)(hs:Len s)(hsL:s.length < L)(hl:Len seen)(hL:seen.length < L):Ja L (s,seen,())=some (Zb4 s seen):=by
 simp only [Zk,Zc,cond_true,cond_false,Zg,ZA,Za,Zp,condC,Zj,Zi,Zm,ZO,ZY,ZH,Zmk,Ui L s hs hsL h1,ZjC L seen s hl hL,Vq,Uh,Zn7,Zb4]
theorem apS {l:List (List UInt8)}{a:List UInt8}(h:l.length≤8000000000000):apT 16 l [a]=some (l ++ [a]):=by unfold apT; rw [if_pos (by simp only [List.length_cons,List.length_nil]; omega)]
theorem Zru {α τ ρ:Type}{f:(τ→Option ρ)→τ→Option ρ}(l:List α)(nm:α→List UInt8)(pk:List (List UInt8)→Int→τ)(o:Option ρ){m:Nat}(hm:l.length < m)
  (h1:∀ self s (i:Nat) x,l[i]? = some x→i < l.length→s.length≤i→f self (pk s i)=self (pk (s ++ [nm x]) ((i:Int) + 1)))
  (h2:∀ self,f self (pk (l.map nm) (l.length:Nat))=o):Zx f m (pk [] 0)=o:=by
 have key:∀ (m i:Nat),i≤l.length→l.length - i < m→Zx f m (pk ((l.take i).map nm) i)=o:=by
  intro m
  induction m with
  | zero=>intro i _ h; exact absurd h (Nat.not_lt_zero _)
  | succ m ih =>
   intro i hi hm
   show f (Zx f m) _=_
   rcases Nat.lt_or_ge i l.length with hlt | hge
   ·have hx:=List.getElem?_eq_getElem hlt
    rw [h1 _ _ i _ hx hlt (by rw [List.length_map,List.length_take]; omega),← ih (i + 1) hlt (by omega)]
    rw [List.take_succ,hx,List.map_append]; rfl
   ·have:i=l.length:=by omega
    subst this
    rw [List.take_length,h2]
 exact key m 0 (Nat.zero_le _) (by omega)
theorem ZlD (L:Nat)(d:Ze)(h:ZL d)(hs:Sh L d):Uo L (d,())=some ((VF d).map (·.2)):=by
 have a1:=h.Vars.1; have a2:=h.Resources.1; have a3:=h.Stores.1; have a4:=h.Belts.1; have a5:=h.Routines.1
 rw [Zmg]
 refine Zru d.Vars (·.Name) (fun s i=>(i,s,[],[],[],[],[],[],[],[],[],())) _ hs.vars (fun self s i x hx hi hsl=>by
  rw [Dh]; simp only [Zk,Zc,cond_true,cond_false,Zg,ZA,Za,Zp,condC,Zj,Zi,Zm,ZO,ZY,ZH,hi,hx,wrap_succ hi (by omega),apS (show s.length≤8000000000000 by omega)]) (fun self=>?_)
 rw [Dh]; simp only [Zk,Zc,cond_true,cond_false,Zg,ZA,Za,Zp,condC,Zj,Zi,Zm,ZO,ZY,ZH]
 refine Zru d.Resources (·.Name) (fun s i=>(i,_,s,[],[],[],[],[],[],[],[],())) _ hs.res (fun self s i x hx hi hsl=>by
  rw [Df]; simp only [Zk,Zc,cond_true,cond_false,Zg,ZA,Za,Zp,condC,Zj,Zi,Zm,ZO,ZY,ZH,hi,hx,wrap_succ hi (by omega),apS (show s.length≤8000000000000 by omega)]) (fun self=>?_)
 rw [Df]; simp only [Zk,Zc,cond_true,cond_false,Zg,ZA,Za,Zp,condC,Zj,Zi,Zm,ZO,ZY,ZH]
 refine Zru d.Stores (·.Name) (fun s i=>(i,_,_,s,[],[],[],[],[],[],[],())) _ hs.sto (fun self s i x hx hi hsl=>by
  rw [Dc]; simp only [Zk,Zc,cond_true,cond_false,Zg,ZA,Za,Zp,condC,Zj,Zi,Zm,ZO,ZY,ZH,hi,hx,wrap_succ hi (by omega),apS (show s.length≤8000000000000 by omega)]) (fun self=>?_)
 rw [Dc]; simp only [Zk,Zc,cond_true,cond_false,Zg,ZA,Za,Zp,condC,Zj,Zi,Zm,ZO,ZY,ZH]
 refine Zru d.Belts (·.Name) (fun s i=>(i,_,_,_,s,[],[],[],[],[],[],())) _ hs.bel (fun self s i x hx hi hsl=>by
  rw [BZ]; simp only [Zk,Zc,cond_true,cond_false,Zg,ZA,Za,Zp,condC,Zj,Zi,Zm,ZO,ZY,ZH,hi,hx,wrap_succ hi (by omega),apS (show s.length≤8000000000000 by omega)]) (fun self=>?_)
 rw [BZ]; simp only [Zk,Zc,cond_true,cond_false,Zg,ZA,Za,Zp,condC,Zj,Zi,Zm,ZO,ZY,ZH]
 refine Zru d.Routines (·.Name) (fun s i=>(i,_,_,_,_,_,_,_,_,_,s,())) _ hs.rou (fun self s i x hx hi hsl=>by
  rw [BX]; simp only [Zk,Zc,cond_true,cond_false,Zg,ZA,Za,Zp,condC,Zj,Zi,Zm,ZO,ZY,ZH,hi,hx,wrap_succ hi (by omega),apS (show s.length≤8000000000000 by omega)]) (fun self=>?_)
 rw [BX]; simp only [Zk,Zc,cond_true,cond_false,Zg,ZA,Za,Zp,condC,Zj,Zi,Zm,ZO,ZY,ZH]
 rfl
end Go.Proofs.YtgjcjbhhhlelnaaGreatDoor
end
section
namespace Go.Proofs.YtgjcjbhhhlelnaaGreatDoor
open Go Go.Proofs.YtgjcjbhhhlelnaaGreatDoor.Abs Go.Proofs.YtgjcjbhhhlelnaaGreatDoor.Tl
set_option maxRecDepth 100000
theorem Zjy (L:Nat)(d:Ze)(h:ZL d)(hs:Sh L d):∀ p ∈ VF d,Len p.2∧p.2.length < L:=by
 have a1:=h.Vars.1; have a2:=h.Resources.1; have a3:=h.Stores.1; have a4:=h.Belts.1; have a5:=h.Routines.1
 have b1:=h.Queues.1; have b2:=h.Streams.1; have b3:=h.Tallies.1; have b4:=h.Levels.1; have b5:=h.Counts.1
 obtain ⟨c1,c2,c3,c4,c5,c6,c7,c8,c9,c10,c11,c12,c13⟩:=hs
 intro p hp
 simp only [VF,List.mem_cons,List.not_mem_nil,or_false] at hp
 unfold Len
 rcases hp with rfl | rfl | rfl | rfl | rfl | rfl | rfl | rfl | rfl | rfl <;> simp only [List.length_map] <;> omega
theorem Zwl (s:List UInt8)(l:List (List UInt8)):decide (H7 (fun k=>decide (k=s)) l 0 ≥ 0)=l.contains s:=by
 have:=ZdJ (fun x:List UInt8=>x) s l
 rwa [List.map_id'] at this
theorem ZzA (L:Nat)(d:Ze)(h:ZL d)(hs:Sh L d)(hL:100≤L)(s:List UInt8):Xh L (d,s,())=some (OT s (VF d)):=by
 rw [Zpq,ZlD L d h hs,ZA]
 have lp:=Zf5 (f := MI s L ((VF d).map (·.2))) ((VF d).map (·.2)) ((VF d).map (·.1)) (by simp) (fun l l'=>some (OT s (l'.zip l))) (m := L) (show 10 < L by omega) (fun self i x y r r' hx hy hi mem e=>by
  have hi2:i < 10:=hi
  obtain ⟨p,hp,rfl⟩:=List.mem_map.1 mem
  have hk:=Zjy L d h hs p hp
  have hy':[[118,97,114],[114,101,115,111,117,114,99,101],[115,116,111,114,101],[98,101,108,116],[113,117,101,117,101],[115,116,114,101,97,109],[116,97,108,108,121],[108,101,118,101,108],[99,111,117,110,116],[114,111,117,116,105,110,101]][i]? = some y:=hy
  rw [MI]
  simp only [Zk,Zc,cond_true,cond_false,Zg,ZA,Za,Zp,condC,Zj,Zi,Zm,ZO,ZY,ZH,hi,hx,ZjC L p.2 s hk.1 hk.2,Zwl]
  rw [wrap_in (by omega) (by omega),e]
  simp only [hy',ZA,Zm,List.zip_cons_cons,OT]; simp only [Yt,X4,if_true,if_false,Bool.false_eq_true,ne_eq,decide_not,gt_iff_lt,ge_iff_le]) (fun self=>by rw [MI]; simp only [Zk,Zc,cond_true,cond_false,Zg,ZA,Za,Zp,condC,Zj,Zi,Zm,ZO,ZY,ZH,List.zip_nil_right,OT])
 rw [lp]
 congr 2
theorem ZaF (d:Ze)(h:(Py ((X9 d).map stepD) []).1=0)(nm:List UInt8)(p:List UInt8×List (List UInt8))(hp:p ∈ VF d):decide (OT nm (VF d)=p.1)=p.2.contains nm:=by
 have key:OT nm (VF d)=p.1↔nm ∈ p.2:=by
  refine Zgs nm (VF d) ?_ ?_ ?_ p hp
  ·have:=(Zv0 _ _ h).1
   have h2:((X9 d).map Zcm).Pairwise (fun a b=>∀ x ∈ a,x ∉ b):=List.pairwise_map.2 this
   rw [← ZnB] at h2
   exact List.pairwise_map.1 h2
  ·simp only [VF,List.map_cons,List.map_nil]; decide
  ·simp only [VF,List.map_cons,List.map_nil]; decide
 rw [← List.contains_iff_mem] at key
 by_cases c:OT nm (VF d)=p.1
 ·rw [key.1 c]; simp [c]
 ·have:p.2.contains nm=false:=by
   rw [← Bool.not_eq_true]; exact fun e=>c (key.2 e)
  rw [this]; simp [c]
theorem ZuI (t:OB)(b:Bool):Wl (Wl (Y9 true 1) (Y9 b 5)) (Y9 (btw t.Coef (-1000) 1000 && !decide (t.Coef=0)) 2)=ZfN t b:=by
 unfold ZfN
 rcases Bool.eq_false_or_eq_true (btw t.Coef (-1000) 1000) with h3 | h3 <;> by_cases c:t.Coef=0 <;> cases b <;> simp [Wl,Y9,c,h3]
theorem Zxj (L:Nat)(d:Ze)(h:ZL d)(hs:Sh L d)(hL:100≤L)(hd:(Py ((X9 d).map stepD) []).1=0)(t:OB):PG L (d,t,())=some (ZfM d t):=by
 have hR:=ZaF d hd t.Name ([114,111,117,116,105,110,101],d.Routines.map (·.Name)) (by simp [VF])
 have hS:=ZaF d hd t.Name ([115,116,111,114,101],d.Stores.map (·.Name)) (by simp [VF])
 have hQ:=ZaF d hd t.Name ([99,111,117,110,116],d.Counts) (by simp [VF])
 simp only at hR hS hQ
 have z:∀ x,Wl (Wl (Y9 false 1) x)=fun _=>1:=fun x=>by funext y; simp [Wl,Y9]
 simp only [Zk,Zc,cond_true,cond_false,Zg,ZA,Za,Zp,condC,Zj,Zi,Zm,ZO,ZY,ZH,Zps,Vq,Uh,ZzA L d h hs hL,UM,hR,hS,hQ,reduceCtorEq,decide_false,decide_true,Bool.not_false,Bool.not_true,ZuI,z,ZfM]
 simp only [Yt,X4,if_true,if_false,Bool.false_eq_true,ne_eq,decide_not,gt_iff_lt,ge_iff_le]
theorem Zn1 (a b c:Int):Wl (Wl a b) c=Wl a (Wl b c):=by
 unfold Wl
 by_cases h:a=0 <;> by_cases h2:b=0 <;> simp [h,h2]
theorem Ztn {α:Type}(f:α→Int)(x:α)(r:List α):Wl (f x) (Yl f r)=Yl f (x :: r):=by
 unfold Wl; rw [Yl]
theorem Zto (a:Int):Wl a 0=a:=by unfold Wl; by_cases h:a=0 <;> simp [h]
theorem Z1I (L:Nat)(d:Ze)(h:ZL d)(hs:Sh L d)(hL:100≤L)(hd:(Py ((X9 d).map stepD) []).1=0)(l:Zfn)(ok:ZpT l)(hl:l.Terms.length < L)(hn:l.Name.length < L)(seen:Seen)(h1:Len seen)(h2:seen.length < L):CZ L (d,l,seen,())=some (Y2 l.Name (ZsD d l) seen).1:=by
 have ht:=ok.t
 have lp:=fun n=>Zcl (f := Po d l L) l.Terms (fun r n=>some (Wl (Wl n (Yl (ZfM d) r)) (Y9 (inB l.Total) 2))) hl n (fun self n i x r hx hi mem e=>by
  rw [Po]; simp only [Zk,Zc,cond_true,cond_false,Zg,ZA,Za,Zp,condC,Zj,Zi,Zm,ZO,ZY,ZH,hi,hx,Zxj L d h hs hL hd x,Uh,wrap_succ hi (by omega),e,Zn1,← Ztn]) (fun self n=>by
  rw [Po]; simp only [Zk,Zc,cond_true,cond_false,Zg,ZA,Za,Zp,condC,Zj,Zi,Zm,ZO,ZY,ZH,Zxg,Vq,Uh,Yl,Zto])
 simp only [Zk,Zc,cond_true,cond_false,Zg,ZA,Za,Zp,condC,Zj,Zi,Zm,ZO,ZY,ZH,Zsh,Zc8 L hL l.Name seen (by have:=ok.Name; unfold Len; omega) hn h1 h2,Vq,Uh,lp]
 rw [Zfg]
 simp only [Zn1]
 congr 2
 unfold ZsD SQ
 by_cases a:l.Terms=[] <;> by_cases b:8 < (l.Terms.length:Int) <;> by_cases c:Yl (ZfM d) l.Terms=0 <;> rcases Bool.eq_false_or_eq_true (inB l.Total) with g | g <;> simp [a,b,c,g,Wl,Y9]
theorem Zn6 {α:Type}(nm:α→List UInt8)(s:List UInt8):∀ (l:List α) (i:Int),H7 (fun k=>decide (k=s)) (l.map nm) i=H7 (fun x=>decide (nm x=s)) l i
 | [],_=>rfl
 | x :: l,i=>by simp only [List.map_cons,H7,Zn6 nm s l]
theorem Zpc (L:Nat)(d:Ze)(h:ZL d)(hs:Sh L d)(s:List UInt8):GK L (d,s,())=some (H7 (fun r:ZX=>decide (r.Name=s)) d.Routines 0):=by
 have hk:=Zjy L d h hs ([114,111,117,116,105,110,101],d.Routines.map (·.Name)) (by simp [VF])
 rw [Zih,ZlD L d h hs,ZA,show ZT ((VF d).map (·.2)) 9=some (d.Routines.map (·.Name)) from Zg _ 9,ZA,ZjC L _ s hk.1 hk.2,ZA,Zn6]
theorem Zpy (L:Nat)(s:XB)(r:ZX)(hp:r.Params.length≤4611686018427387)(he:r.Params.length=s.Args.length)(hL:r.Params.length < L):Zx (IX s L r) L (0,())=some (RH (ZbL s) r.Params s.Args):=by
 refine Zf5 r.Params s.Args he (fun p a=>some (RH (ZbL s) p a)) hL (fun self i x y q q' hx hy hi _ e=>?_) (fun self=>?_)
 ·rw [IX]; simp only [Zk,Zc,cond_true,cond_false,Zg,ZA,Za,Zp,condC,Zj,Zi,Zm,ZO,ZY,ZH,hi,hx,hy,Zvt,wrap_succ hi (by omega),e,RH]; simp only [Yt,X4,if_true,if_false,Bool.false_eq_true,ne_eq,decide_not,gt_iff_lt,ge_iff_le]
 ·rw [IX,← Zs3]; simp only [Zk,Zc,cond_true,cond_false,Zg,ZA,Za,Zp,condC,Zj,Zi,Zm,ZO,ZY,ZH,UM,Vq,RH,ZmX]; simp only [Yt,X4,if_true,if_false,Bool.false_eq_true,ne_eq,decide_not,gt_iff_lt,ge_iff_le]
theorem Zuq (L:Nat)(d:Ze)(h:ZL d)(hs:Sh L d)(s:XB)(hs':Sj s)(hsL:s.Args.length < L):L9 L (d,s,())=some (Jj d s):=by
 rw [Zml,Zpc L d h hs s.Routine,ZA,Jj]
 rcases Zc4 (fun r:ZX=>decide (r.Name=s.Routine)) d.Routines 0 with ⟨a,b⟩ | ⟨k,r,a,b,c⟩
 ·rw [a,b]; rfl
 ·have ok:=h.Routines.2 r (List.mem_of_getElem? c)
  rw [a,b,Int.zero_add,show decide ((k:Int) < 0)=false by simp only [decide_eq_false_iff_not]; omega,cond_false,Zg,c,ZA]
  simp only
  rcases ZxO s.Args r.Params with ⟨e1,e2⟩ | ⟨e1,e2⟩
  ·rw [Zpy L s r ok.p.1 e1.symm (by omega),ZH,e2]; simp only [Yt,X4,if_true,if_false,Bool.false_eq_true,ne_eq,decide_not,gt_iff_lt,ge_iff_le,e2,Bool.not_true,cond_false]
  ·rw [ZH,e2]; simp only [Yt,X4,if_true,if_false,Bool.false_eq_true,ne_eq,decide_not,gt_iff_lt,ge_iff_le,e2,Bool.not_false,cond_true]
theorem Zw3 {α τ:Type}{f:(τ→Option Int)→τ→Option Int}(pk:Seen→Int→τ)(l:List α)(step:α→Seen→Int×Seen)(c:Nat)(e:Seen→Option Int){m:Nat}(hm:l.length < m)
  (hst:∀ x s,(step x s).2.length≤s.length + 1)
  (h1:∀ self s (i:Nat) x,l[i]? = some x→i < l.length→x ∈ l→s.length≤c + i→f self (pk s i)=bif !decide ((step x s).1=0) then some (step x s).1 else self (pk (step x s).2 ((i:Int) + 1)))
  (h2:∀ self s,s.length≤c + l.length→f self (pk s (l.length:Nat))=e s) (s:Seen) (hs:s.length≤c):Zx f m (pk s 0)=if decide ((YQ step l s).1≠0)=true then some (YQ step l s).1 else e (YQ step l s).2:=by
 have key:∀ (m i:Nat) (s:Seen),i≤l.length→l.length - i < m→s.length≤c + i→Zx f m (pk s i)=if decide ((YQ step (l.drop i) s).1≠0)=true then some (YQ step (l.drop i) s).1 else e (YQ step (l.drop i) s).2:=by
  intro m
  induction m with
  | zero=>intro i s _ h; exact absurd h (Nat.not_lt_zero _)
  | succ m ih =>
   intro i s hi hm hsl
   show f (Zx f m) _=_
   rcases Nat.lt_or_ge i l.length with hlt | hge
   ·have hx:=List.getElem?_eq_getElem hlt
    have:=ih (i + 1) (step l[i] s).2 hlt (by omega) (by have:=hst l[i] s; omega)
    rw [h1 _ s i _ hx hlt (List.getElem_mem hlt) hsl,List.drop_eq_getElem_cons hlt,YQ,show ((i:Int) + 1)=((i + 1:Nat):Int) from rfl,this]
    by_cases z:(step l[i] s).1=0 <;> simp [z]
   ·have:i=l.length:=by omega
    subst this
    rw [List.drop_length,h2 _ s hsl]; rfl
 exact key m 0 s (Nat.zero_le _) (by omega) (by omega)
theorem Zfh (s:List UInt8)(r:Int)(seen:Seen):(Y2 s r seen).2.length≤seen.length + 1:=by
 have h:(YD s seen).2.length≤seen.length + 1:=by
  unfold YD
  split
  ·exact Nat.le_succ _
  ·split
   ·exact Nat.le_succ _
   ·simp
 unfold Y2
 split <;> exact h
end Go.Proofs.YtgjcjbhhhlelnaaGreatDoor
end
section
namespace Go.Proofs.YtgjcjbhhhlelnaaGreatDoor
open Go Go.Proofs.YtgjcjbhhhlelnaaGreatDoor.Abs Go.Proofs.YtgjcjbhhhlelnaaGreatDoor.Tl
set_option maxRecDepth 100000
theorem Zfi {s:List UInt8}{r:Int}{seen:Seen}(h:(Y2 s r seen).1=0):(Y2 s r seen).2=seen ++ [s]:=(ZsA h).1
theorem Zpe (L:Nat)(h1:100≤L)(r:ZX)(h:OA r)(hL:SizeOf.sizeOf r≤L):GL L (r,())=some (XJ r):=by
 have hz:=Zv4 r
 have hp:=h.p
 have hw:IntKind.i64.wrap ((r.Params.length:Int) + (r.Locals.length:Int))=(r.Params.length:Int) + (r.Locals.length:Int):=wrap_in (by omega) (by omega)
 rw [Zii,hw,XJ]
 by_cases hc:6 < (r.Params.length:Int)∨16 < (r.Params.length:Int) + (r.Locals.length:Int)
 ·rw [if_pos (by simpa using hc),show (decide ((r.Params.length:Int) > 6) || decide ((r.Params.length:Int) + (r.Locals.length:Int) > 16))=true by simpa using hc]; rfl
 ·have hf:(decide ((r.Params.length:Int) > 6) || decide ((r.Params.length:Int) + (r.Locals.length:Int) > 16))=false:=by
   simp only [Bool.or_eq_false_iff,decide_eq_false_iff_not]; omega
  have hf':¬ ((decide (6 < (r.Params.length:Int)) || decide (16 < (r.Params.length:Int) + (r.Locals.length:Int)))=true):=by simpa using hc
  have hlen:(r.Params ++ r.Locals).length≤16:=by rw [List.length_append]; omega
  have p1:apT 24 [] r.Params=some r.Params:=by unfold apT; rw [if_pos (by simp only [List.length_nil]; omega)]; rfl
  have p2:apT 24 r.Params r.Locals=some (r.Params ++ r.Locals):=by unfold apT; rw [if_pos (by omega)]
  rw [if_neg hf',hf,cond_false,p1,ZA,p2,ZA]
  rw [Zw3 (f := U4 r L (r.Params ++ r.Locals)) (fun s i=>(s,i,())) (r.Params ++ r.Locals) (fun f:WL=>Y2 f.Name (ZdB f)) 0 (fun _=>some (Zb0 r.Body)) (by omega) (fun x s=>Zfh _ _ _) (fun self s i x hx hi mem hsl=>by
   have ok:ZcL x∧x.Name.length < L:=by
    rcases List.mem_append.1 mem with m | m
    ·exact ⟨h.Params.2 x m,by have:=Z07 m; omega⟩
    ·exact ⟨h.Locals.2 x m,by have:=Z07 m; omega⟩
   have hn:=Zc8 L h1 x.Name s (by have:=ok.1.Name; unfold Len; omega) ok.2 (by unfold Len; omega) (by omega)
   rw [U4]
   simp only [Zk,Zc,cond_true,cond_false,Zg,ZA,Za,Zp,condC,Zj,Zi,Zm,ZO,ZY,ZH,hi,hx,hn,ZrK,Vq,Uh,Zyz,apS (show s.length≤8000000000000 by omega),wrap_succ hi (by omega)]
   rw [← Zfg]
   by_cases c:(Y2 x.Name (ZdB x) s).1=0
   ·rw [Zfi c]
   ·simp [c]) (fun self s hsl=>by
   rw [U4]; simp only [Zk,Zc,cond_true,cond_false,Zg,ZA,Za,Zp,condC,Zj,Zi,Zm,ZO,ZY,ZH,ZrU L h1 r.Body h.p.2.2 (by omega)]) [] (Nat.le_refl _)]
  rw [X4]; rfl
theorem Zm5 (L:Nat)(d:Z4)(h:Wy d)(hL:d.Shift.length < L)(hc:IntKind.i64.wrap (d.Cycle - 1)=d.Cycle - 1):Zx (XY d L) L (0,())=some (ZsJ d.Cycle none d.Shift):=by
 have hl:=h.s
 refine Zf4 (f := XY d L) d.Shift.length (fun i=>(i,())) (fun i=>some (ZsJ d.Cycle (ZhW d.Shift i) (d.Shift.drop i))) (fun self i hi e=>?_) (fun self=>?_) L 0 (Nat.zero_le _) (by omega)
 ·have hx:=List.getElem?_eq_getElem hi
  rw [List.drop_eq_getElem_cons hi,ZsJ]
  rw [show ZhW d.Shift (i + 1)=some (d.Shift[i].At_) by rw [ZhW,hx]; rfl] at e
  rw [XY]
  simp only [Zk,Zc,cond_true,cond_false,Zg,ZA,Za,Zp,condC,Zj,Zi,Zm,ZO,ZY,ZH,hi,hx,UM,wrap_succ hi (by omega),e,hc,Zsd _ _ _ hi hl]; simp only [Yt,X4,if_true,if_false,Bool.false_eq_true,ne_eq,decide_not,gt_iff_lt,ge_iff_le]
 ·rw [XY]; simp only [Zk,Zc,cond_true,cond_false,Zg,ZA,Za,Zp,condC,Zj,Zi,Zm,ZO,ZY,ZH,List.drop_length,ZsJ]
theorem ZlF (L:Nat)(d:Z4)(h:Wy d)(hL:d.Shift.length < L):U8 L (d,())=some (ZsI d):=by
 simp only [Zk,Zc,cond_true,cond_false,Zg,ZA,Za,Zp,condC,Zj,Zi,Zm,ZO,ZY,ZH,ZfB,UM,Vq,ZsI]
 by_cases hc:btw d.Cycle 1 1000000000=true
 ·have:=Zm5 L d h hL (by simp only [btw,Bool.and_eq_true,decide_eq_true_eq] at hc; exact wrap_in (by omega) (by omega))
  rw [this]; simp only [Yt,X4,if_true,if_false,Bool.false_eq_true,ne_eq,decide_not,gt_iff_lt,ge_iff_le,Y9]
  by_cases a:d.Cycle=0 <;> simp [a]
 ·rw [Bool.not_eq_true] at hc
  simp only [Yt,X4,if_true,if_false,Bool.false_eq_true,ne_eq,decide_not,gt_iff_lt,ge_iff_le,hc,Bool.not_false,Y9]
  by_cases a:d.Cycle=0 <;> simp [a]
theorem Zpd (L:Nat)(h1:100≤L)(d:Ze)(h:ZL d)(hs:Sh L d)(x:Z4)(ok:Wy x)(hx:SizeOf.sizeOf x≤L):U9 L (d,x,())=some (Zpz d x):=by
 have hx2:SizeOf.sizeOf x.Fault < SizeOf.sizeOf x∧SizeOf.sizeOf x.Shift < SizeOf.sizeOf x∧SizeOf.sizeOf x.Fault.Up < SizeOf.sizeOf x.Fault∧SizeOf.sizeOf x.Fault.Down < SizeOf.sizeOf x.Fault:=by
  obtain ⟨a,b,c,d,⟨e,f,g⟩⟩:=x; simp; omega
 have hsh:=ZM x.Shift
 have hst:=h.st
 rw [← Zxy]
 simp only [Zk,Zc,cond_true,cond_false,Zg,ZA,Za,Zp,condC,Zj,Zi,Zm,ZO,ZY,ZH,ZfC,UM,Vq,Uh,ZlF L x ok (by omega),Zc7 L x.Fault.Up _ ok.Fault.Up (by omega),Zc7 L x.Fault.Down _ ok.Fault.Down (by omega),GY,ZjC L d.Streams x.Fault.Stream (by unfold Len; omega) hs.str,Pm L x.Fault.Up ok.Fault.Up (by omega),Pm L x.Fault.Down ok.Fault.Down (by omega),Zn7,Z1Q]; simp only [Yt,X4,if_true,if_false,Bool.false_eq_true,ne_eq,decide_not,gt_iff_lt,ge_iff_le]
theorem ZzC (L:Nat)(d:Ze)(j:Nat)(x:Je)(hx:d.Vars[j]? = some x):YS L (d,0,(j:Int),())=some (Rz x):=by
 rw [X6]; simp only [Zk,Zc,cond_true,cond_false,Zg,ZA,Za,Zp,condC,Zj,Zi,Zm,ZO,ZY,ZH,hx,Int.reduceEq,decide_true,decide_false,ZrK,Vq,Zvt,Uh,valueR]
theorem ZzD (L:Nat)(h1:100≤L)(d:Ze)(h:ZL d)(hL:SizeOf.sizeOf d≤L)(j:Nat)(x:Z4)(hx:d.Resources[j]? = some x):YS L (d,1,(j:Int),())=some (Zpz d x):=by
 have hz:=JC d
 have mem:=List.mem_of_getElem? hx
 have hm:=List.sizeOf_lt_of_mem mem
 rw [X6]; simp only [Zk,Zc,cond_true,cond_false,Zg,ZA,Za,Zp,condC,Zj,Zi,Zm,ZO,ZY,ZH,hx,Int.reduceEq,decide_true,decide_false,Zpd L h1 d h (Sh.of hL) x (h.Resources.2 x mem) (by omega)]
theorem ZzE (L:Nat)(d:Ze)(j:Nat)(x:Y0)(hx:d.Stores[j]? = some x):YS L (d,2,(j:Int),())=some (Rt x):=by
 rw [X6]; simp only [Zk,Zc,cond_true,cond_false,Zg,ZA,Za,Zp,condC,Zj,Zi,Zm,ZO,ZY,ZH,hx,Int.reduceEq,decide_true,decide_false,UM,Vq,Uh,ge_iff_le,Z0o]
theorem ZzF (L:Nat)(d:Ze)(j:Nat)(x:Wn)(hx:d.Belts[j]? = some x):YS L (d,3,(j:Int),())=some (Zcf x):=by
 rw [X6]; simp only [Zk,Zc,cond_true,cond_false,Zg,ZA,Za,Zp,condC,Zj,Zi,Zm,ZO,ZY,ZH,hx,Int.reduceEq,decide_true,decide_false,UM,Vq,Z0N]
theorem ZzG (L:Nat)(h1:100≤L)(d:Ze)(h:ZL d)(hL:SizeOf.sizeOf d≤L)(j:Nat)(x:ZX)(hx:d.Routines[j]? = some x):YS L (d,9,(j:Int),())=some (XJ x):=by
 have hz:=JC d
 have mem:=List.mem_of_getElem? hx
 have hm:=List.sizeOf_lt_of_mem mem
 have e:=Zpe L h1 x (h.Routines.2 x mem) (by omega)
 generalize XJ x=z at e ⊢
 rw [X6,show ((9:Int) == 0)=false from rfl,show ((9:Int) == 1)=false from rfl,show ((9:Int) == 2)=false from rfl,show ((9:Int) == 3)=false from rfl,show ((9:Int) == 9)=true from rfl,cond_false,cond_false,cond_false,cond_false,cond_true,Zg,hx,ZA,e,ZA]
theorem ZjE (L:Nat)(d:Ze)(k j:Int)(h:k=4∨k=5∨k=6∨k=7∨k=8):YS L (d,k,j,())=some 0:=by
 rw [X6]; rcases h with rfl | rfl | rfl | rfl | rfl <;> simp only [Zk,Zc,cond_true,cond_false,Zg,ZA,Za,Zp,condC,Zj,Zi,Zm,ZO,ZY,ZH,Int.reduceEq,decide_true,decide_false]
end Go.Proofs.YtgjcjbhhhlelnaaGreatDoor
end
section
namespace Go.Proofs.YtgjcjbhhhlelnaaGreatDoor
open Go Go.Proofs.YtgjcjbhhhlelnaaGreatDoor.Abs Go.Proofs.YtgjcjbhhhlelnaaGreatDoor.Tl
set_option maxRecDepth 100000
theorem ZoY (L:Nat)(h1:100≤L)(d:Ze)(h:ZL d)(hL:SizeOf.sizeOf d≤L)(k:Nat)(p:Int×List (List UInt8×Int))(hp:(X9 d)[k]? = some p)(j:Nat)(q:List UInt8×Int)(hq:p.2[j]? = some q):YS L (d,(k:Int),(j:Int),())=some q.2:=by
 rcases k with _ | _ | _ | _ | _ | _ | _ | _ | _ | _ | k
 ·obtain rfl:=Option.some.inj hp; obtain ⟨x,hx,rfl⟩:=O5 hq; exact ZzC L d j x hx
 ·obtain rfl:=Option.some.inj hp; obtain ⟨x,hx,rfl⟩:=O5 hq; exact ZzD L h1 d h hL j x hx
 ·obtain rfl:=Option.some.inj hp; obtain ⟨x,hx,rfl⟩:=O5 hq; exact ZzE L d j x hx
 ·obtain rfl:=Option.some.inj hp; obtain ⟨x,hx,rfl⟩:=O5 hq; exact ZzF L d j x hx
 ·obtain rfl:=Option.some.inj hp; obtain ⟨x,hx,rfl⟩:=O5 hq; exact ZjE L d 4 j (by simp)
 ·obtain rfl:=Option.some.inj hp; obtain ⟨x,hx,rfl⟩:=O5 hq; exact ZjE L d 5 j (by simp)
 ·obtain rfl:=Option.some.inj hp; obtain ⟨x,hx,rfl⟩:=O5 hq; exact ZjE L d 6 j (by simp)
 ·obtain rfl:=Option.some.inj hp; obtain ⟨x,hx,rfl⟩:=O5 hq; exact ZjE L d 7 j (by simp)
 ·obtain rfl:=Option.some.inj hp; obtain ⟨x,hx,rfl⟩:=O5 hq; exact ZjE L d 8 j (by simp)
 ·obtain rfl:=Option.some.inj hp; obtain ⟨x,hx,rfl⟩:=O5 hq; exact ZzG L h1 d h hL j x hx
 ·exact absurd hp (by simp [X9])
theorem ZoJ (L:Nat)(d:Ze)(h:ZL d)(hL:SizeOf.sizeOf d≤L):∀ p ∈ X9 d,∀ q ∈ p.2,Len q.1∧q.1.length < L:=by
 have hz:=JC d
 intro p hp q hq
 simp only [X9,List.mem_cons,List.not_mem_nil,or_false] at hp
 unfold Len
 rcases hp with rfl | rfl | rfl | rfl | rfl | rfl | rfl | rfl | rfl | rfl <;> obtain ⟨x,mem,rfl⟩:=List.mem_map.1 hq
 ·have:=ZpQ (fun v:Je=>v.Name) (fun x=>by cases x; simp; omega) mem; have:=(h.Vars.2 x mem).Name; simp only; omega
 ·have:=ZpQ (fun v:Z4=>v.Name) (fun x=>by cases x; simp; omega) mem; have:=(h.Resources.2 x mem).Name; simp only; omega
 ·have:=ZpQ (fun v:Y0=>v.Name) (fun x=>by cases x; simp; omega) mem; have:=(h.Stores.2 x mem).Name; simp only; omega
 ·have:=ZpQ (fun v:Wn=>v.Name) (fun x=>by cases x; simp; omega) mem; have:=(h.Belts.2 x mem).Name; simp only; omega
 ·have:=List.sizeOf_lt_of_mem mem; have:=ZM x; have:=h.Queues.2 x mem; simp only; omega
 ·have:=List.sizeOf_lt_of_mem mem; have:=ZM x; have:=h.Streams.2 x mem; simp only; omega
 ·have:=List.sizeOf_lt_of_mem mem; have:=ZM x; have:=h.Tallies.2 x mem; simp only; omega
 ·have:=List.sizeOf_lt_of_mem mem; have:=ZM x; have:=h.Levels.2 x mem; simp only; omega
 ·have:=List.sizeOf_lt_of_mem mem; have:=ZM x; have:=h.Counts.2 x mem; simp only; omega
 ·have:=ZpQ (fun v:ZX=>v.Name) (fun x=>by cases x; simp; omega) mem; have:=(h.Routines.2 x mem).Name; simp only; omega
theorem inner (L:Nat)(h1:1000≤L)(d:Ze)(h:ZL d)(hL:SizeOf.sizeOf d≤L)(k:Nat)(p:Int×List (List UInt8×Int))(hp:(X9 d)[k]? = some p)(hl:p.2.length≤32)(hk:k < 10)(self:Int×List (List UInt8)×Int×PUnit→Option Int)(s0 s:Seen)(hs:s.length≤32 * k) :
  Zx (Ib d L ((X9 d).map Zcm) self (0,s0,(k:Int),())) L (0,s,0,())=if decide ((YQ Ip p.2 s).1≠0)=true then some (YQ Ip p.2 s).1 else self (0,(YQ Ip p.2 s).2,(k:Int) + 1,()):=by
 have hg:ZT ((X9 d).map Zcm) (k:Int)=some (Zcm p):=by rw [Zg,List.getElem?_map,hp]; rfl
 have hlen:(Zcm p).length=p.2.length:=by simp [Zcm]
 refine Zw3 (f := Ib d L ((X9 d).map Zcm) self (0,s0,(k:Int),())) (fun s i=>(0,s,i,())) p.2 Ip (32 * k) (fun s=>self (0,s,(k:Int) + 1,())) (by omega) (fun x s=>Zfh _ _ _) (fun self1 s i x hx hi mem hsl=>?_) (fun self1 s hsl=>?_) s hs
 ·have hq:(Zcm p)[i]? = some x.1:=by unfold Zcm; rw [List.getElem?_map,hx]; rfl
  have hi':i < (Zcm p).length:=by omega
  have hnl:=ZoJ L d h hL p (List.mem_of_getElem? hp) x mem
  have hn:=Zc8 L (by omega) x.1 s hnl.1 hnl.2 (by unfold Len; omega) (by omega)
  have hd:=ZoY L (by omega) d h hL k p hp i x hx
  rw [Ib]
  simp only [hg,ZA]
  simp only [Zk,Zc,cond_true,cond_false,Zg,ZA,Za,Zp,condC,Zj,Zi,Zm,ZO,ZY,ZH,hi',hq,hn,hd,Uh,apS (show s.length≤8000000000000 by omega),wrap_in (show -9223372036854775808≤(i:Int) + 1 by omega) (by omega)]
  rw [← Zfg]
  show _=bif !decide ((Y2 x.1 x.2 s).1=0) then some (Y2 x.1 x.2 s).1 else self1 (0,(Y2 x.1 x.2 s).2,(i:Int) + 1,())
  by_cases c:(Y2 x.1 x.2 s).1=0
  ·rw [Zfi c]
  ·simp [c]
 ·rw [Ib,← hlen]
  simp only [hg,ZA]
  simp only [Zk,Zc,cond_true,cond_false,Zg,ZA,Za,Zp,condC,Zj,Zi,Zm,ZO,ZY,ZH,wrap_in (show -9223372036854775808≤(k:Int) + 1 by omega) (by omega)]
theorem outer (L:Nat)(h1:1000≤L)(d:Ze)(h:ZL d)(hL:SizeOf.sizeOf d≤L)(E:Option Int)(hE:(bif decide ((d.Starts.length:Int) > 32) then some (6:Int) else Zx (Ic d L) L (0,0,()))=E):∀ (m k:Nat) (s:Seen),k≤10→10 - k < m→s.length≤32 * k →
  Zx (Uk d L ((X9 d).map Zcm)) m (0,s,(k:Int),())=if decide ((Py (((X9 d).drop k).map stepD) s).1≠0)=true then some (Py (((X9 d).drop k).map stepD) s).1 else E
 | 0,_,_,_,h,_=>absurd h (Nat.not_lt_zero _)
 | m + 1,k,s,hk,hm,hs=>by
  show Uk d L ((X9 d).map Zcm) (Zx (Uk d L ((X9 d).map Zcm)) m) (0,s,(k:Int),())=_
  have hlen:(X9 d).length=10:=rfl
  have hlm:((X9 d).map Zcm).length=10:=by rw [List.length_map,hlen]
  rcases Nat.lt_or_ge k 10 with hlt | hge
  ·have hp:=List.getElem?_eq_getElem (show k < (X9 d).length by omega)
   generalize (X9 d)[k]=p at hp
   have hg:ZT ((X9 d).map Zcm) (k:Int)=some (Zcm p):=by rw [Zg,List.getElem?_map,hp]; rfl
   have hnl:(Zcm p).length=p.2.length:=by simp [Zcm]
   have hmost:=ZoI d k p hp
   have hdrop:(X9 d).drop k=p :: (X9 d).drop (k + 1):=by
    rw [List.drop_eq_getElem_cons (show k < (X9 d).length by omega)]
    congr 1
    exact Option.some.inj ((List.getElem?_eq_getElem (show k < (X9 d).length by omega)).symm.trans hp)
   have hguard:(decide ((p.2.length:Int) > 32) || (decide ((k:Int)=9) && decide ((p.2.length:Int) > 16)))=decide (p.1 < (p.2.length:Int)):=by
    rw [hmost]
    by_cases c:k=9
    ·subst c; simp; omega
    ·rw [if_neg c,show decide ((k:Int)=9)=false by simp only [decide_eq_false_iff_not]; omega]; simp
   rw [Uk,hdrop,List.map_cons,Py]
   simp only [hlm,show decide ((k:Int) < ((10:Nat):Int))=true by simp only [decide_eq_true_eq]; omega,cond_true,hg,ZA,hnl]
   simp only [Zk,Zc,cond_true,cond_false,Zg,ZA,Za,Zp,condC,Zj,Zi,Zm,ZO,ZY,ZH,hguard]
   by_cases c:p.1 < (p.2.length:Int)
   ·have e:stepD p s=(6,s):=by unfold stepD Xr; rw [if_pos (by simpa using c)]
    simp [c,e]
   ·have e:stepD p s=YQ Ip p.2 s:=by unfold stepD Xr; rw [if_neg (by simpa using c)]
    have hpl:p.2.length≤32:=by rw [hmost] at c; split at c <;> omega
    rw [show decide (p.1 < (p.2.length:Int))=false by simpa using c,cond_false,inner L h1 d h hL k p hp hpl hlt,e]
    have hsl:(YQ Ip p.2 s).2.length≤32 * (k + 1):=by have:=Zom p.2 s; omega
    have ih:=outer L h1 d h hL E hE m (k + 1) (YQ Ip p.2 s).2 hlt (by omega) hsl
    by_cases z:(YQ Ip p.2 s).1=0
    ·simp only [z,ne_eq,not_true_eq_false,decide_false,Bool.false_eq_true,if_false]
     exact ih
    ·simp [z]
    exact hs
  ·have:k=10:=by omega
   subst this
   rw [Uk,hlm,show (X9 d).drop 10=[] from rfl]
   simp only [Zk,Zc,cond_true,cond_false,Zg,ZA,Za,Zp,condC,Zj,Zi,Zm,ZO,ZY,ZH,show decide (((10:Nat):Int) < ((10:Nat):Int))=false from rfl,hE]
   simp [Py]
theorem Zrn (L:Nat)(h1:1000≤L)(d:Ze)(h:ZL d)(hL:SizeOf.sizeOf d≤L)(hd:(Py ((X9 d).map stepD) []).1=0)(hl:d.Laws.length≤32):Zx (Uj d L) L ([],0,())=some (YQ (fun l:Zfn=>Y2 l.Name (ZsD d l)) d.Laws []).1:=by
 have hs:=Sh.of hL
 have hz:=JC d
 rw [Zw3 (f := Uj d L) (fun s i=>(s,i,())) d.Laws (fun l:Zfn=>Y2 l.Name (ZsD d l)) 0 (fun _=>some 0) hs.law (fun x s=>Zfh _ _ _) (fun self s i x hx hi mem hsl=>by
  have hm:=Z2q mem
  have e:=Z1I L d h hs (by omega) hd x (h.Laws.2 x mem) (by omega) (by omega) s (by unfold Len; omega) (by omega)
  rw [Uj]
  simp only [Zk,Zc,cond_true,cond_false,Zg,ZA,Za,Zp,condC,Zj,Zi,Zm,ZO,ZY,ZH,hi,hx,e,apS (show s.length≤8000000000000 by omega),wrap_succ hi (by omega)]
  by_cases c:(Y2 x.Name (ZsD d x) s).1=0
  ·rw [Zfi c]
  ·simp [c]) (fun self s hsl=>by rw [Uj]; simp only [Zk,Zc,cond_true,cond_false,Zg,ZA,Za,Zp,condC,Zj,Zi,Zm,ZO,ZY,ZH]) [] (Nat.le_refl _)]
 by_cases c:(YQ (fun l:Zfn=>Y2 l.Name (ZsD d l)) d.Laws []).1=0 <;> simp [c]
theorem Zxi (L:Nat)(h1:1000≤L)(d:Ze)(h:ZL d)(hL:SizeOf.sizeOf d≤L):PE L (d,())=some (Zi3 d):=by
 have hs:=Sh.of hL
 have hz:=JC d
 rw [Zpr,ZlD L d h hs,ZA,ZnB,Zx4]
 have o:=outer L h1 d h hL _ rfl L 0 [] (Nat.zero_le _) (by omega) (Nat.le_refl _)
 rw [List.drop_zero] at o
 rw [show ((0:Int))=((0:Nat):Int) from rfl]
 refine o.trans ?_
 unfold Z0n
 by_cases hd:(Py ((X9 d).map stepD) []).1=0
 ·rw [if_neg (by simp [hd]),if_neg (by simp [hd])]
  have st:Zx (Ic d L) L (0,0,())=some (if decide (Yl (Jj d) d.Starts≠0)=true then Yl (Jj d) d.Starts else PM d):=by
   have hl:=h.Starts.1
   have lw:(bif decide ((d.Laws.length:Int) > 32) then some (6:Int) else Zx (Uj d L) L ([],0,()))=some (PM d):=by
    unfold PM Xr
    by_cases c:32 < (d.Laws.length:Int)
    ·simp [c]
    ·rw [Zrn L h1 d h hL hd (by omega)]; simp [c]
   refine Zcl d.Starts (fun l _=>some (if decide (Yl (Jj d) l≠0)=true then Yl (Jj d) l else PM d)) hs.sta 0 (fun self n i x r hx hi mem e=>?_) (fun self n=>?_)
   ·have hm:=ZpQ (fun v:XB=>v.Routine) (fun x=>by cases x; simp; omega) mem
    have hx2:SizeOf.sizeOf x.Args < SizeOf.sizeOf x:=by cases x; simp; omega
    have ha:=ZM x.Args
    rw [Ic]
    simp only [Zk,Zc,cond_true,cond_false,Zg,ZA,Za,Zp,condC,Zj,Zi,Zm,ZO,ZY,ZH,hi,hx,Zuq L d h hs x (h.Starts.2 x mem) (by omega),wrap_succ hi (by omega),e,Yl]
    by_cases c:Jj d x=0 <;> simp [c]
   ·rw [Ic]; simp only [Zk,Zc,cond_true,cond_false,Zg,ZA,Za,Zp,condC,Zj,Zi,Zm,ZO,ZY,ZH,lw,Yl]; rfl
  rw [st]
  unfold ZcG SQ
  by_cases c:32 < (d.Starts.length:Int) <;> simp [c]
 ·rw [if_pos (by simp [hd]),if_pos (by simp [hd])]
theorem ZrR (L:Nat)(h1:1000≤L)(n:List UInt8)(hn:n.length≤140737488351232)(hnL:n.length < L)(d:Ze)(h:ZL d)(hL:SizeOf.sizeOf d≤L):L6 L (⟨n,[],[d],[]⟩,())=some (M1 n d):=by
 have hs:=Sh.of hL
 have e1:=Ui L n (by unfold Len; omega) hnL (by omega)
 have e2:=Zc8 L (by omega) d.Name [] (by have:=h.Name; unfold Len; omega) hs.nm (by simp [Len]) (by simp; omega)
 have e3:L8 L (⟨n,[],[d],[]⟩,())=some 0:=by
  rw [Zmj,Zf3 _ (show 2 < L by omega)]
  simp only [ZbE,ZxR,cond_false]
 have e5:Zx (BU ⟨n,[],[d],[]⟩ L) L ([],0,())=some (Y2 d.Name (Zi3 d) []).1:=by
  rw [Zf3 _ (show 2 < L by omega)]
  simp only [BU,one1,w01,e2,e3,ZA,Za,cond_true,cond_false,Zxi L h1 d h hL,Uh,apS (show ([]:List (List UInt8)).length≤8000000000000 by simp),ZH]
  rw [← Zfg]
  by_cases c:(Y2 d.Name (Zi3 d) []).1=0 <;> simp [c]
 have e4:Zx (BV ⟨n,[],[d],[]⟩ L) L (0,[],0,())=some (Y2 d.Name (Zi3 d) []).1:=by
  rw [Zf3 _ (show 2 < L by omega)]
  simp only [BV,ZxR,one1,cond_false,Vq,Uh,ZA,Za,ZH,Y9,if_true,Wl,e5]
  rfl
 rw [Zmf,e1,e4]
 simp only [ZA,Za,Vq,Uh,ZxR,Y9,if_true,Wl,ZH,M1]
 by_cases a:VS n=0 <;> simp [a]
end Go.Proofs.YtgjcjbhhhlelnaaGreatDoor
end
section
namespace Go.Proofs.YtgjcjbhhhlelnaaGreatDoor
open Go Go.Proofs.YtgjcjbhhhlelnaaGreatDoor.Abs Go.Proofs.YtgjcjbhhhlelnaaGreatDoor.Tl
set_option maxRecDepth 100000
mutual
theorem Zoc (L:Nat):∀ (m:Nat) (a b:Zw),Yj a→2 * SizeOf.sizeOf a≤m→m≤L→LM L m (a,b,())=some (FV a b)
 | 0,e,_,h,hs,_=>absurd hs (by have:=NP e; omega)
 | m + 1,e,b,h,hs,hm=>by
  have hz:=Zs6 e
  have ih:=ZlJ L m e.Kids b.Kids h.k (fun x hx=>h.Kids.2 x hx) (by omega) (by omega)
  simp only [Zk,Zc,cond_true,cond_false,Zg,ZA,Za,Zp,condC,Zj,Zi,Zm,ZO,ZY,ZH,Zpk,ih,ZcF,Zlp]; simp only [Yt,X4,if_true,if_false,Bool.false_eq_true,ne_eq,decide_not,gt_iff_lt,ge_iff_le]
  by_cases h1:e.Op=b.Op <;> by_cases h2:e.Name=b.Name <;> by_cases h3:e.N=b.N <;> simp [h1,h2,h3]
theorem ZlJ (L:Nat):∀ (m:Nat) (a b:List Zw),a.length≤4611686018427387→(∀ x ∈ a,Yj x)→2 * SizeOf.sizeOf a + 1≤m→m≤L→O9 L m (a,b,())=some (if (!decide ((a.length:Int)=(b.length:Int)))=true then false else all2 FV a b)
 | 0,e,_,h,_,hs,_=>absurd hs (by omega)
 | m + 1,a,b,h,ho,hs,hm=>by
  have hk:=ZM a
  rcases ZxO a b with ⟨hl1,hl2⟩ | ⟨hl1,hl2⟩
  ·have lp:Zx (U3 m a b L) L (0,())=some (all2 FV a b):=by
    refine Zf5 a b hl1 (fun l l'=>some (all2 FV l l')) (by omega) (fun self i x y r r' hx hy hi mem e'=>?_) (fun self=>?_)
    ·have ih:=Zoc L m x y (ho x mem) (by have:=List.sizeOf_lt_of_mem mem; omega) (by omega)
     rw [U3]; simp only [Zk,Zc,cond_true,cond_false,Zg,ZA,Za,Zp,condC,Zj,Zi,Zm,ZO,ZY,ZH,hi,hx,hy,ih,wrap_succ hi (by omega),e',all2]; simp only [Yt,X4,if_true,if_false,Bool.false_eq_true,ne_eq,decide_not,gt_iff_lt,ge_iff_le]
    ·rw [U3]; simp only [Zk,Zc,cond_true,cond_false,Zg,ZA,Za,Zp,condC,Zj,Zi,Zm,ZO,ZY,ZH,all2]
   simp only [Zk,Zc,cond_true,cond_false,Zg,ZA,Za,Zp,condC,Zj,Zi,Zm,ZO,ZY,ZH,FI,lp,hl2,Bool.not_true]; simp only [Yt,X4,if_true,if_false,Bool.false_eq_true,ne_eq,decide_not,gt_iff_lt,ge_iff_le]
  ·simp only [Zk,Zc,cond_true,cond_false,Zg,ZA,Za,Zp,condC,Zj,Zi,Zm,ZO,ZY,ZH,FI,hl2,Bool.not_false]; simp only [Yt,X4,if_true,if_false,Bool.false_eq_true,ne_eq,decide_not,gt_iff_lt,ge_iff_le]
end
theorem ZrV (L:Nat)(e:Zw)(h:Yj e)(hL:2 * SizeOf.sizeOf e≤L):Tj L (e,⟨0,[],0,[]⟩,())=some (Zab e):=by
 rw [show Tj L (e,⟨0,[],0,[]⟩,())=_ from Zoc L L e _ h hL (Nat.le_refl _),ZaP]
mutual
def Zi8 (hd:Zw→Bool):Zw→Bool
 | ⟨o,a,n,ks⟩=>hd ⟨o,a,n,ks⟩ && PH hd ks
def PH (hd:Zw→Bool):List Zw→Bool
 | []=>true
 | x :: r=>Zi8 hd x && PH hd r
end
theorem ZpW (hd:Zw→Bool)(e:Zw):Zi8 hd e=(hd e && PH hd e.Kids):=by cases e; rw [Zi8]
def hdA (d:Ze)(c:Wp)(e:Zw):Bool :=
 if decide (e.Op=25)=true then decide (0≤e.N) && decide (e.N < c.Slots) else if decide (e.Op=26)=true then decide (0≤e.N) && decide (e.N < (d.Vars.length:Int)) else if decide (e.Op=22)=true then decide (0≤e.N) && decide (e.N < (d.Resources.length:Int)) else if decide (e.Op=23)=true then decide (0≤e.N) && decide (e.N < (d.Stores.length:Int))
 else if decide (e.Op=24)=true then decide (e.N < IntKind.i64.wrap ((d.Resources.length:Int) + (d.Queues.length:Int))) else true
def hdB (d:Ze)(c:Wp)(e:Zw):Bool :=
 if (decide (e.Op=25) && decide (c.Slots≤e.N))=true then false else if (decide (e.Op=26) && decide ((d.Vars.length:Int)≤e.N))=true then false else if (decide (e.Op=22) && decide ((d.Resources.length:Int)≤e.N))=true then false else if (decide (e.Op=23) && decide ((d.Stores.length:Int)≤e.N))=true then false
 else if (decide (e.Op=24) && decide (IntKind.i64.wrap ((d.Resources.length:Int) + (d.Queues.length:Int))≤e.N))=true then false else true
theorem Z0Z (d:Ze)(c:Wp)(e:Zw)(h:Zcn true e=0):hdA d c e=hdB d c e:=by
 have key:(e.Op=25∨e.Op=26∨e.Op=22∨e.Op=23)→0≤e.N:=by
  intro ho
  rcases ho with ho | ho | ho | ho <;> simp [Zcn,ho,ZsE,Zr5,ZdP,Zjx,Zg0] at h <;> grind
 unfold hdA hdB
 by_cases h1:e.Op=25
 ·have:=key (.inl h1); simp [h1,this]; (first | omega | (rw [← decide_not]; exact decide_eq_decide.2 (by omega)) | (split <;> simp_all <;> omega) | grind)
 by_cases h2:e.Op=26
 ·have:=key (.inr (.inl h2)); simp [h2,this]; (first | omega | (rw [← decide_not]; exact decide_eq_decide.2 (by omega)) | (split <;> simp_all <;> omega) | grind)
 by_cases h3:e.Op=22
 ·have:=key (.inr (.inr (.inl h3))); simp [h3,this]; (first | omega | (rw [← decide_not]; exact decide_eq_decide.2 (by omega)) | (split <;> simp_all <;> omega) | grind)
 by_cases h4:e.Op=23
 ·have:=key (.inr (.inr (.inr h4))); simp [h4,this]; (first | omega | (rw [← decide_not]; exact decide_eq_decide.2 (by omega)) | (split <;> simp_all <;> omega) | grind)
 by_cases h5:e.Op=24
 ·simp [h5]; (first | omega | (rw [← decide_not]; exact decide_eq_decide.2 (by omega)) | (split <;> simp_all <;> omega) | grind)
 simp [h1,h2,h3,h4,h5]
theorem Zn2 {α:Type}(f:α→Int):∀ l:List α,Yl f l=0→∀ x ∈ l,f x=0
 | [],_,x,hx=>by cases hx
 | y :: l,h,x,hx=>by
  rw [Yl] at h
  by_cases c:f y=0
  ·simp [c] at h
   rcases List.mem_cons.1 hx with rfl | hx
   ·exact c
   ·exact Zn2 f l h x hx
  ·simp [c] at h
mutual
theorem ZuS (d:Ze) (c:Wp):∀ e:Zw,JV true e=0→Zi8 (hdA d c) e=Zi8 (hdB d c) e
 | ⟨o,a,n,ks⟩,h=>by
  rw [ZdU] at h
  by_cases z:Zcn true ⟨o,a,n,ks⟩=0
  ·simp [z] at h
   rw [Zi8,Zi8,Z0Z d c _ z,ZpY d c ks (Zn2 _ ks h)]
  ·simp [z] at h
theorem ZpY (d:Ze) (c:Wp):∀ l:List Zw,(∀ x ∈ l,JV true x=0)→PH (hdA d c) l=PH (hdB d c) l
 | [],_=>by rw [PH,PH]
 | x :: l,h=>by rw [PH,PH,ZuS d c x (h x (List.mem_cons_self ..)),ZpY d c l fun y hy=>h y (List.mem_cons_of_mem _ hy)]
end
theorem Zsa (L:Nat)(p:Zl)(si:Int)(sc:ZQ)(hs:ZT p.Sites si=some sc)(c:Wp):∀ (m:Nat) (e:Zw),Yj e→SizeOf.sizeOf e≤m→m≤L→LQ L m (p,si,c,e,())=some (Zi8 (hdB sc.Decl c) e)
 | 0,e,h,hsz,_=>absurd hsz (by have:=NP e; omega)
 | m + 1,e,h,hsz,hm=>by
  have hk:=ZM e.Kids; have hz:=Zs6 e; have hl:=h.k
  have lp:Zx (ML m p si c e L) L (0,())=some (PH (hdB sc.Decl c) e.Kids):=by
   refine Fh e.Kids (fun l=>some (PH (hdB sc.Decl c) l)) (by omega) (fun self i x r hx hi mem e'=>?_) (fun self=>?_)
   ·have ih:=Zsa L p si sc hs c m x (h.Kids.2 x mem) (by have:=Fg mem; omega) (by omega)
    rw [ML]; simp only [Zk,Zc,cond_true,cond_false,Zg,ZA,Za,Zp,condC,Zj,Zi,Zm,ZO,ZY,ZH,hi,hx,ih,wrap_succ hi (by omega),e',PH]
    cases Zi8 (hdB sc.Decl c) x <;> rfl
   ·rw [ML]; simp only [Zk,Zc,cond_true,cond_false,Zg,ZA,Za,Zp,condC,Zj,Zi,Zm,ZO,ZY,ZH,PH]
  rw [Zpu,hs,ZA,lp,ZpW]
  simp only [Zk,Zc,cond_true,cond_false,Zg,ZA,Za,Zp,condC,Zj,Zi,Zm,ZO,ZY,ZH,hdB]; simp only [Yt,X4,if_true,if_false,Bool.false_eq_true,ne_eq,decide_not,gt_iff_lt,ge_iff_le]
  (repeat' split) <;> simp_all
theorem ZpX (hd:Zw→Bool):∀ l:List Zw,(!(l.any fun y=>!(Zi8 hd y)))=PH hd l
 | []=>by rw [PH]; rfl
 | x :: l=>by rw [List.any_cons,PH,← ZpX hd l]; cases Zi8 hd x <;> simp
theorem Zsb (L:Nat)(p:Zl)(si:Int)(sc:ZQ)(hs:ZT p.Sites si=some sc)(c:Wp):∀ (m:Nat) (e:Zw),Yj e→SizeOf.sizeOf e≤m→m≤L→Yi L m (⟨p,si,c⟩,e,())=some (Zi8 (hdA sc.Decl c) e)
 | 0,e,h,hsz,_=>absurd hsz (by have:=NP e; omega)
 | m + 1,e,h,hsz,hm=>by
  have hk:=ZM e.Kids; have hz:=Zs6 e; have hl:=h.k
  have lp:Zx (Yg m ⟨p,si,c⟩ e L) L (0,())=some (H7 (fun y=>!(Zi8 (hdA sc.Decl c) y)) e.Kids 0):=by
   refine Zlx e.Kids (fun l i=>some (H7 (fun y=>!(Zi8 (hdA sc.Decl c) y)) l i)) (by omega) (fun self i x r hx hi mem e'=>?_) (fun self=>?_)
   ·have ih:=Zsb L p si sc hs c m x (h.Kids.2 x mem) (by have:=Fg mem; omega) (by omega)
    rw [Yg]; simp only [Zk,Zc,cond_true,cond_false,Zg,ZA,Za,Zp,condC,Zj,Zi,Zm,ZO,ZY,ZH,hi,hx,ih,wrap_succ hi (by omega),e',H7]; simp only [Yt,X4,if_true,if_false,Bool.false_eq_true,ne_eq,decide_not,gt_iff_lt,ge_iff_le]
   ·rw [Yg]; simp only [Zk,Zc,cond_true,cond_false,Zg,ZA,Za,Zp,condC,Zj,Zi,Zm,ZO,ZY,ZH,H7]
  have hge:decide (H7 (fun y=>!(Zi8 (hdA sc.Decl c) y)) e.Kids 0 ≥ 0)=e.Kids.any fun y=>!(Zi8 (hdA sc.Decl c) y):=ZaA _ _ 0 (Int.le_refl _)
  have hmost:∀ w o,Y5 L (⟨p,si,c⟩,w,o,())=_:=fun w o=>VT L ⟨p,si,c⟩ w o
  rw [Et,show KC=Yg from rfl,show KD=Yg from rfl,show KE=Yg from rfl,show KF=Yg from rfl,show KG=Yg from rfl,lp,ZpW]
  simp only [Zk,Zc,cond_true,cond_false,Zg,ZA,Za,Zp,condC,Zj,Zi,Zm,ZO,ZY,ZH,J5,hmost,hs,hge,ZpX,hdA,Int.reduceEq,decide_true,decide_false]; simp only [Yt,X4,if_true,if_false,Bool.false_eq_true,ne_eq,decide_not,gt_iff_lt,ge_iff_le,Bool.true_and]
  (repeat' split) <;> simp_all
end Go.Proofs.YtgjcjbhhhlelnaaGreatDoor
end
section
namespace Go.Proofs.YtgjcjbhhhlelnaaGreatDoor
open Go Go.Proofs.YtgjcjbhhhlelnaaGreatDoor.Abs Go.Proofs.YtgjcjbhhhlelnaaGreatDoor.Tl
set_option maxRecDepth 100000
def ZxI (p:Zl)(a b:Int):Int×Bool×PUnit:=match p.Links.find? (fun l=>decide (l.From=a) && decide (l.To=b)) with
 | some l=>(l.Delay,true,())
 | none=>(0,false,())
theorem ZzB (L:Nat)(p:Zl)(a b:Int)(h:p.Links.length≤4611686018427387)(hL:p.Links.length < L):P7 L (p,a,b,())=some (ZxI p a b):=by
 rw [Zph,Zlx p.Links (fun l i=>some (H7 (fun l:ZiD=>decide (l.From=a) && decide (l.To=b)) l i)) hL (fun self i x r hx hi _ e=>by
  rw [SK]; simp only [Zk,Zc,cond_true,cond_false,Zg,ZA,Za,Zp,condC,Zj,Zi,Zm,ZO,ZY,ZH,hi,hx,wrap_succ hi (by omega),e,H7]; simp only [Yt,X4,if_true,if_false,Bool.false_eq_true,ne_eq,decide_not,gt_iff_lt,ge_iff_le]) (fun self=>by rw [SK]; simp only [Zk,Zc,cond_true,cond_false,Zg,ZA,Za,Zp,condC,Zj,Zi,Zm,ZO,ZY,ZH,H7]),ZA,ZxI]
 rcases Zc4 (fun l:ZiD=>decide (l.From=a) && decide (l.To=b)) p.Links 0 with ⟨e1,e2⟩ | ⟨k,r,e1,e2,e3⟩
 ·rw [e1,e2]; rfl
 ·rw [e1,e2,Int.zero_add,show decide ((k:Int) < 0)=false by simp only [decide_eq_false_iff_not]; omega,cond_false,Zg,e3]; rfl
theorem ZzM (L:Nat)(p:Zl)(a b:Int)(h:p.Links.length≤4611686018427387)(hL:p.Links.length < L):Zaa L (p,a,b,())=some (ZxI p a b):=by
 rw [Zsi,ZxI]
 refine Fh p.Links (fun l=>some (match l.find? (fun l=>decide (l.From=a) && decide (l.To=b)) with | some l=>(l.Delay,true,()) | none=>(0,false,()))) hL (fun self i x r hx hi _ e=>?_) (fun self=>?_)
 ·rw [ZaJ]; simp only [Zk,Zc,cond_true,cond_false,Zg,ZA,Za,Zp,condC,Zj,Zi,Zm,ZO,ZY,ZH,hi,hx,wrap_succ hi (by omega),e,List.find?_cons]
  cases decide (x.From=a) <;> cases decide (x.To=b) <;> rfl
 ·rw [ZaJ]; simp only [Zk,Zc,cond_true,cond_false,Zg,ZA,Za,Zp,condC,Zj,Zi,Zm,ZO,ZY,ZH,List.find?_nil]
def ZtL (p:Zl)(d:Ze)(c:Wp)(k:Int):Int :=
 if decide (k=1)=true then c.Slots else if decide (k=2)=true then (d.Vars.length:Int) else if decide (k=3)=true then (d.Streams.length:Int) else if decide (k=4)=true then (c.Instrs.length:Int) else if decide (k=5)=true then (d.Resources.length:Int) else if decide (k=6)=true then (d.Stores.length:Int) else if decide (k=7)=true then (d.Belts.length:Int) else if decide (k=8)=true then (d.Queues.length:Int) else if decide (k=9)=true then (p.Sites.length:Int) else if decide (k=11)=true then (d.Tallies.length:Int) else if decide (k=12)=true then (d.Levels.length:Int) else if decide (k=13)=true then (d.Counts.length:Int) else 1
def Zt4 (p:Zl)(d:Ze)(c:Wp)(k x:Int):Bool:=decide (0≤x) && decide (x < ZtL p d c k)
theorem ZzI (L:Nat)(p:Zl)(si:Int)(sc:ZQ)(hs:ZT p.Sites si=some sc)(c:Wp)(k x o:Int)(hk:k≠10):ZZ L (⟨p,si,c⟩,k,x,o,())=some (Zt4 p sc.Decl c k x):=by
 have h10:decide (k=10)=false:=by simp [hk]
 have hmost:Y5 L (⟨p,si,c⟩,k,o,())=some (ZtL p sc.Decl c k):=by
  rw [VT]; simp only [Zk,Zc,cond_true,cond_false,Zg,ZA,Za,Zp,condC,Zj,Zi,Zm,ZO,ZY,ZH,hs,h10,ZtL]; simp only [Yt,X4,if_true,if_false,Bool.false_eq_true,ne_eq,decide_not,gt_iff_lt,ge_iff_le]
 simp only [Zk,Zc,cond_true,cond_false,Zg,ZA,Za,Zp,condC,Zj,Zi,Zm,ZO,ZY,ZH,J5,hmost,Zt4]
theorem ZrN (L:Nat)(p:Zl)(si:Int)(sc:ZQ)(hs:ZT p.Sites si=some sc)(c:Wp)(x o:Int)(so:ZQ)(ho:ZT p.Sites o=some so):ZZ L (⟨p,si,c⟩,10,x,o,())=some (decide (0≤x) && decide (x < (so.Routines.length:Int))):=by
 have hmost:Y5 L (⟨p,si,c⟩,10,o,())=some (so.Routines.length:Int):=by
  rw [VT]; simp only [Zk,Zc,cond_true,cond_false,Zg,ZA,Za,Zp,condC,Zj,Zi,Zm,ZO,ZY,ZH,hs,ho,Int.reduceEq,decide_true,decide_false]
 simp only [Zk,Zc,cond_true,cond_false,Zg,ZA,Za,Zp,condC,Zj,Zi,Zm,ZO,ZY,ZH,J5,hmost]
def Z02 (w:List UInt8):Int:=if w=[115,108,111,116] then 1 else if w=[118,97,114] then 2 else if w=[115,116,114,101,97,109] then 3 else if w=[105,110,115,116,114] then 4 else if w=[114,101,115,111,117,114,99,101] then 5 else if w=[115,116,111,114,101] then 6 else if w=[98,101,108,116] then 7 else if w=[113,117,101,117,101] then 8 else if w=[115,105,116,101] then 9 else if w=[116,97,108,108,121] then 11 else if w=[108,101,118,101,108] then 12 else if w=[99,111,117,110,116] then 13 else 0
def Zos:List (List UInt8):=[[],[115,108,111,116],[118,97,114],[115,116,114,101,97,109],[105,110,115,116,114],[114,101,115,111,117,114,99,101],[115,116,111,114,101],[98,101,108,116],[113,117,101,117,101],[115,105,116,101],[116,97,108,108,121],[108,101,118,101,108],[99,111,117,110,116]]
theorem ZnR (L:Nat)(p:Zl)(si:Int)(sc:ZQ)(hs:ZT p.Sites si=some sc)(c:Wp)(w:List UInt8)(hw:w ∈ Zos)(x:Int):Kq L (p,si,c,w,x,())=some (decide (Z02 w=0) || Zt4 p sc.Decl c (Z02 w) x):=by
 simp only [Zos,List.mem_cons,List.not_mem_nil,or_false] at hw
 rcases hw with rfl | rfl | rfl | rfl | rfl | rfl | rfl | rfl | rfl | rfl | rfl | rfl | rfl <;> (rw [Zke,Zmq,hs,show decide (x ≥ 0)=decide (0≤x) from rfl]; unfold Zt4; generalize decide (0≤x)=b; cases b <;> rfl)
structure Rel (op:Int)(f:O0)(g:VM):Prop where
 rc:g.C=f.c
 re:g.E=f.e
 rf:g.F=f.f
 rargs:g.Args=f.args
 rflag:g.Flag=f.preempt
 rdist:f.dist=decide (op=3)
 rgdist:g.Dist=f.dist
 wa:g.A ∈ Zos
 na:Z02 g.A=f.a
 wa0:decide (g.A=[])=decide (f.a=0)
 na10:f.a≠10
 wb0:decide (g.B=[])=decide (f.b=0)
 wb:op≠14→op≠15→g.B ∈ Zos∧Z02 g.B=f.b∧f.b≠10
 f14:op=14→f.a=9
 f15:op=15→f.a=0
theorem ZqN (L:Nat)(op:Int)(h:1≤op∧op≤19):∃ f g gs,ZT IU op=some f∧Vf L ()=some gs∧ZT gs op=some g∧Rel op f g:=by
 have:op=1∨op=2∨op=3∨op=4∨op=5∨op=6∨op=7∨op=8∨op=9∨op=10∨op=11∨op=12∨op=13∨op=14∨op=15∨op=16∨op=17∨op=18∨op=19:=by omega
 rcases this with rfl | rfl | rfl | rfl | rfl | rfl | rfl | rfl | rfl | rfl | rfl | rfl | rfl | rfl | rfl | rfl | rfl | rfl | rfl <;>
  exact ⟨_,_,_,rfl,Zmo L,rfl,⟨rfl,rfl,rfl,rfl,rfl,rfl,rfl,by decide,by decide,by decide,by decide,by decide,by decide,by decide,by decide⟩⟩
end Go.Proofs.YtgjcjbhhhlelnaaGreatDoor
end
section
namespace Go.Proofs.YtgjcjbhhhlelnaaGreatDoor
open Go Go.Proofs.YtgjcjbhhhlelnaaGreatDoor.Abs Go.Proofs.YtgjcjbhhhlelnaaGreatDoor.Tl
set_option maxRecDepth 100000
theorem Zyr (c x:Bool):(bif c then false else x)=(!c && x):=by cases c <;> rfl
theorem ZkF (i:YJ):SizeOf.sizeOf i.E < SizeOf.sizeOf i∧SizeOf.sizeOf i.F < SizeOf.sizeOf i∧SizeOf.sizeOf i.Args < SizeOf.sizeOf i∧SizeOf.sizeOf i.Dist < SizeOf.sizeOf i:=by cases i; simp; omega
def Zja (f:O0)(i:YJ):Bool:=(!decide (f.a=0) || decide (i.A=0)) && (!decide (f.b=0) || decide (i.B=0)) && (f.c || decide (i.C=0)) && (f.e || Zab i.E) && (f.f || Zab i.F) && (f.args || decide ((i.Args.length:Int)=0)) && (f.dist || NZ i.Dist) && (f.preempt || !i.Flag)
theorem Zxa (L:Nat)(i:YJ)(h:Ov i)(hL:2 * SizeOf.sizeOf i≤L)(f:O0)(hf:ZT IU i.Op=some f):Oe L (i,())=some (Zja f i):=by
 have hz:=ZkF i
 have z:=fun e (he:Yj e) (hl:SizeOf.sizeOf e≤L)=>show I8 L (e,())=some (Zab e) by simp only [Zk,Zc,cond_true,cond_false,Zg,ZA,Za,Zp,condC,Zj,Zi,Zm,ZO,ZY,ZH,ZlP,ZrM L e _ he hl,ZaP]
 rw [ZjO,hf]
 simp only [Zk,Zc,cond_true,cond_false,Zg,ZA,Za,Zp,condC,Zj,Zi,Zm,ZO,ZY,ZH,z i.E h.E (by omega),z i.F h.F (by omega),ZhP L i.Dist _ h.Dist (by omega),GY,Zja]
theorem Zvm (n:Nat):(!decide ((n:Int) > 0))=decide ((n:Int)=0):=by rw [← decide_not]; exact decide_eq_decide.2 (by omega)
theorem Zxf (L:Nat)(i:YJ)(h:Ov i)(hL:2 * SizeOf.sizeOf i≤L)(f:O0)(g:VM)(gs:List VM)(hg:Vf L ()=some gs)(hg':ZT gs i.Op=some g)(r:Rel i.Op f g):LG L (i,())=some (Zja f i):=by
 have hz:=ZkF i
 rw [Zmt,hg,Za,ZA,hg',ZA]
 simp only [Zk,Zc,cond_true,cond_false,Zg,ZA,Za,Zp,condC,Zj,Zi,Zm,ZO,ZY,ZH,ZrV L i.E h.E (by omega),ZrV L i.F h.F (by omega),Zc7 L i.Dist _ h.Dist (by omega),GY,r.wa0,r.wb0,r.rc,r.re,r.rf,r.rargs,r.rflag,r.rgdist,Zyr,Bool.not_and,Bool.not_not,Zvm,Zja]
 congr 1
 ac_rfl
def Zjf (f:O0)(i:YJ):List Zw:=(bif f.e then [i.E] else []) ++ ((bif f.f then [i.F] else []) ++ (bif f.args then i.Args else []))
theorem apE (l m:List Zw)(h:(l.length + m.length) * 56≤140737488355328):apT 56 l m=some (l ++ m):=by unfold apT; rw [if_pos h]
theorem Z2h (i:YJ)(ha:i.Args.length * 56≤140737488351232):apT 56 [] [i.E]=some [i.E]∧apT 56 [] [i.F]=some [i.F]∧apT 56 [i.E] [i.F]=some ([i.E] ++ [i.F])∧apT 56 [] i.Args=some i.Args∧apT 56 [i.E] i.Args=some ([i.E] ++ i.Args)∧apT 56 [i.F] i.Args=some ([i.F] ++ i.Args)∧apT 56 ([i.E] ++ [i.F]) i.Args=some ([i.E] ++ [i.F] ++ i.Args) :=
 ⟨apE [] [i.E] (by simp),apE [] [i.F] (by simp),apE _ _ (by simp),apE [] i.Args (by simp only [List.length_nil]; omega),apE _ _ (by simp only [List.length_cons,List.length_nil]; omega),apE _ _ (by simp only [List.length_cons,List.length_nil]; omega),apE _ _ (by simp only [List.cons_append,List.nil_append,List.length_cons,List.length_nil]; omega)⟩
theorem ZjF (L:Nat)(n:Int):UX L (n,())=some (btw n 1 19):=ZjP L n
theorem Zg8 (L:Nat)(n:Int):IC L (n,())=some (btw n 1 19):=Zms L n
theorem Zul (L:Nat)(i:YJ)(h:Ov i)(hk:btw i.Op 1 19=true)(f:O0)(hf:ZT IU i.Op=some f):WQ L (i,())=some (Zjf f i):=by
 have ha:=h.Args.1
 simp only [Zk,Zc,cond_true,cond_false,Zg,ZA,Za,Zp,condC,Zj,Zi,Zm,ZO,ZY,ZH,FH,ZjF,hk,hf,Bool.not_true]
 unfold Zjf
 obtain ⟨a0,a1,a2,a3,a4,a5,a6⟩:=Z2h i ha
 cases f.e <;> cases f.f <;> cases f.args <;> simp only [cond_true,cond_false,a0,a1,a2,a3,a4,a5,a6,ZA,List.nil_append,List.append_nil,List.append_assoc]
theorem Zup (L:Nat)(i:YJ)(h:Ov i)(hk:btw i.Op 1 19=true)(f:O0)(g:VM)(gs:List VM)(hg:Vf L ()=some gs)(hg':ZT gs i.Op=some g)(r:Rel i.Op f g):LC L (i,())=some (Zjf f i):=by
 have ha:=h.Args.1
 simp only [Zk,Zc,cond_true,cond_false,Zg,ZA,Za,Zp,condC,Zj,Zi,Zm,ZO,ZY,ZH,Zmn,Zg8,hk,hg,hg',r.re,r.rf,r.rargs,Bool.not_true]
 unfold Zjf
 obtain ⟨a0,a1,a2,a3,a4,a5,a6⟩:=Z2h i ha
 cases f.e <;> cases f.f <;> cases f.args <;> simp only [cond_true,cond_false,a0,a1,a2,a3,a4,a5,a6,ZA,List.nil_append,List.append_nil,List.append_assoc]
theorem Zyv (f:O0)(i:YJ)(h:Ov i):(Zjf f i).length≤4611686018427387∧(Zjf f i).length≤2 + i.Args.length∧∀ x ∈ Zjf f i,Yj x∧SizeOf.sizeOf x < SizeOf.sizeOf i:=by
 have hz:=ZkF i
 have ha:=h.Args.1
 have hl:(Zjf f i).length≤2 + i.Args.length:=by
  unfold Zjf; cases f.e <;> cases f.f <;> cases f.args <;> simp <;> omega
 refine ⟨by omega,hl,fun x hx=>?_⟩
 unfold Zjf at hx
 rcases List.mem_append.1 hx with hx | hx
 ·cases he:f.e <;> rw [he] at hx
  ·cases hx
  ·rw [List.mem_singleton.1 hx]; exact ⟨h.E,by omega⟩
 rcases List.mem_append.1 hx with hx | hx
 ·cases he:f.f <;> rw [he] at hx
  ·cases hx
  ·rw [List.mem_singleton.1 hx]; exact ⟨h.F,by omega⟩
 ·cases he:f.args <;> rw [he] at hx
  ·cases hx
  ·have hx:x ∈ i.Args:=hx
   exact ⟨h.Args.2 x hx,by have:=List.sizeOf_lt_of_mem hx; omega⟩
def esR (d:Ze)(c:Wp)(t:Int):List Zw→Int
 | []=>t
 | x :: r=>if decide (Q8 true x≠0)=true then Q8 true x else if (!(Zi8 (hdA d c) x))=true then 2 else esR d c t r
theorem lpA (L:Nat)(h1:1000≤L)(p:Zl)(si:Int)(sc:ZQ)(hs:ZT p.Sites si=some sc)(c:Wp)(i:YJ)(h:Ov i)(hL:2 * SizeOf.sizeOf i≤L)(f:O0)(op:f.dist=decide (i.Op=3)):Zx (YK ⟨p,si,c⟩ i L f (Zjf f i)) L (0,())=some (esR sc.Decl c (if decide (i.Op=3)=true then RJ i.Dist else 0) (Zjf f i)):=by
 obtain ⟨e1,e2,e3⟩:=Zyv f i h
 have hz:=ZkF i; have hk:=ZM i.Args
 refine Fh (Zjf f i) (fun l=>some (esR sc.Decl c (if decide (i.Op=3)=true then RJ i.Dist else 0) l)) (by omega) (fun self j x r hx hi mem e=>?_) (fun self=>?_)
 ·obtain ⟨o1,o2⟩:=e3 x mem
  rw [YK]
  simp only [Zk,Zc,cond_true,cond_false,Zg,ZA,Za,Zp,condC,Zj,Zi,Zm,ZO,ZY,ZH,hi,hx,ZlC L x o1 (by omega),show Qq L (⟨p,si,c⟩,x,())=_ from Zsb L p si sc hs c L x o1 (by omega) (Nat.le_refl _),wrap_succ hi (by omega),e,esR]; simp only [Yt,X4,if_true,if_false,Bool.false_eq_true,ne_eq,decide_not,gt_iff_lt,ge_iff_le]
 ·rw [YK]; simp only [Zk,Zc,cond_true,cond_false,Zg,ZA,Za,Zp,condC,Zj,Zi,Zm,ZO,ZY,ZH,op,MG L i.Dist h.Dist (by omega) (by omega),esR]; simp only [Yt,X4,if_true,if_false,Bool.false_eq_true,ne_eq,decide_not,gt_iff_lt,ge_iff_le]
theorem ZiZ (x:Zw)(h:Q8 true x=0):JV true x=0:=by
 unfold Q8 at h
 by_cases a:60 < Zq5 x
 ·simp [a] at h
 by_cases b:12 < ZpM x
 ·simp [a,b] at h
 simpa [a,b] using h
theorem lpB (L:Nat)(h1:1000≤L)(p:Zl)(si:Int)(sc:ZQ)(hs:ZT p.Sites si=some sc)(c:Wp)(i:YJ)(h:Ov i)(hL:2 * SizeOf.sizeOf i≤L)(f:O0):Zx (IY p si c i L (Zjf f i)) L (0,())=some (esR sc.Decl c (if decide (i.Op=3)=true then RJ i.Dist else 0) (Zjf f i)):=by
 obtain ⟨e1,e2,e3⟩:=Zyv f i h
 have hz:=ZkF i; have hk:=ZM i.Args
 refine Fh (Zjf f i) (fun l=>some (esR sc.Decl c (if decide (i.Op=3)=true then RJ i.Dist else 0) l)) (by omega) (fun self j x r hx hi mem e=>?_) (fun self=>?_)
 ·obtain ⟨o1,o2⟩:=e3 x mem
  rw [IY]
  simp only [Zk,Zc,cond_true,cond_false,Zg,ZA,Za,Zp,condC,Zj,Zi,Zm,ZO,ZY,ZH,hi,hx,ZjH L (by omega) x o1 (by omega),show ZaZ L (p,si,c,x,())=_ from Zsa L p si sc hs c L x o1 (by omega) (Nat.le_refl _),wrap_succ hi (by omega),e,esR]
  by_cases z:Q8 true x=0
  ·rw [ZuS sc.Decl c x (ZiZ x z)]
   cases Zi8 (hdB sc.Decl c) x <;> simp [z]
  ·simp [z]
 ·rw [IY]; simp only [Zk,Zc,cond_true,cond_false,Zg,ZA,Za,Zp,condC,Zj,Zi,Zm,ZO,ZY,ZH,Pm L i.Dist h.Dist (by omega),esR]; simp only [Yt,X4,if_true,if_false,Bool.false_eq_true,ne_eq,decide_not,gt_iff_lt,ge_iff_le]
end Go.Proofs.YtgjcjbhhhlelnaaGreatDoor
end
section
namespace Go.Proofs.YtgjcjbhhhlelnaaGreatDoor
open Go Go.Proofs.YtgjcjbhhhlelnaaGreatDoor.Abs Go.Proofs.YtgjcjbhhhlelnaaGreatDoor.Tl
set_option maxRecDepth 100000
theorem ZqR {α:Type}(l:List α)(n:Int)(h0:0≤n)(h:n < l.length):∃ x,ZT l n=some x∧x ∈ l:=by
 have hn:n.toNat < l.length:=by omega
 refine ⟨l[n.toNat],?_,List.getElem_mem hn⟩
 unfold ZT; rw [if_pos h0]; exact List.getElem?_eq_getElem hn
theorem Zgj (L:Nat)(p:Zl)(o:Int)(so:ZQ)(ho:ZT p.Sites o=some so)(i:YJ) :
  ((decide (0≤i.B) && decide (i.B < (so.Routines.length:Int)))=false∧Ur L (p,o,i,())=some 2) ∨
  ((decide (0≤i.B) && decide (i.B < (so.Routines.length:Int)))=true∧∃ cd,ZT so.Routines i.B=some cd∧Ur L (p,o,i,())=some (bif !decide ((i.Args.length:Int)=cd.Params) then 8 else 0)):=by
 rw [Zmp,ho,ZA]
 by_cases h:0≤i.B∧i.B < (so.Routines.length:Int)
 ·refine .inr ⟨by simp [h.1,h.2],?_⟩
  obtain ⟨cd,hc,_⟩:=ZqR so.Routines i.B h.1 h.2
  refine ⟨cd,hc,?_⟩
  rw [show (decide (i.B < 0) || decide (i.B ≥ (so.Routines.length:Int)))=false by simp only [Bool.or_eq_false_iff,decide_eq_false_iff_not]; omega,hc]
  simp only [Zk,Zc,cond_true,cond_false,Zg,ZA,Za,Zp,condC,Zj,Zi,Zm,ZO,ZY,ZH]
 ·refine .inl ⟨by simp only [Bool.and_eq_false_iff,decide_eq_false_iff_not]; omega,?_⟩
  rw [show (decide (i.B < 0) || decide (i.B ≥ (so.Routines.length:Int)))=true by simp only [Bool.or_eq_true,decide_eq_true_eq]; omega]
  rfl
theorem orN (a b:Bool):(!b && !a)=!(a || b):=by cases a <;> cases b <;> rfl
theorem ZoN (L:Nat)(h1:1000≤L)(p:Zl)(hp:p.Links.length≤4611686018427387)(hpL:p.Links.length < L)(si:Int)(sc:ZQ)(hs:ZT p.Sites si=some sc)(c:Wp)(i:YJ)(h:Ov i)(hL:2 * SizeOf.sizeOf i≤L) :
  ∃ v,Wi L (⟨p,si,c⟩,i,())=some v∧Vg L (p,si,c,i,())=some v:=by
 rw [PO,Zmr,show UB=YK from rfl,show UC=YK from rfl,ZjF,Zg8]
 by_cases hk:btw i.Op 1 19=true
 ·obtain ⟨f,g,gs,hf,hg,hg',r⟩:=ZqN L i.Op (by simpa [btw] using hk)
  rw [Zxa L i h hL f hf,Zxf L i h hL f g gs hg hg' r,hf,Zul L i h hk f hf,Zup L i h hk f g gs hg hg' r]
  have la:=lpA L h1 p si sc hs c i h hL f r.rdist
  have lb:=lpB L h1 p si sc hs c i h hL f
  generalize esR sc.Decl c (if decide (i.Op=3)=true then RJ i.Dist else 0) (Zjf f i)=V at la lb
  cases hcl:Zja f i
  ·exact ⟨1,by simp only [Zk,Zc,cond_true,cond_false,Zg,ZA,Za,Zp,condC,Zj,Zi,Zm,ZO,ZY,ZH,hk,Bool.not_true,Bool.not_false,Bool.or_true,Bool.false_or],by simp only [Zk,Zc,cond_true,cond_false,Zg,ZA,Za,Zp,condC,Zj,Zi,Zm,ZO,ZY,ZH,hk,Bool.not_true,Bool.not_false,Bool.or_true,Bool.false_or]⟩
  simp only [Zij,hg,ZA,hg',ZzI L p si sc hs c f.a i.A 0 r.na10]
  have iA:=ZnR L p si sc hs c g.A r.wa i.A
  rw [r.na] at iA
  by_cases hA:(decide (f.a=0) || Zt4 p sc.Decl c f.a i.A)=true
  ·have hA':(!(Zt4 p sc.Decl c f.a i.A) && !decide (f.a=0))=false:=by rw [orN,hA]; rfl
   rw [hA] at iA
   by_cases h14:i.Op=14
   ·
    have ha9:=r.f14 h14
    rw [ha9] at hA
    have hA2:0≤i.A∧i.A < (p.Sites.length:Int):=by simpa [Zt4,ZtL] using hA
    obtain ⟨so,ho,_⟩:=ZqR p.Sites i.A hA2.1 hA2.2
    have e14:decide (i.Op=14)=true:=by simp [h14]
    have e15:decide (i.Op=15)=false:=by simp [h14]
    have hb10:=ZrN L p si sc hs c i.B i.A so ho
    simp only [ZO,ZH,e14,e15,cond_true,cond_false,ZA]
    simp only [hA',hk,iA,cond_true,cond_false,ZA,Bool.not_true,Bool.or_false,ZzB L p si i.A hp hpL,ZzM L p si i.A hp hpL]
    simp only [Zi,hb10,ho,ZA,Za,cond_false,Bool.not_true,la,lb]
    cases hq:(!(ZxI p si i.A).2.1 || !decide ((ZxI p si i.A).1=i.C))
    ·rcases Zgj L p i.A so ho i with ⟨b1,b2⟩ | ⟨b1,cd,b2,b3⟩
     ·exact ⟨2,by simp only [cond_true,cond_false,ZA,Za,Zp,condC,Zj,Zi,Zm,ZO,ZH,Bool.not_true,Bool.not_false,b1,Bool.not_false] <;> rfl,by simp only [cond_true,cond_false,ZA,Za,Zp,condC,Zj,Zi,Zm,ZO,ZH,Bool.not_true,Bool.not_false,b2] <;> rfl⟩
     ·cases hz:decide ((i.Args.length:Int)=cd.Params)
      ·exact ⟨8,by simp only [cond_true,cond_false,ZA,Za,Zp,condC,Zj,Zi,Zm,ZO,ZH,Bool.not_true,Bool.not_false,b1,b2,hz,Bool.not_true,Bool.not_false] <;> rfl,by simp only [cond_true,cond_false,ZA,Za,Zp,condC,Zj,Zi,Zm,ZO,ZH,Bool.not_true,Bool.not_false,b3,hz,Bool.not_true,Bool.not_false] <;> rfl⟩
      ·exact ⟨V,by simp only [cond_true,cond_false,ZA,Za,Zp,condC,Zj,Zi,Zm,ZO,ZH,Bool.not_true,Bool.not_false,b1,b2,hz,Bool.not_true,Bool.not_false] <;> rfl,by simp only [cond_true,cond_false,ZA,Za,Zp,condC,Zj,Zi,Zm,ZO,ZH,Bool.not_true,Bool.not_false,b3,hz,Bool.not_true,Bool.not_false] <;> rfl⟩
    ·exact ⟨16,by simp only [cond_true,cond_false,ZA,Za,Zp,condC,Zj,Zi,Zm,ZO,ZH,Bool.not_true,Bool.not_false] <;> rfl,by simp only [cond_true,cond_false,ZA,Za,Zp,condC,Zj,Zi,Zm,ZO,ZH,Bool.not_true,Bool.not_false] <;> rfl⟩
   ·by_cases h15:i.Op=15
    ·have e14:decide (i.Op=14)=false:=by simp [h15]
     have e15:decide (i.Op=15)=true:=by simp [h15]
     have hb10:=ZrN L p si sc hs c i.B si sc hs
     simp only [ZO,ZH,e14,e15,cond_true,cond_false,ZA]
     simp only [hA',hk,iA,cond_true,cond_false,ZA,Bool.not_true,Bool.or_false]
     simp only [Zi,hb10,hs,ZA,Za,cond_false,Bool.not_true,la,lb]
     rcases Zgj L p si sc hs i with ⟨b1,b2⟩ | ⟨b1,cd,b2,b3⟩
     ·exact ⟨2,by simp only [cond_true,cond_false,ZA,Za,Zp,condC,Zj,Zi,Zm,ZO,ZH,Bool.not_true,Bool.not_false,b1,Bool.not_false] <;> rfl,by simp only [cond_true,cond_false,ZA,Za,Zp,condC,Zj,Zi,Zm,ZO,ZH,Bool.not_true,Bool.not_false,b2] <;> rfl⟩
     ·cases hz:decide ((i.Args.length:Int)=cd.Params)
      ·exact ⟨8,by simp only [cond_true,cond_false,ZA,Za,Zp,condC,Zj,Zi,Zm,ZO,ZH,Bool.not_true,Bool.not_false,b1,b2,hz,Bool.not_true,Bool.not_false] <;> rfl,by simp only [cond_true,cond_false,ZA,Za,Zp,condC,Zj,Zi,Zm,ZO,ZH,Bool.not_true,Bool.not_false,b3,hz,Bool.not_true,Bool.not_false] <;> rfl⟩
      ·exact ⟨V,by simp only [cond_true,cond_false,ZA,Za,Zp,condC,Zj,Zi,Zm,ZO,ZH,Bool.not_true,Bool.not_false,b1,b2,hz,Bool.not_true,Bool.not_false] <;> rfl,by simp only [cond_true,cond_false,ZA,Za,Zp,condC,Zj,Zi,Zm,ZO,ZH,Bool.not_true,Bool.not_false,b3,hz,Bool.not_true,Bool.not_false] <;> rfl⟩
    ·obtain ⟨w1,w2,w3⟩:=r.wb h14 h15
     have e14:decide (i.Op=14)=false:=by simp [h14]
     have e15:decide (i.Op=15)=false:=by simp [h15]
     have iB:=ZnR L p si sc hs c g.B w1 i.B
     rw [w2] at iB
     simp only [cond_true,cond_false,ZA,Za,Zp,condC,Zj,Zi,Zm,ZO,ZH,Bool.not_true,Bool.not_false,hk,hA',iA,iB,e14,e15,Bool.not_true,Bool.or_false,ZzI L p si sc hs c f.b i.B 0 w3,la,lb]
     cases decide (f.b=0) <;> cases Zt4 p sc.Decl c f.b i.B
     ·exact ⟨2,rfl,rfl⟩
     ·exact ⟨V,rfl,rfl⟩
     ·exact ⟨V,rfl,rfl⟩
     ·exact ⟨V,rfl,rfl⟩
  ·rw [Bool.not_eq_true] at hA
   have hA':(!(Zt4 p sc.Decl c f.a i.A) && !decide (f.a=0))=true:=by rw [orN,hA]; rfl
   rw [hA] at iA
   exact ⟨2,by simp only [cond_true,cond_false,ZA,Za,Zp,condC,Zj,Zi,Zm,ZO,ZH,Bool.not_true,Bool.not_false,hk,hA',Bool.not_true,Bool.or_false] <;> rfl,by simp only [cond_true,cond_false,ZA,Za,Zp,condC,Zj,Zi,Zm,ZO,ZH,Bool.not_true,Bool.not_false,hk,iA,Bool.not_true,Bool.not_false,Bool.or_false] <;> rfl⟩
 ·rw [Bool.not_eq_true] at hk
  exact ⟨1,by simp only [cond_true,cond_false,ZA,Za,Zp,condC,Zj,Zi,Zm,ZO,ZH,Bool.not_true,Bool.not_false,hk,Bool.not_false,Bool.true_or] <;> rfl,by simp only [cond_true,cond_false,ZA,Za,Zp,condC,Zj,Zi,Zm,ZO,ZH,Bool.not_true,Bool.not_false,hk,Bool.not_false,Bool.true_or] <;> rfl⟩
end Go.Proofs.YtgjcjbhhhlelnaaGreatDoor
end
section
namespace Go.Proofs.YtgjcjbhhhlelnaaGreatDoor
open Go Go.Proofs.YtgjcjbhhhlelnaaGreatDoor.Abs Go.Proofs.YtgjcjbhhhlelnaaGreatDoor.Tl
set_option maxRecDepth 100000
theorem Zx6 (c:Wp):SizeOf.sizeOf c.Name < SizeOf.sizeOf c∧SizeOf.sizeOf c.Instrs < SizeOf.sizeOf c:=by cases c; simp; omega
theorem ZyV {α:Type}{f:(Int×PUnit→Option Int)→Int×PUnit→Option Int}(l:List α)(V:α→Int)(T:Option Int){m:Nat}(hm:l.length < m)
  (h1:∀ self (i:Nat) x,l[i]? = some x→i < l.length→x ∈ l→f self ((i:Int),())=bif !decide (V x=0) then some (V x) else self ((i:Int) + 1,()))
  (h2:∀ self,f self ((l.length:Int),())=T):Zx f m (0,())=if decide (Yl V l≠0)=true then some (Yl V l) else T :=
 Fh l (fun l=>if decide (Yl V l≠0)=true then some (Yl V l) else T) hm (fun self i x r hx hi mem e=>by
  rw [h1 self i x hx hi mem,e,Yl]
  by_cases c:V x=0 <;> simp [c]) (fun self=>by rw [h2]; rfl)
theorem ZbG (L:Nat)(h1:1000≤L)(p:Zl)(hp:p.Links.length≤4611686018427387)(hpL:p.Links.length < L)(si:Int)(sc:ZQ)(hs:ZT p.Sites si=some sc)(c:Wp)(h:ZpS c)(hL:2 * SizeOf.sizeOf c≤L) :
  ∃ v,Y6 L (p,si,c,())=some v∧YZ L (p,si,c,())=some v:=by
 have hz:=Zx6 c
 have hk:=ZM c.Instrs; have hl:=h.Instrs.1
 have hn1:=Xc L c.Name (by have:=h.Name; unfold Len; omega) (by have:=ZM c.Name; omega)
 have hn2:=Ui L c.Name (by have:=h.Name; unfold Len; omega) (by have:=ZM c.Name; omega) (by omega)
 have hV:∀ i ∈ c.Instrs,Wi L (⟨p,si,c⟩,i,())=some ((Vg L (p,si,c,i,())).getD 0)∧Vg L (p,si,c,i,())=some ((Vg L (p,si,c,i,())).getD 0):=fun i mem=>by
  have:=List.sizeOf_lt_of_mem mem
  obtain ⟨v,e1,e2⟩:=ZoN L h1 p hp hpL si sc hs c i (h.Instrs.2 i mem) (by omega)
  rw [e1,e2]; exact ⟨rfl,rfl⟩
 obtain ⟨V,hV'⟩:∃ V:YJ→Int,∀ i ∈ c.Instrs,Wi L (⟨p,si,c⟩,i,())=some (V i)∧Vg L (p,si,c,i,())=some (V i):=⟨_,hV⟩
 by_cases ge:c.Instrs=[]
 ·have e0:decide ((c.Instrs.length:Int)=0)=true:=by rw [ge]; rfl
  refine ⟨_,by rw [NI]; simp only [hn1,ZA,ZO,ZH,e0,cond_true,Zm]; rfl,?_⟩
  rw [FK]; simp only [hn2,ZA,ZO,ZH,e0,cond_true,Zm]
 ·have hpos:0 < c.Instrs.length:=List.length_pos_iff.2 ge
  have hw:IntKind.i64.wrap ((c.Instrs.length:Int) - 1)=((c.Instrs.length - 1:Nat):Int):=by rw [wrap_in (by omega) (by omega)]; omega
  have hx:=List.getElem?_eq_getElem (show c.Instrs.length - 1 < c.Instrs.length by omega)
  generalize c.Instrs[c.Instrs.length - 1]=x at hx
  have la:=ZyV (f := Jy p si c L) c.Instrs V (some (bif !decide (x.Op=19) && !decide (x.Op=4) then 8 else 0)) (m := L) (by omega) (fun self i y hy hi mem=>by
   rw [Jy]; simp only [Zk hi,cond_true,Zg,hy,ZA,(hV' y mem).1,ZH,wrap_succ hi (by omega)]) (fun self=>by
   rw [Jy]; simp only [Zc,cond_false,hw,Zg,hx,ZA,ZH,Zm])
  have lb:=ZyV (f := U5 p si c L) c.Instrs V (some (bif !decide (x.Op=19) && !decide (x.Op=4) then 8 else 0)) (m := L) (by omega) (fun self i y hy hi mem=>by
   rw [U5]; simp only [Zk hi,cond_true,Zg,hy,ZA,Za,(hV' y mem).2,ZH,wrap_succ hi (by omega)]) (fun self=>by
   rw [U5]; simp only [Zc,cond_false,hw,Zg,hx,ZA,ZH,Zm])
  rw [X4] at la lb
  refine ⟨_,by rw [NI]; simp only [la,hn1,ZA,ZO,ZH,Zm]; rfl,?_⟩
  rw [FK]; simp only [lb,hn2,ZA,ZO,ZH,Zm]
end Go.Proofs.YtgjcjbhhhlelnaaGreatDoor
end
section
namespace Go.Proofs.YtgjcjbhhhlelnaaGreatDoor
open Go Go.Proofs.YtgjcjbhhhlelnaaGreatDoor.Abs Go.Proofs.YtgjcjbhhhlelnaaGreatDoor.Tl
set_option maxRecDepth 100000
def agL:List Wp→List ZX→Bool
 | c :: l,r :: m=>if (!(decide (c.Name=r.Name) && decide (c.Params=(r.Params.length:Int)) && decide ((r.Body.length:Int)=0)))=true then false else agL l m
 | _,_=>true
def agB (s:ZQ):Bool:=decide ((s.Routines.length:Int)=(s.Decl.Routines.length:Int)) && agL s.Routines s.Decl.Routines
theorem Zuk (L:Nat)(s:ZQ)(h:s.Routines.length≤4611686018427387)(hL:s.Routines.length < L):G6 L (s,())=some (agB s):=by
 rcases ZxO s.Routines s.Decl.Routines with ⟨e1,e2⟩ | ⟨e1,e2⟩
 ·have lp:=Zf5 (f := Uw s L) s.Routines s.Decl.Routines e1 (fun l m=>some (agL l m)) hL (fun self i x y r r' hx hy hi _ e=>by
   rw [Uw]; simp only [Zk,Zc,cond_true,cond_false,Zg,ZA,Za,Zp,condC,Zj,Zi,Zm,ZO,ZY,ZH,hi,hx,hy,Zeh,wrap_succ hi (by omega),e,agL]; simp only [Yt,X4,if_true,if_false,Bool.false_eq_true,ne_eq,decide_not,gt_iff_lt,ge_iff_le]) (fun self=>by rw [Uw]; simp only [Zk,Zc,cond_true,cond_false,Zg,ZA,Za,Zp,condC,Zj,Zi,Zm,ZO,ZY,ZH,agL])
  rw [FD,lp,agB,ZH,e2]; rfl
 ·rw [FD,agB,ZH,e2]; rfl
theorem Zum (L:Nat)(s:ZQ)(h:s.Routines.length≤4611686018427387)(hL:s.Routines.length < L):Tt L (s,())=some (agB s):=by
 rcases ZxO s.Routines s.Decl.Routines with ⟨e1,e2⟩ | ⟨e1,e2⟩
 ·have lp:=Zf5 (f := MJ s) s.Routines s.Decl.Routines e1 (fun l m=>some (agL l m)) hL (fun self i x y r r' hx hy hi _ e=>by
   rw [MJ]; simp only [Zk,Zc,cond_true,cond_false,Zg,ZA,Za,Zp,condC,Zj,Zi,Zm,ZO,ZY,ZH,hi,hx,hy,wrap_succ hi (by omega),e,agL]
   rw [show decide ((y.Body.length:Int) > 0)=!decide ((y.Body.length:Int)=0) by rw [← Zvm,Bool.not_not],decide_eq_decide.2 (⟨Eq.symm,Eq.symm⟩:y.Name=x.Name↔x.Name=y.Name),decide_eq_decide.2 (⟨Eq.symm,Eq.symm⟩:(y.Params.length:Int)=x.Params↔x.Params=(y.Params.length:Int))]
   cases decide ((y.Body.length:Int)=0) <;> cases decide (x.Name=y.Name) <;> cases decide (x.Params=(y.Params.length:Int)) <;> rfl) (fun self=>by rw [MJ]; simp only [Zk,Zc,cond_true,cond_false,Zg,ZA,Za,Zp,condC,Zj,Zi,Zm,ZO,ZY,ZH,agL])
  rw [ZgA,lp,agB,ZH,e2]; rfl
 ·rw [ZgA,agB,ZH,e2]; rfl
def Ep (l:ZiD):Int×Int:=(l.From,l.To)
def S9 (p:Zl):List (Int×Int)→List ZiD→Int
 | _,[]=>0
 | seen,x :: r=>if (decide (x.From < 0) || decide (x.From ≥ (p.Sites.length:Int)) || decide (x.To < 0) || decide (x.To ≥ (p.Sites.length:Int)) || decide (x.From=x.To) || decide (x.Delay < 1) || decide (x.Delay > 1000000000))=true then 2
  else if seen.contains (Ep x)=true then 4 else S9 p (seen ++ [Ep x]) r
theorem Zjt (l:List (Int×Int))(s:Int×Int):hasK (MK.pint IntKind.i64) l s=l.contains s:=by
 induction l with
 | nil=>rfl
 | cons x l ih =>
  rw [List.contains_cons,← ih]
  show (BEq.beq s.1 x.1 && BEq.beq s.2 x.2 || hasK (MK.pint IntKind.i64) l s)=_
  congr 1
theorem ZpV (l:List (Int×Int))(s:Int×Int)(h:l.contains s=false):Zbv (MK.pint IntKind.i64) l s=l ++ [s]:=by
 unfold Zbv; rw [Zjt,h]; rfl
theorem Zqa (x:ZiD)(n:Int):(decide ((if x.To < x.From then x.To else x.From) < 0) || decide ((if x.To > x.From then x.To else x.From) ≥ n) || decide (x.From=x.To))=(decide (x.From < 0) || decide (x.From ≥ n) || decide (x.To < 0) || decide (x.To ≥ n) || decide (x.From=x.To)):=by
 rw [Bool.eq_iff_iff]
 simp only [Bool.or_eq_true,decide_eq_true_eq]
 split <;> split <;> omega
theorem ZrL (L:Nat)(p:Zl)(h:p.Links.length≤4611686018427387)(hL:p.Links.length < L):I7 L (p,())=some (if decide (32 < (p.Links.length:Int))=true then 6 else S9 p [] p.Links):=by
 have lp:=Zj0 (f := UJ p) p.Links (fun (s:List (Int×Int)) i=>(i,s,())) (fun l s=>some (S9 p s l)) (fun self s i x r hx hi mem e=>by
  rw [UJ]
  simp only [Zk,Zc,cond_true,cond_false,Zg,ZA,Za,Zp,condC,Zj,Zi,Zm,ZO,ZY,ZH,hi,hx,Zqa,wrap_succ hi (by omega),e,Zjt,S9]
  generalize (decide (x.From < 0) || decide (x.From ≥ (p.Sites.length:Int)) || decide (x.To < 0) || decide (x.To ≥ (p.Sites.length:Int)) || decide (x.From=x.To))=a
  show _=some (if (a || decide (x.Delay < 1) || decide (x.Delay > 1000000000))=true then 2 else if s.contains (x.From,x.To)=true then 4 else S9 p (s ++ [(x.From,x.To)]) r)
  cases hc:s.contains (x.From,x.To)
  ·rw [ZpV _ _ hc,e]; cases a <;> cases decide (x.Delay < 1) <;> cases decide (x.Delay > 1000000000) <;> rfl
  ·cases a <;> cases decide (x.Delay < 1) <;> cases decide (x.Delay > 1000000000) <;> rfl) (fun self s=>by rw [UJ]; simp only [Zk,Zc,cond_true,cond_false,Zg,ZA,Za,Zp,condC,Zj,Zi,Zm,ZO,ZY,ZH,S9]) L 0 [] (Nat.zero_le _) (by omega)
 rw [List.drop_zero] at lp
 rw [ZlO,show Zx (UJ p) L (0,[],())=_ from lp]
 simp only [Yt,X4,if_true,if_false,Bool.false_eq_true,ne_eq,decide_not,gt_iff_lt,ge_iff_le]
end Go.Proofs.YtgjcjbhhhlelnaaGreatDoor
end
section
namespace Go.Proofs.YtgjcjbhhhlelnaaGreatDoor
open Go Go.Proofs.YtgjcjbhhhlelnaaGreatDoor.Abs Go.Proofs.YtgjcjbhhhlelnaaGreatDoor.Tl
set_option maxRecDepth 100000
theorem Zow (L:Nat)(p:Zl)(h:p.Links.length≤4611686018427387)(self:Int×Int×PUnit→Option Int)(i:Nat)(hi:i≤p.Links.length)(hL:p.Links.length < L)(y:ZiD) :
  Zx (Ie p self (0,(i:Int),()) y) L (0,0,())=if ((p.Links.take i).map Ep).contains (Ep y)=true then some 4 else self (0,IntKind.i64.wrap ((i:Int) + 1),()):=by
 have hlen:(p.Links.take i).length=i:=by rw [List.length_take]; omega
 have:=Zf4 (f := Ie p self (0,(i:Int),()) y) i (fun j=>(0,j,())) (fun j=>if (((p.Links.take i).drop j).map Ep).contains (Ep y)=true then some 4 else self (0,IntKind.i64.wrap ((i:Int) + 1),())) (fun self1 j hj e=>by
  have hjl:j < p.Links.length:=by omega
  have hx:=List.getElem?_eq_getElem hjl
  have hd:(p.Links.take i).drop j=p.Links[j] :: (p.Links.take i).drop (j + 1):=by
   rw [List.drop_eq_getElem_cons (show j < (p.Links.take i).length by omega),List.getElem_take]
  rw [hd,Ie]
  simp only [show decide ((j:Int) < (i:Int))=true by simp only [decide_eq_true_eq]; omega,cond_true,Zg,hx,ZA,ZO,Zp,wrap_in (show -9223372036854775808≤(j:Int) + 1 by omega) (by omega),e,List.map_cons,List.contains_cons]
  generalize p.Links[j]=x
  have hb:(Ep y == Ep x)=(decide (x.From=y.From) && decide (x.To=y.To)):=by
   show (BEq.beq y.From x.From && BEq.beq y.To x.To)=_
   rw [ZO,ZO,decide_eq_decide.2 (⟨Eq.symm,Eq.symm⟩:y.From=x.From↔x.From=y.From),decide_eq_decide.2 (⟨Eq.symm,Eq.symm⟩:y.To=x.To↔x.To=y.To)]
  rw [hb]
  cases decide (x.From=y.From) <;> cases decide (x.To=y.To) <;> rfl) (fun self1=>by
  rw [Ie]
  simp only [Zc,cond_false]
  rw [List.drop_eq_nil_of_le (by omega)]; rfl) L 0 (Nat.zero_le _) (by omega)
 rw [List.drop_zero] at this
 exact this
theorem Zxh (L:Nat)(p:Zl)(h:p.Links.length≤4611686018427387)(hL:p.Links.length < L):Tq L (p,())=some (if decide (32 < (p.Links.length:Int))=true then 6 else S9 p [] p.Links):=by
 have lp:=Zf4 (f := Ig p L) p.Links.length (fun i=>(0,i,())) (fun i=>some (S9 p ((p.Links.take i).map Ep) (p.Links.drop i))) (fun self i hi e=>by
  have hx:=List.getElem?_eq_getElem hi
  have ht:(p.Links.take (i + 1)).map Ep=(p.Links.take i).map Ep ++ [Ep p.Links[i]]:=by
   rw [List.take_succ,hx,List.map_append]; rfl
  rw [List.drop_eq_getElem_cons hi,S9]
  rw [ht] at e
  rw [Ig]
  simp only [Zk hi,cond_true,Zg,hx,ZA,ZO,Zow L p h self i (Nat.le_of_lt hi) hL,wrap_succ hi (by omega),e]
  rw [Yt]
  split
  ·rfl
  ·split <;> rfl) (fun self=>by
  rw [Ig,List.drop_length]; simp only [Zc,cond_false,S9]) L 0 (Nat.zero_le _) (by omega)
 rw [List.drop_zero] at lp
 rw [Zpt,show Zx (Ig p L) L (0,0,())=_ from lp]
 simp only [Yt,X4,if_true,if_false,Bool.false_eq_true,ne_eq,decide_not,gt_iff_lt,ge_iff_le]
 rfl
end Go.Proofs.YtgjcjbhhhlelnaaGreatDoor
end
section
namespace Go.Proofs.YtgjcjbhhhlelnaaGreatDoor
open Go Go.Proofs.YtgjcjbhhhlelnaaGreatDoor.Abs Go.Proofs.YtgjcjbhhhlelnaaGreatDoor.Tl
set_option maxRecDepth 100000
def Gg (n:List UInt8):Seen→List ZQ→Int
 | _,[]=>0
 | seen,x :: r=>if decide (M1 n x.Decl≠0)=true then M1 n x.Decl else if seen.contains x.Decl.Name=true then 4 else if (!(agB x))=true then 8 else Gg n (seen ++ [x.Decl.Name]) r
theorem ZxW (p:Zl){s:ZQ}(h:s ∈ p.Sites):SizeOf.sizeOf s.Decl < SizeOf.sizeOf p∧SizeOf.sizeOf s.Routines < SizeOf.sizeOf p∧SizeOf.sizeOf p.Name < SizeOf.sizeOf p∧p.Sites.length < SizeOf.sizeOf p∧p.Links.length < SizeOf.sizeOf p:=by
 have h1:=List.sizeOf_lt_of_mem h
 have h2:SizeOf.sizeOf s.Decl < SizeOf.sizeOf s∧SizeOf.sizeOf s.Routines < SizeOf.sizeOf s:=by cases s; simp; omega
 have h3:SizeOf.sizeOf p.Sites < SizeOf.sizeOf p∧SizeOf.sizeOf p.Name < SizeOf.sizeOf p∧SizeOf.sizeOf p.Links < SizeOf.sizeOf p:=by cases p; simp; omega
 have h4:=ZM p.Sites; have h5:=ZM p.Links
 omega
theorem Zqv (L:Nat)(h1:1000≤L)(p:Zl)(h:VB p)(hL:2 * SizeOf.sizeOf p≤L)(hne:p.Sites.length < L)(T:Int)(hT:∀ seen:Seen,(bT (I7 L (p,())) fun (y:Int)=>bif y != (0:Int) then some y else Zx (Vj p L) L (0,0,seen,()))=some T) :
  Zx (Jw p L) L (0,0,[],())=some (if decide (Gg p.Name [] p.Sites≠0)=true then Gg p.Name [] p.Sites else T):=by
 have hl:=h.Sites.1
 have:=Zj0 (f := Jw p L) p.Sites (fun (s:Seen) i=>(0,i,s,())) (fun l s=>some (if decide (Gg p.Name s l≠0)=true then Gg p.Name s l else T)) (fun self s i x r hx hi mem e=>by
  have hz:=ZxW p mem
  have ok:=h.Sites.2 x mem
  have hr:=ok.Routines.1
  have e1:=Zuo L (by omega) p.Name h.Name (by have:=ZM p.Name; omega) x.Decl ok.Decl (by omega)
  have e2:=Zuk L x (by omega) (by have:=ZM x.Routines; omega)
  rw [Jw]
  simp only [Zk hi,cond_true,Zg,hx,ZA,e1,e2,ZH,Zh1,wrap_succ hi (by omega),e,Gg]
  by_cases a:M1 p.Name x.Decl=0
  ·rcases Bool.eq_false_or_eq_true (s.contains x.Decl.Name) with b | b
   ·have b':x.Decl.Name ∈ s:=List.contains_iff_mem.1 b
    simp [a,b']
   ·have b':¬ x.Decl.Name ∈ s:=fun hm=>by rw [List.contains_iff_mem.2 hm] at b; cases b
    rw [Zng _ _ b,e]
    rcases Bool.eq_false_or_eq_true (agB x) with g | g <;> simp [a,b',g]
  ·simp [a]) (fun self s=>by rw [Jw]; simp only [Zc,cond_false,hT,Gg]; rfl) L 0 [] (Nat.zero_le _) (by omega)
 rw [List.drop_zero] at this
 exact this
end Go.Proofs.YtgjcjbhhhlelnaaGreatDoor
end
section
namespace Go.Proofs.YtgjcjbhhhlelnaaGreatDoor
open Go Go.Proofs.YtgjcjbhhhlelnaaGreatDoor.Abs Go.Proofs.YtgjcjbhhhlelnaaGreatDoor.Tl
set_option maxRecDepth 100000
theorem Zx2 (L:Nat)(p:Zl)(h:p.Sites.length≤4611686018427387)(self:Int×Int×PUnit→Option Int)(i:Nat)(y:ZQ)(hy:p.Sites[i]? = some y)(hi:i < p.Sites.length)(hL:p.Sites.length < L)(hf:Tt L (y,())=some (agB y)) :
  Zx (UQ p L self (0,(i:Int),())) L (0,0,())=if ((p.Sites.take i).map fun s=>s.Decl.Name).contains y.Decl.Name=true then some 4 else bif !(agB y) then some 8 else self (0,IntKind.i64.wrap ((i:Int) + 1),()):=by
 have hlen:(p.Sites.take i).length=i:=by rw [List.length_take]; omega
 have:=Zf4 (f := UQ p L self (0,(i:Int),())) i (fun j=>(0,j,())) (fun j=>if (((p.Sites.take i).drop j).map fun s=>s.Decl.Name).contains y.Decl.Name=true then some 4 else bif !(agB y) then some 8 else self (0,IntKind.i64.wrap ((i:Int) + 1),())) (fun self1 j hj e=>by
  have hjl:j < p.Sites.length:=by omega
  have hx:=List.getElem?_eq_getElem hjl
  have hd:(p.Sites.take i).drop j=p.Sites[j] :: (p.Sites.take i).drop (j + 1):=by
   rw [List.drop_eq_getElem_cons (show j < (p.Sites.take i).length by omega),List.getElem_take]
  rw [hd,UQ]
  simp only [show decide ((j:Int) < (i:Int))=true by simp only [decide_eq_true_eq]; omega,cond_true,Zg,hx,hy,ZA,ZY,wrap_in (show -9223372036854775808≤(j:Int) + 1 by omega) (by omega),e,List.map_cons,List.contains_cons]
  generalize p.Sites[j]=x
  rw [decide_eq_decide.2 (⟨Eq.symm,Eq.symm⟩:y.Decl.Name=x.Decl.Name↔x.Decl.Name=y.Decl.Name)]
  cases decide (x.Decl.Name=y.Decl.Name) <;> rfl) (fun self1=>by
  rw [UQ]
  simp only [Zc,cond_false,Zg,hy,ZA,hf]
  rw [List.drop_eq_nil_of_le (by omega)]; rfl) L 0 (Nat.zero_le _) (by omega)
 rw [List.drop_zero] at this
 exact this
theorem Zxv (L:Nat)(h1:1000≤L)(p:Zl)(h:VB p)(hL:2 * SizeOf.sizeOf p≤L)(hne:p.Sites.length < L)(T:Int)(hT:(bT (Tq L (p,())) fun (y:Int)=>Zx (Xn p L) L (y,0,()))=some T) :
  Zx (UT p L) L (0,0,())=some (if decide (Gg p.Name [] p.Sites≠0)=true then Gg p.Name [] p.Sites else T):=by
 have hl:=h.Sites.1
 have:=Zf4 (f := UT p L) p.Sites.length (fun i=>(0,i,())) (fun i=>some (if decide (Gg p.Name ((p.Sites.take i).map fun s=>s.Decl.Name) (p.Sites.drop i)≠0)=true then Gg p.Name ((p.Sites.take i).map fun s=>s.Decl.Name) (p.Sites.drop i) else T)) (fun self i hi e=>by
  have hx:=List.getElem?_eq_getElem hi
  have ht:((p.Sites.take (i + 1)).map fun s=>s.Decl.Name)=((p.Sites.take i).map fun s=>s.Decl.Name) ++ [p.Sites[i].Decl.Name]:=by
   rw [List.take_succ,hx,List.map_append]; rfl
  have mem:=List.getElem_mem hi
  rw [List.drop_eq_getElem_cons hi,Gg]
  rw [ht] at e
  generalize p.Sites[i]=x at hx e mem
  have hz:=ZxW p mem
  have ok:=h.Sites.2 x mem
  have hr:=ok.Routines.1
  have e1:=ZrR L h1 p.Name h.Name (by have:=ZM p.Name; omega) x.Decl ok.Decl (by omega)
  have e2:=Zum L x (by omega) (by have:=ZM x.Routines; omega)
  rw [UT]
  simp only [Zk hi,cond_true,Zg,hx,ZA,Za,e1,ZH,Zx2 L p (by omega) self i x hx hi hne e2,wrap_succ hi (by omega),e]
  by_cases a:M1 p.Name x.Decl=0
  ·by_cases b:x.Decl.Name ∈ (p.Sites.take i).map fun s=>s.Decl.Name
   ·rw [List.contains_iff_mem.2 b]
    simp only [a,ne_eq,not_true_eq_false,decide_false,decide_true,Bool.not_true,Bool.not_false,Bool.false_eq_true,if_false,if_true,cond_true,cond_false] <;> rfl
   ·have b':((p.Sites.take i).map fun s=>s.Decl.Name).contains x.Decl.Name=false:=by rw [← Bool.not_eq_true,List.contains_iff_mem]; exact b
    rw [b']
    rcases Bool.eq_false_or_eq_true (agB x) with g | g <;> simp only [a,g,ne_eq,not_true_eq_false,decide_false,decide_true,Bool.not_true,Bool.not_false,Bool.false_eq_true,if_false,if_true,cond_true,cond_false] <;> rfl
  ·simp [a]) (fun self=>by
  rw [UT,List.drop_length]; simp only [Zc,cond_false,hT,Gg]; rfl) L 0 (Nat.zero_le _) (by omega)
 rw [List.drop_zero] at this
 exact this
end Go.Proofs.YtgjcjbhhhlelnaaGreatDoor
end
section
namespace Go.Proofs.YtgjcjbhhhlelnaaGreatDoor
open Go Go.Proofs.YtgjcjbhhhlelnaaGreatDoor.Abs Go.Proofs.YtgjcjbhhhlelnaaGreatDoor.Tl
set_option maxRecDepth 100000
def rX (V:Int→Wp→Int):Int→List ZQ→Int
 | _,[]=>0
 | i,x :: r=>if decide (Yl (V i) x.Routines≠0)=true then Yl (V i) x.Routines else rX V (i + 1) r
theorem Zta (L:Nat)(p:Zl)(V:Int→Wp→Int)(self:Int×Int×List (List UInt8)×PUnit→Option Int)(i:Nat)(seen s0:Seen)(y:ZQ)(hl:y.Routines.length≤4611686018427387)(hL:y.Routines.length < L)(hV:∀ c ∈ y.Routines,Y6 L (p,(i:Int),c,())=some (V i c)) :
  Zx (Jv p L self (0,(i:Int),s0,()) y) L (0,0,seen,())=if decide (Yl (V i) y.Routines≠0)=true then some (Yl (V i) y.Routines) else self (0,IntKind.i64.wrap ((i:Int) + 1),seen,()):=by
 have:=Zj0 (f := Jv p L self (0,(i:Int),s0,()) y) y.Routines (fun (_:Unit) j=>(0,j,seen,())) (fun l _=>if decide (Yl (V i) l≠0)=true then some (Yl (V i) l) else self (0,IntKind.i64.wrap ((i:Int) + 1),seen,())) (fun self1 s j x r hx hi mem e=>by
  rw [Jv]
  simp only [Zk hi,cond_true,Zg,hx,ZA,hV x mem,ZH,wrap_succ hi (by omega),e (),Yl]
  by_cases a:V i x=0 <;> simp [a]) (fun self1 s=>by rw [Jv]; simp only [Zc,cond_false,Yl]; rfl) L 0 () (Nat.zero_le _) (by omega)
 rw [List.drop_zero] at this
 exact this
theorem Zyn (L:Nat)(p:Zl)(V:Int→Wp→Int)(h:p.Sites.length≤4611686018427387)(hL:p.Sites.length < L)(hr:∀ y ∈ p.Sites,y.Routines.length≤4611686018427387∧y.Routines.length < L)(hV:∀ (i:Nat) y,p.Sites[i]? = some y→∀ c ∈ y.Routines,Y6 L (p,(i:Int),c,())=some (V i c))(seen:Seen) :
  Zx (Vj p L) L (0,0,seen,())=some (rX V 0 p.Sites):=by
 have:=Zf4 (f := Vj p L) p.Sites.length (fun i=>(0,i,seen,())) (fun i=>some (rX V i (p.Sites.drop i))) (fun self i hi e=>by
  have hx:=List.getElem?_eq_getElem hi
  have mem:=List.getElem_mem hi
  rw [List.drop_eq_getElem_cons hi,rX]
  generalize p.Sites[i]=y at hx mem
  rw [Vj]
  simp only [Zk hi,cond_true,Zg,hx,ZA,Zta L p V self i seen seen y (hr y mem).1 (hr y mem).2 (hV i y hx),wrap_succ hi (by omega),e]
  by_cases a:Yl (V i) y.Routines=0 <;> simp [a]) (fun self=>by rw [Vj,List.drop_length]; simp only [Zc,cond_false,rX]) L 0 (Nat.zero_le _) (by omega)
 rw [List.drop_zero] at this
 exact this
theorem Zu4 (L:Nat)(p:Zl)(V:Int→Wp→Int)(self:Int×Int×PUnit→Option Int)(i:Nat)(e0 n:Int)(y:ZQ)(hy:p.Sites[i]? = some y)(hl:y.Routines.length≤4611686018427387)(hL:y.Routines.length < L)(hV:∀ c ∈ y.Routines,YZ L (p,(i:Int),c,())=some (V i c)) :
  Zx (UR p L self (e0,(i:Int),())) L (n,0,())=self (if decide (n=0)=true then Yl (V i) y.Routines else n,IntKind.i64.wrap ((i:Int) + 1),()):=by
 refine Zcl (f := UR p L self (e0,(i:Int),())) y.Routines (fun l n=>self (if decide (n=0)=true then Yl (V i) l else n,IntKind.i64.wrap ((i:Int) + 1),())) hL n (fun self1 n j x r hx hi mem e=>?_) (fun self1 n=>?_)
 ·rw [UR]
  simp only [Zg,hy,ZA,Za,Zk hi,cond_true,hx,hV x mem,ZO,wrap_succ hi (by omega),e,Yl]
  by_cases a:n=0
  ·by_cases b:V i x=0 <;> simp [a,b]
  ·simp [a]
 ·rw [UR]
  simp only [Zg,hy,ZA,Zc,cond_false,Yl]
  by_cases a:n=0 <;> simp [a]
theorem Z1P (L:Nat)(p:Zl)(V:Int→Wp→Int)(h:p.Sites.length≤4611686018427387)(hL:p.Sites.length < L)(hr:∀ y ∈ p.Sites,y.Routines.length≤4611686018427387∧y.Routines.length < L)(hV:∀ (i:Nat) y,p.Sites[i]? = some y→∀ c ∈ y.Routines,YZ L (p,(i:Int),c,())=some (V i c))(n:Int) :
  Zx (Xn p L) L (n,0,())=some (if decide (n=0)=true then rX V 0 p.Sites else n):=by
 have key:∀ (m i:Nat) (n:Int),i≤p.Sites.length→p.Sites.length - i < m→Zx (Xn p L) m (n,(i:Int),())=some (if decide (n=0)=true then rX V i (p.Sites.drop i) else n):=by
  intro m
  induction m with
  | zero=>intro i n _ h; exact absurd h (Nat.not_lt_zero _)
  | succ m ih =>
   intro i n hi hm
   show Xn p L (Zx (Xn p L) m) (n,(i:Int),())=_
   rcases Nat.lt_or_ge i p.Sites.length with hlt | hge
   ·have hx:=List.getElem?_eq_getElem hlt
    have mem:=List.getElem_mem hlt
    rw [List.drop_eq_getElem_cons hlt,rX]
    generalize p.Sites[i]=y at hx mem
    rw [Xn]
    simp only [Zk hlt,cond_true,Zu4 L p V _ i n n y hx (hr y mem).1 (hr y mem).2 (hV i y hx),wrap_succ hlt (by omega)]
    rw [show ((i:Int) + 1)=((i + 1:Nat):Int) from rfl,ih (i + 1) _ hlt (by omega)]
    by_cases a:n=0
    ·by_cases b:Yl (V i) y.Routines=0 <;> simp [a,b]
    ·simp [a]
   ·have:i=p.Sites.length:=by omega
    subst this
    rw [Xn,List.drop_length]; simp only [Zc,cond_false,rX]
    by_cases a:n=0 <;> simp [a]
 have:=key L 0 n (Nat.zero_le _) (by omega)
 rw [List.drop_zero] at this
 exact this
end Go.Proofs.YtgjcjbhhhlelnaaGreatDoor
end
section
namespace Go.Proofs.YtgjcjbhhhlelnaaGreatDoor
open Go Go.Proofs.YtgjcjbhhhlelnaaGreatDoor.Abs Go.Proofs.YtgjcjbhhhlelnaaGreatDoor.Tl
set_option maxRecDepth 100000
theorem ZoF (L:Nat)(h1:1000≤L)(p:Zl)(h:VB p)(hL:2 * SizeOf.sizeOf p≤L):∃ v,WH L (p,())=some v∧Jb L (p,())=some v:=by
 have h3:SizeOf.sizeOf p.Sites < SizeOf.sizeOf p∧SizeOf.sizeOf p.Name < SizeOf.sizeOf p∧SizeOf.sizeOf p.Links < SizeOf.sizeOf p:=by cases p; simp; omega
 have h4:=ZM p.Sites; have h5:=ZM p.Links; have h6:=ZM p.Name
 have hs:=h.Sites.1; have hl:=h.Links.1
 have hn1:=Xc L p.Name (by have:=h.Name; unfold Len; omega) (by omega)
 have hn2:=Ui L p.Name (by have:=h.Name; unfold Len; omega) (by omega) (by omega)
 have hr:∀ y ∈ p.Sites,y.Routines.length≤4611686018427387∧y.Routines.length < L:=fun y mem=>by
  have hz:=ZxW p mem
  have:=(h.Sites.2 y mem).Routines.1
  have:=ZM y.Routines
  omega
 have hV:∀ (i:Nat) y,p.Sites[i]? = some y→∀ c ∈ y.Routines,Y6 L (p,(i:Int),c,())=some ((YZ L (p,(i:Int),c,())).getD 0)∧YZ L (p,(i:Int),c,())=some ((YZ L (p,(i:Int),c,())).getD 0):=fun i y hy c hc=>by
  have mem:=List.mem_of_getElem? hy
  have hz:=ZxW p mem
  have:=List.sizeOf_lt_of_mem hc
  obtain ⟨v,e1,e2⟩:=ZbG L h1 p (by omega) (by omega) (i:Int) y (by rw [Zg]; exact hy) c ((h.Sites.2 y mem).Routines.2 c hc) (by omega)
  rw [e1,e2]; exact ⟨rfl,rfl⟩
 obtain ⟨V,hV'⟩:∃ V:Int→Wp→Int,∀ (i:Nat) y,p.Sites[i]? = some y→∀ c ∈ y.Routines,Y6 L (p,(i:Int),c,())=some (V i c)∧YZ L (p,(i:Int),c,())=some (V i c):=⟨fun i c=>(YZ L (p,i,c,())).getD 0,hV⟩
 have ca:=ZrL L p (by omega) (by omega)
 have ra:=Zxh L p (by omega) (by omega)
 generalize (if decide (32 < (p.Links.length:Int))=true then 6 else S9 p [] p.Links)=A at ca ra
 have c1:=Zqv L h1 p h hL (by omega) (if decide (A=0)=true then rX V 0 p.Sites else A) (fun seen=>by
  rw [ca,ZA,Zyn L p V (by omega) (by omega) hr (fun i y hy c hc=>(hV' i y hy c hc).1) seen,ZH]
  by_cases a:A=0 <;> simp [a])
 have r1:=Zxv L h1 p h hL (by omega) (if decide (A=0)=true then rX V 0 p.Sites else A) (by
  rw [ra,ZA,Z1P L p V (by omega) (by omega) hr (fun i y hy c hc=>(hV' i y hy c hc).2) A])
 refine ⟨_,by rw [Zb6]; simp only [c1,hn1,ZA,ZO,ZH,Zm]; rfl,?_⟩
 rw [Zmm]; simp only [r1,hn2,ZA,ZO,ZH,Zm]
end Go.Proofs.YtgjcjbhhhlelnaaGreatDoor
end
section
namespace Go.Proofs.YtgjcjbhhhlelnaaGreatDoor
open Go Go.Proofs.YtgjcjbhhhlelnaaGreatDoor.Abs Go.Proofs.YtgjcjbhhhlelnaaGreatDoor.Tl
set_option maxRecDepth 100000
theorem Zjk {α:Type}(V:α→Int):∀ l:List α,Yl V l=0→∀ c ∈ l,V c=0
 | [],_,c,h=>by cases h
 | x :: l,h,c,hc=>by
  rw [Yl] at h
  by_cases a:V x=0
  ·simp [a] at h
   rcases List.mem_cons.1 hc with rfl | hc
   ·exact a
   ·exact Zjk V l h c hc
  ·simp [a] at h
theorem ZzT (V:Int→Wp→Int):∀ (l:List ZQ) (i:Nat),rX V i l=0→∀ (k:Nat) y,l[k]? = some y→∀ c ∈ y.Routines,V ((i + k:Nat):Int) c=0
 | [],_,_,k,y,h=>by simp at h
 | x :: l,i,h,k,y,hy=>by
  rw [rX] at h
  split at h
  ·rename_i a; simp only [decide_eq_true_eq] at a; exact absurd h a
  ·rename_i a
   have a:Yl (V i) x.Routines=0:=by simpa using a
   cases k with
   | zero=>simp at hy; subst hy; exact Zjk (V i) _ a
   | succ k =>
    have:=ZzT V l (i + 1) h k y (by simpa using hy)
    intro c hc
    have e:=this c hc
    rw [show i + (k + 1)=i + 1 + k by omega]; exact e
theorem Ztg (L:Nat)(h1:1000≤L)(p:Zl)(h:VB p)(hL:2 * SizeOf.sizeOf p≤L)(e:WH L (p,())=some 0) :
  (1≤p.Sites.length∧p.Sites.length≤16)∧(p.Links.length≤32∧S9 p [] p.Links=0)∧∀ (i:Nat) y,p.Sites[i]? = some y→∀ c ∈ y.Routines,Y6 L (p,(i:Int),c,())=some 0:=by
 have h3:SizeOf.sizeOf p.Sites < SizeOf.sizeOf p∧SizeOf.sizeOf p.Name < SizeOf.sizeOf p∧SizeOf.sizeOf p.Links < SizeOf.sizeOf p:=by cases p; simp; omega
 have h4:=ZM p.Sites; have h5:=ZM p.Links; have h6:=ZM p.Name
 have hs:=h.Sites.1; have hl:=h.Links.1
 have hn1:=Xc L p.Name (by have:=h.Name; unfold Len; omega) (by omega)
 have hr:∀ y ∈ p.Sites,y.Routines.length≤4611686018427387∧y.Routines.length < L:=fun y mem=>by
  have hz:=ZxW p mem
  have:=(h.Sites.2 y mem).Routines.1
  have:=ZM y.Routines
  omega
 obtain ⟨V,hV⟩:∃ V:Int→Wp→Int,∀ (i:Nat) y,p.Sites[i]? = some y→∀ c ∈ y.Routines,Y6 L (p,(i:Int),c,())=some (V i c):=⟨fun i c=>(Y6 L (p,i,c,())).getD 0,fun i y hy c hc=>by
  have mem:=List.mem_of_getElem? hy
  have hz:=ZxW p mem
  have:=List.sizeOf_lt_of_mem hc
  obtain ⟨v,e1,e2⟩:=ZbG L h1 p (by omega) (by omega) (i:Int) y (by rw [Zg]; exact hy) c ((h.Sites.2 y mem).Routines.2 c hc) (by omega)
  show _=some ((Y6 L (p,(i:Int),c,())).getD 0)
  rw [e1]; rfl⟩
 have ca:=ZrL L p (by omega) (by omega)
 generalize hA:(if decide (32 < (p.Links.length:Int))=true then 6 else S9 p [] p.Links)=A at ca
 have c1:=Zqv L h1 p h hL (by omega) (if decide (A=0)=true then rX V 0 p.Sites else A) (fun seen=>by
  rw [ca,ZA,Zyn L p V (by omega) (by omega) hr hV seen,ZH]
  by_cases a:A=0 <;> simp [a])
 rw [Zb6,hn1,ZA,c1] at e
 by_cases a1:VS p.Name=0
 rotate_left
 ·rw [ZH,decide_eq_false a1] at e; exact absurd (Option.some.inj e) a1
 by_cases a2:(p.Sites.length:Int)=0
 ·simp [a1,a2] at e
 by_cases a3:(p.Sites.length:Int) > 16
 ·have a3':decide ((p.Sites.length:Int) > 16)=true:=by simpa using a3
  rw [a3',ZH,a1,ZO,decide_eq_false a2] at e; cases e
 have a3':decide ((p.Sites.length:Int) > 16)=false:=by simpa using a3
 rw [a3',ZH,a1,ZO,decide_eq_false a2] at e
 replace e:(if decide (Gg p.Name [] p.Sites≠0)=true then Gg p.Name [] p.Sites else if decide (A=0)=true then rX V 0 p.Sites else A)=0:=Option.some.inj e
 split at e
 ·rename_i b; simp only [decide_eq_true_eq] at b; exact absurd e b
 rename_i b
 have b:Gg p.Name [] p.Sites=0:=by simpa using b
 split at e
 rotate_left
 ·rename_i d; exact absurd e (by simpa using d)
 rename_i d
 have d:A=0:=by simpa using d
 rw [d] at hA
 refine ⟨⟨by omega,by omega⟩,?_,fun i y hy c hc=>?_⟩
 ·split at hA
  ·cases hA
  ·rename_i g; exact ⟨by simp at g; omega,hA⟩
 ·have:=ZzT V p.Sites 0 e i y hy c hc
  rw [Nat.zero_add] at this
  rw [hV i y hy c hc,this]
theorem ZkX (p:Zl):∀ (l:List ZiD) (s:List (Int×Int)),S9 p s l=0→∀ x ∈ l,(0≤x.From∧x.From < p.Sites.length∧0≤x.To∧x.To < p.Sites.length∧x.From≠x.To∧1≤x.Delay∧x.Delay≤1000000000)∧Ep x ∉ s∧l.find? (fun y=>decide (y.From=x.From) && decide (y.To=x.To))=some x
 | [],_,_,x,h=>by cases h
 | y :: l,s,h,x,hx=>by
  rw [S9] at h
  split at h
  ·cases h
  rename_i a
  split at h
  ·cases h
  rename_i b
  have a':0≤y.From∧y.From < p.Sites.length∧0≤y.To∧y.To < p.Sites.length∧y.From≠y.To∧1≤y.Delay∧y.Delay≤1000000000:=by
   simp only [Bool.or_eq_true,decide_eq_true_eq,not_or] at a; omega
  have b':Ep y ∉ s:=fun m=>b (List.contains_iff_mem.2 m)
  rcases List.mem_cons.1 hx with rfl | hx
  ·exact ⟨a',b',by simp [List.find?_cons]⟩
  ·obtain ⟨c1,c2,c3⟩:=ZkX p l _ h x hx
   refine ⟨c1,fun m=>c2 (List.mem_append_left _ m),?_⟩
   have:(decide (y.From=x.From) && decide (y.To=x.To))=false:=by
    rw [← Bool.not_eq_true,Bool.and_eq_true,decide_eq_true_eq,decide_eq_true_eq]
    rintro ⟨d1,d2⟩
    exact c2 (List.mem_append_right _ (by simp [Ep,d1,d2]))
   rw [List.find?_cons,this]; exact c3
end Go.Proofs.YtgjcjbhhhlelnaaGreatDoor
end
section
namespace Go.Proofs.YtgjcjbhhhlelnaaGreatDoor
open Go Go.Proofs.YtgjcjbhhhlelnaaGreatDoor.Abs Go.Proofs.YtgjcjbhhhlelnaaGreatDoor.Tl
set_option maxRecDepth 100000
def at_ (l:List Int)(i:Int):Int:=l.getD i.toNat 0
end Go.Proofs.YtgjcjbhhhlelnaaGreatDoor
end
section
namespace Go.Proofs.YtgjcjbhhhlelnaaGreatDoor
open Go Go.Proofs.YtgjcjbhhhlelnaaGreatDoor.Abs
set_option maxRecDepth 100000
set_option maxHeartbeats 0
abbrev ZcJ:FuncId:=44
def Zo:List Nat:=[24,25]
def Yw (G:GT)(K:KT)(L:Nat)(hp0:HP)(y7:AV)(hp:HP)(ef:Eff):KR :=
 some (Za8 true hp0 y7 hp ef)
theorem Ua (G:GT)(K:KT)(L:Nat)(hp0:HP)   : Y7 G 48 hp0.length K Zo L XD (JM Zo Zy hp0) (JM Zo Zy hp0) []=fun e hp ef=>Yw G K L hp0  (e 7).val hp ef:=by
 kernel_rfl
def Yf (G:GT)(K:KT)(L:Nat)(hp0:HP)(k0:AV→HP→Eff→KR):Nat→AV→AV→AV→HP→Eff→KR
 | 0,_,_,_,_,_=>none
 | m + 1,x7,y7,x8,hp,ef =>
  Yc (QU hp .slice x7) fun v14 =>
  Yc (ZC .lss .prim x8 v14) fun v15 =>
  ifK v15
  (Yc (XK (.slice 1) x7 (some x8) none) fun v16 =>
  Yc (XK (.slice 1) x7 none (some x8)) fun v17 =>
  Gy (copyV hp0.length 1 v16 v17 hp ef) fun v18 h19 f20 =>
  Yc (ZC .add .prim x8 v18) fun v21 =>
  Yf G K L hp0 k0 m x7 y7 v21 h19 f20)
  (k0 y7 hp ef)
theorem Uc (G:GT)(K:KT)(L:Nat)(hp0:HP)(k0:AV→HP→Eff→KR)  : ∀ m,Gn (fun n'=>Y7 G 48 hp0.length K Zo L WR n' (JM Zo Zy hp0) [(0,(fun e hp ef=>k0 (e 7).val hp ef))]) m=fun e hp ef=>Yf G K L hp0 k0 m (e 7).rd (e 7).val (e 8).rd hp ef:=by
 intro m
 induction m with
 | zero=>rfl
 | succ m ih =>
  show Y7 G 48 hp0.length K Zo L WR (Gn _ m) (JM Zo Zy hp0) [(0,(fun e hp ef=>k0 (e 7).val hp ef))]=_
  rw [ih]
  kernel_rfl
theorem Ub (G:GT)(K:KT)(L:Nat)(hp0:HP)(k0:AV→HP→Eff→KR)(zn:Ut):Y7 G 48 hp0.length K Zo L XE zn (JM Zo Zy hp0) [(0,(fun e hp ef=>k0 (e 7).val hp ef))]=fun e hp ef=>Yf G K L hp0 k0 L (e 7).rd (e 7).val (e 8).rd hp ef:=Uc G K L hp0 k0  L
def Qd (G:GT)(K:KT)(L:Nat)(hp0:HP)(x0:AV)(x6:AV)(hp:HP)(ef:Eff):KR :=
 Yc (XV hp (.int .i64) x6) fun v8 =>
 Zad (Fp WP [(.int .i64 0)] v8 hp) fun v9 h10 =>
 Gy (copyV hp0.length 1 v9 x0 h10 ef) fun v11 h12 f13 =>
 Yf G K L hp0 (Yw G K L hp0) L v9 v9 v11 h12 f13
theorem JZ (G:GT)(K:KT)(L:Nat)(hp0:HP)   : Y7 G 48 hp0.length K Zo L Qb (JM Zo Zy hp0) (JM Zo Zy hp0) []=fun e hp ef=>Qd G K L hp0  (e 0).rd (e 6).rd hp ef:=by
 simp only [Qb,Xy,WS,WT,Qx]
 rw [Ua G K L hp0  ,Ub G K L hp0 (Yw G K L hp0)  _]
 kernel_rfl
def Qc (G:GT)(K:KT)(L:Nat)(hp0:HP)(x0:AV)(x1:AV)(hp:HP)(ef:Eff):KR :=
 Yc (QU hp .slice x0) fun v0 =>
 Yc (XV hp (.int .u64) v0) fun v1 =>
 Yc (XV hp (.int .u64) x1) fun v2 =>
 Gy (K ZcJ [v1,v2] hp) fun v3 h4 f5 =>
 Yc (Vo (AV.ro v3) 0) fun v6 =>
 Yc (Vo (AV.ro v3) 1) fun v7 =>
 Yc (ZC .gtr .prim v6 (.int .u64 0)) fun v22 =>
 Zgy v22 false
 (Yc (ZC .gtr .prim v7 (.int .u64 9223372036854775807)) fun v23 =>
 some (v23,h4,(Vy hp0.length ef f5)))
 (some (.bool true)) h4 (Vy hp0.length ef f5) fun v24 h25 f26 =>
 ifK (AV.ro v24)
 (none)
 (Qd G K L hp0  x0 v7 h25 f26)
theorem JY (G:GT)(K:KT)(L:Nat)(hp0:HP)   : Y7 G 48 hp0.length K Zo L Qa (JM Zo Zy hp0) (JM Zo Zy hp0) []=fun e hp ef=>Qc G K L hp0  (e 0).rd (e 1).rd hp ef:=by
 simp only [Qa,Xy,WS,WT,Qx]
 rw [JZ G K L hp0 ]
 kernel_rfl
def QM (G:GT)(K:KT)(L:Nat)(x0 x1:AV)(hp0:HP):KR :=
 Yc (ZC .lss .prim (AV.ro x1) (.int .i64 0)) fun v27 =>
 ifK v27
 (none)
 (Qc G K L hp0  (AV.ro x0) (AV.ro x1) hp0 none)
theorem Gj (G:GT)(K:KT)(L:Nat)(x0 x1:AV)(hp0:HP):fnK G K Zo L Zy [x0,x1] hp0=QM G K L x0 x1 hp0:=by
 show Y7 G 48 hp0.length K Zo L QK (JM Zo Zy hp0) (JM Zo Zy hp0) [] (ZsR [x0,x1]) hp0 none=_
 simp only [QK,Xy,WS,WT,Qx]
 rw [JY G K L hp0 ]
 kernel_rfl
theorem Il {C:Cfg}(h:C.T ZI=some Zy){n:Nat}{x0 x1:AV}{hp:HP}{r:AV×HP×Eff}(hr:QM C.G (Zr C n) C.L x0 x1 hp=some r):Zr C (n + 1) ZI [x0,x1] hp=some r:=Zb2 h (Nat.le_of_ble_eq_true rfl) ((Gj ..).trans hr)
end Go.Proofs.YtgjcjbhhhlelnaaGreatDoor
end
section
namespace Go.Proofs.YtgjcjbhhhlelnaaGreatDoor
open Go Go.RowKit Go.Proofs.YtgjcjbhhhlelnaaGreatDoor.Abs Go.Proofs.YtgjcjbhhhlelnaaGreatDoor.Tl
set_option maxRecDepth 100000
set_option maxHeartbeats 0
noncomputable def Zcx:Cfg:=⟨fun _=>none,fun f=>(Zx7.find? (·.1 == f)).map (·.2),fun _ _ _=>none,64⟩
theorem ZvB (W0:World):ZiF Tryz.prog W0 Zcx where
 mixed:=by kernel_rfl
 globals:=fun g cells h=>by cases h
 table:=fun f af h=>by
  have h:(Zx7.find? (·.1 == f)).map (·.2)=some af:=h
  obtain ⟨p,hp,rfl⟩:=Option.map_eq_some_iff.1 h
  have hf:=List.find?_some hp
  have:p.1=f:=by simpa using hf
  subst this
  exact ZmY p (List.mem_of_find?_eq_some hp)
 oracle:=fun _ _ _ _ _ _ h=>by cases h
theorem Z1z (hp:HP):Zr Zcx 7 44 [.int .u64 1,.int .u64 1] hp=some (.tup [.int .u64 0,.int .u64 1],hp,none):=by kernel_rfl
theorem Z10 (hp:HP):Zr Zcx 7 44 [.int .u64 1,.int .u64 2] hp=some (.tup [.int .u64 0,.int .u64 2],hp,none):=by kernel_rfl
theorem Z11 (hp:HP):Zr Zcx 7 44 [.int .u64 1,.int .u64 3] hp=some (.tup [.int .u64 0,.int .u64 3],hp,none):=by kernel_rfl
theorem Z12 (hp:HP):Zr Zcx 7 44 [.int .u64 1,.int .u64 4] hp=some (.tup [.int .u64 0,.int .u64 4],hp,none):=by kernel_rfl
theorem Z13 (hp:HP):Zr Zcx 7 44 [.int .u64 1,.int .u64 5] hp=some (.tup [.int .u64 0,.int .u64 5],hp,none):=by kernel_rfl
theorem Z14 (hp:HP):Zr Zcx 7 44 [.int .u64 1,.int .u64 6] hp=some (.tup [.int .u64 0,.int .u64 6],hp,none):=by kernel_rfl
theorem Z15 (hp:HP):Zr Zcx 7 44 [.int .u64 1,.int .u64 7] hp=some (.tup [.int .u64 0,.int .u64 7],hp,none):=by kernel_rfl
theorem Z16 (hp:HP):Zr Zcx 7 44 [.int .u64 1,.int .u64 8] hp=some (.tup [.int .u64 0,.int .u64 8],hp,none):=by kernel_rfl
theorem Z17 (hp:HP):Zr Zcx 7 44 [.int .u64 1,.int .u64 9] hp=some (.tup [.int .u64 0,.int .u64 9],hp,none):=by kernel_rfl
theorem ZyZ (hp:HP):Zr Zcx 7 44 [.int .u64 1,.int .u64 10] hp=some (.tup [.int .u64 0,.int .u64 10],hp,none):=by kernel_rfl
theorem Zza (hp:HP):Zr Zcx 7 44 [.int .u64 1,.int .u64 11] hp=some (.tup [.int .u64 0,.int .u64 11],hp,none):=by kernel_rfl
theorem Zzb (hp:HP):Zr Zcx 7 44 [.int .u64 1,.int .u64 12] hp=some (.tup [.int .u64 0,.int .u64 12],hp,none):=by kernel_rfl
theorem Zzc (hp:HP):Zr Zcx 7 44 [.int .u64 1,.int .u64 13] hp=some (.tup [.int .u64 0,.int .u64 13],hp,none):=by kernel_rfl
theorem Zzd (hp:HP):Zr Zcx 7 44 [.int .u64 1,.int .u64 14] hp=some (.tup [.int .u64 0,.int .u64 14],hp,none):=by kernel_rfl
theorem Zze (hp:HP):Zr Zcx 7 44 [.int .u64 1,.int .u64 15] hp=some (.tup [.int .u64 0,.int .u64 15],hp,none):=by kernel_rfl
theorem Zzf (hp:HP):Zr Zcx 7 44 [.int .u64 1,.int .u64 16] hp=some (.tup [.int .u64 0,.int .u64 16],hp,none):=by kernel_rfl
theorem Z18 (hp:HP)(n:Nat)(h1:1≤n)(h2:n≤16):Zr Zcx 7 44 [.int .u64 1,.int .u64 n] hp=some (.tup [.int .u64 0,.int .u64 n],hp,none):=by
 have:n=1∨n=2∨n=3∨n=4∨n=5∨n=6∨n=7∨n=8∨n=9∨n=10∨n=11∨n=12∨n=13∨n=14∨n=15∨n=16:=by omega
 rcases this with rfl | rfl | rfl | rfl | rfl | rfl | rfl | rfl | rfl | rfl | rfl | rfl | rfl | rfl | rfl | rfl
 ·exact Z1z hp
 ·exact Z10 hp
 ·exact Z11 hp
 ·exact Z12 hp
 ·exact Z13 hp
 ·exact Z14 hp
 ·exact Z15 hp
 ·exact Z16 hp
 ·exact Z17 hp
 ·exact ZyZ hp
 ·exact Zza hp
 ·exact Zzb hp
 ·exact Zzc hp
 ·exact Zzd hp
 ·exact Zze hp
 ·exact Zzf hp
theorem Zgp:∀ (k:Nat) (l:List AV),k≤l.length→chunk 1 k l=(l.take k).map fun a=>[a]
 | 0,l,_=>rfl
 | k + 1,[],h=>by simp at h
 | k + 1,a :: l,h=>by
  rw [chunk,List.take_succ_cons,List.take_zero,List.drop_succ_cons,List.drop_zero,Zgp k l (by simpa using h),List.take_succ_cons,List.map_cons]
theorem Ztq (l:List AV):(l.map fun a=>[a]).flatten=l:=by
 induction l with
 | nil=>rfl
 | cons a l ih=>rw [List.map_cons,List.flatten_cons,ih]; rfl
def Zj4 (k z:Nat):List Int:=List.replicate k (-1) ++ List.replicate z 0
theorem ZtN (k z:Nat):(Zj4 k z).length=k + z:=by simp [Zj4]
theorem Zj5 (k z c:Nat)(h:c≤k):(Zj4 k z).take c=List.replicate c (-1):=by
 rw [Zj4,List.take_append_of_le_length (by simpa using h),List.take_replicate,Nat.min_eq_left h]
theorem ZmV (k z c:Nat)(h1:c≤k)(h2:c≤z):splice (YO (Zj4 k z)) k (YO (List.replicate c (-1)))=YO (Zj4 (k + c) (z - c)):=by
 simp only [splice,YO,List.length_map,List.length_replicate]
 rw [← List.map_take,← List.map_drop,← List.map_append,← List.map_append]
 congr 1
 rw [Zj5 k z k (Nat.le_refl _),Zj4,Zj4,List.drop_append,List.length_replicate]
 rw [List.drop_eq_nil_of_le (by simp),List.nil_append,show k + c - k=c by omega,List.drop_replicate,List.replicate_append_replicate]
theorem Zx0 (l:List Int):(YO l).map AV.ro=YO l:=by rw [YO,List.map_map]; rfl
theorem ZtZ (l:List Int):(YO l).all AV.one=true:=by simp [YO,AV.one]
theorem ZvY (bs:Nat)(h:HP)(t:TypeId)(k z:Nat)(hk:1≤k)(hz:1≤z)(hb:bs≤h.length):copyV bs 1 (.arr h.length k z 1) (.arr h.length 0 k 1) (h ++ [.cells (YO (Zj4 k z)) t]) none =
  some (.int .i64 (min k z:Nat),h ++ [.cells (YO (Zj4 (k + min k z) (z - min k z))) t],none):=by
 have hl:(YO (Zj4 k z)).length=k + z:=by rw [List.length_map,ZtN]
 have e1:rowsOf (h ++ [.cells (YO (Zj4 k z)) t]) (.arr h.length 0 k 1)=some (1,(YO (List.replicate k (-1))).map fun a=>[a]):=by
  simp only [rowsOf,XF]
  rw [if_pos (by omega),List.drop_zero,Zgp k _ (by omega),YO,← List.map_take,Zj5 k z k (Nat.le_refl _)]
 have e2:(((YO (List.replicate k (-1))).map fun a=>[a]).take (min k z)).flatten.map AV.ro=YO (List.replicate (min k z) (-1)):=by
  rw [← List.map_take,Ztq,YO,← List.map_take,List.take_replicate,show min (min k z) k=min k z by omega]
  exact Zx0 _
 have e3:((YO (List.replicate k (-1))).map fun a=>[a]).length=k:=by simp [YO]
 have e4:Nat.min k z=min k z:=rfl
 simp only [copyV,e1,XF,e3,e4]
 rw [e2,if_pos ⟨trivial,trivial,by omega,ZtZ _⟩,ZhB,ZmV k z _ (Nat.min_le_left _ _) (Nat.min_le_right _ _)]
 have:Eh bs none h.length 0=none:=by simp [Eh]; omega
 rw [this]
theorem ZnD (G:GT)(K:KT)(L:Nat)(hp0:HP)(t:TypeId)(n:Nat)(hn:n≤16):∀ (m k:Nat),1≤k→k≤n→n - k < m →
  Yf G K L hp0 (Yw G K L hp0) m (.arr hp0.length 0 n 1) (.arr hp0.length 0 n 1) (.int .i64 k) (hp0 ++ [.cells (YO (Zj4 k (n - k))) t]) none=some (.arr hp0.length 0 n 1,hp0 ++ [.cells (YO (Zj4 n 0)) t],none)
 | 0,_,_,_,h=>absurd h (Nat.not_lt_zero _)
 | m + 1,k,hk,hkn,hm=>by
  rw [Yf]
  have e0:QU (hp0 ++ [.cells (YO (Zj4 k (n - k))) t]) .slice (.arr hp0.length 0 n 1)=some (.int .i64 n):=rfl
  rcases Nat.lt_or_ge k n with hlt | hge
  ·have el:decide ((k:Int) < (n:Int))=true:=by simp; omega
   have h':(k:Int)≤n:=by omega
   have hne:k≠n:=by omega
   have h0:(0:Nat)≠k:=by omega
   have e1:XK (.slice 1) (.arr hp0.length 0 n 1) (some (.int .i64 k)) none=some (.arr hp0.length k (n - k) 1):=by simp [XK,bound,h',hne]
   have e2:XK (.slice 1) (.arr hp0.length 0 n 1) none (some (.int .i64 k))=some (.arr hp0.length 0 k 1):=by simp [XK,bound,h',h0]
   have e3:=ZvY hp0.length hp0 t k (n - k) hk (by omega) (Nat.le_refl _)
   have ew:IntKind.i64.wrap ((k:Int) + ((min k (n - k):Nat):Int))=((k + min k (n - k):Nat):Int):=by rw [i64_in (by omega) (by omega)]; omega
   have ih:=ZnD G K L hp0 t n hn m (k + min k (n - k)) (by omega) (by omega) (by omega)
   rw [show n - (k + min k (n - k))=n - k - min k (n - k) by omega] at ih
   simp only [EV,e0,el,e1,e2,e3,ew,ih,if_true]
  ·obtain rfl:k=n:=by omega
   have el:decide ((k:Int) < (k:Int))=false:=by simp
   rw [Nat.sub_self] at e0 ⊢
   simp only [EV,e0,el,Yw,Bool.false_eq_true,if_false]
   rfl
theorem ZuN (hp:HP)(n:Nat)(h1:1≤n)(h2:n≤16):Zr Zcx 8 ZI [.lst 1 [[.int .i64 (-1)]],.int .i64 n] hp=some (.arr hp.length 0 n 1,hp ++ [.cells (YO (List.replicate n (-1))) WP],none):=by
 refine Il (by kernel_rfl) ?_
 have a1:decide ((n:Int) < 0)=false:=by simp
 have a2:IntKind.u64.wrap (n:Int)=n:=by
  have:IntKind.u64.wrap (n:Int)=(n:Int) % 18446744073709551616:=rfl
  rw [this]; omega
 have a3:IntKind.u64.wrap (((1:Nat)):Int)=1:=rfl
 have a4:decide ((0:Int) < 0)=false:=rfl
 have a5:decide ((9223372036854775807:Int) < n)=false:=by simp; omega
 have a6:IntKind.i64.wrap (n:Int)=n:=i64_in (by omega) (by omega)
 have a7:Fp WP [.int .i64 0] (.int .i64 n) hp=some (.arr hp.length 0 n 1,hp ++ [.cells (YO (List.replicate n 0)) WP]):=by
  have:(0:Int)≤(n:Int)∧(n:Int)≤4294967296:=⟨by omega,by omega⟩
  simp only [Fp,if_pos this,Int.toNat_natCast,List.length_singleton]
  rw [YO,List.map_replicate,MF]
 have a8:copyV hp.length 1 (.arr hp.length 0 n 1) (.lst 1 [[.int .i64 (-1)]]) (hp ++ [.cells (YO (List.replicate n 0)) WP]) none=some (.int .i64 1,hp ++ [.cells (YO (Zj4 1 (n - 1))) WP],none):=by
  have e1:rowsOf (hp ++ [.cells (YO (List.replicate n 0)) WP]) (.lst 1 [[.int .i64 (-1)]])=some (1,[[.int .i64 (-1)]]):=rfl
  have e2:Nat.min 1 n=1:=Nat.min_eq_left h1
  have e3:(YO (List.replicate n 0)).length=n:=by simp [YO]
  simp only [copyV,e1,XF,List.length_singleton,e2]
  rw [if_pos ⟨trivial,trivial,by omega,rfl⟩,ZhB]
  have:Eh hp.length none hp.length 0=none:=by simp [Eh]
  rw [this]
  obtain ⟨q,rfl⟩:∃ q,n=q + 1:=⟨n - 1,by omega⟩
  rfl
 have a9:=ZnD Zcx.G (Zr Zcx 7) Zcx.L hp WP n h2 64 1 (Nat.le_refl _) h1 (by omega)
 rw [show Zj4 n 0=List.replicate n (-1) from List.append_nil _] at a9
 have b1:AV.ro (.tup [.int .u64 0,.int .u64 n])=.tup [.int .u64 0,.int .u64 n]:=rfl
 have b2:=Z18 hp n h1 h2
 simp only [QM,Qc,Qd,EV,EX,GI,BL,a1,a2,a3,a4,a5,a6,a7,a8,b1,b2,Bool.false_eq_true,if_false,List.length_singleton]
 exact a9
end Go.Proofs.YtgjcjbhhhlelnaaGreatDoor
end
