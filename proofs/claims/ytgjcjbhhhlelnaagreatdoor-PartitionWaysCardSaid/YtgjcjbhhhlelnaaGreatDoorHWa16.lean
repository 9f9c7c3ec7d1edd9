import Derived.Test.YtgjcjbhhhlelnaaGreatDoorHWa15
set_option linter.all false
section
namespace Go.Proofs.YtgjcjbhhhlelnaaGreatDoor
open Go Go.Proofs.YtgjcjbhhhlelnaaGreatDoor.Abs Go.Proofs.YtgjcjbhhhlelnaaGreatDoor.Tl
set_option maxRecDepth 100000
theorem Zcj {α:Type}(nm:α→List UInt8)(s:List UInt8)(l:List α):decide (G8 (fun x=>decide (nm x=s)) l 0 ≥ 0)=(l.map nm).contains s:=by
 rw [show decide (G8 (fun x=>decide (nm x=s)) l 0 ≥ 0)=_ from Fa _ l 0 (Int.le_refl _),← Zli,List.any_map]
 congr 1; funext x; exact decide_eq_decide.2 ⟨Eq.symm,Eq.symm⟩
theorem Jr (d:Zc):SizeOf.sizeOf d.Name < SizeOf.sizeOf d∧SizeOf.sizeOf d.Vars < SizeOf.sizeOf d∧SizeOf.sizeOf d.Resources < SizeOf.sizeOf d∧SizeOf.sizeOf d.Stores < SizeOf.sizeOf d∧SizeOf.sizeOf d.Belts < SizeOf.sizeOf d∧SizeOf.sizeOf d.Queues < SizeOf.sizeOf d∧SizeOf.sizeOf d.Streams < SizeOf.sizeOf d∧SizeOf.sizeOf d.Tallies < SizeOf.sizeOf d∧SizeOf.sizeOf d.Levels < SizeOf.sizeOf d∧SizeOf.sizeOf d.Counts < SizeOf.sizeOf d∧SizeOf.sizeOf d.Routines < SizeOf.sizeOf d∧SizeOf.sizeOf d.Starts < SizeOf.sizeOf d∧SizeOf.sizeOf d.Laws < SizeOf.sizeOf d:=by
 cases d; simp; omega
structure Sh (L:Nat)(d:Zc):Prop where
 nm:d.Name.length < L
 vars:d.Vars.length < L
 res:d.Resources.length < L
 sto:d.Stores.length < L
 bel:d.Belts.length < L
 que:d.Queues.length < L
 str:d.Streams.length < L
 tal:d.Tallies.length < L
 lev:d.Levels.length < L
 cnt:d.Counts.length < L
 rou:d.Routines.length < L
 sta:d.Starts.length < L
 law:d.Laws.length < L
theorem Sh.of {L:Nat}{d:Zc}(h:SizeOf.sizeOf d≤L):Sh L d:=by
 have:=Jr d
 constructor
 ·have:=ZI d.Name; omega
 ·have:=ZI d.Vars; omega
 ·have:=ZI d.Resources; omega
 ·have:=ZI d.Stores; omega
 ·have:=ZI d.Belts; omega
 ·have:=ZI d.Queues; omega
 ·have:=ZI d.Streams; omega
 ·have:=ZI d.Tallies; omega
 ·have:=ZI d.Levels; omega
 ·have:=ZI d.Counts; omega
 ·have:=ZI d.Routines; omega
 ·have:=ZI d.Starts; omega
 ·have:=ZI d.Laws; omega
theorem Znv (L:Nat)(d:Zc)(t:IY)(h:ZH d)(hL:d.Stores.length < L):Zt (XX d t) L (0,())=some (G8 (fun x:Yv=>decide (x.Name=t.Name)) d.Stores 0):=by
 have:=h.st
 exact Zjs d.Stores (fun l i=>some (G8 (fun x:Yv=>decide (x.Name=t.Name)) l i)) hL (fun self i x r hx hi _ e=>by
  rw [XX]; simp only [Zj,Zd,cond_true,cond_false,Zf,Z5,Za,Zq,condC,Zi,Zh,Zn,ZL,ZU,ZE,hi,hx,wrap_succ hi (by omega),e,G8]; simp only [Yo,Xh,if_true,if_false,Bool.false_eq_true,ne_eq,decide_not,gt_iff_lt,ge_iff_le]) (fun self=>by rw [XX]; simp only [Zj,Zd,cond_true,cond_false,Zf,Z5,Za,Zq,condC,Zi,Zh,Zn,ZL,ZU,ZE,G8])
theorem ZxF (L:Nat)(d:Zc)(t:IY)(h:ZH d)(hs:Sh L d):I7 L (d,t,())=some (ZdV d t):=by
 have:=h.st
 have sl:=Znv L d t h hs.sto
 rw [ZhW,show Eu=XX from rfl,show Ew=XX from rfl]
 simp only [Zj,Zd,cond_true,cond_false,Zf,Z5,Za,Zq,condC,Zi,Zh,Zn,ZL,ZU,ZE,ZeK L d t.Name (by unfold Len; omega) hs.rou,sl,ZeJ L d.Counts t.Name (by unfold Len; omega) hs.cnt,Ux,Zcj,ZdV,ZdW]; simp only [Yo,Xh,if_true,if_false,Bool.false_eq_true,ne_eq,decide_not,gt_iff_lt,ge_iff_le]
theorem Z0f {l:List Zdz}{x:Zdz}(h:x ∈ l):x.Terms.length < SizeOf.sizeOf l∧x.Name.length < SizeOf.sizeOf l:=by
 have:=List.sizeOf_lt_of_mem h
 have h1:=ZI x.Terms; have h2:=ZI x.Name
 have:SizeOf.sizeOf x.Terms < SizeOf.sizeOf x∧SizeOf.sizeOf x.Name < SizeOf.sizeOf x:=by cases x; simp; omega
 omega
theorem NK {α σ:Type}(f:α→Int)(s:σ):∀ l:List α,YH (fun x s=>(f x,s)) l s=(Yh f l,s)
 | []=>rfl
 | x :: l=>by rw [YH,NK f s l,Yh]; split <;> rfl
theorem ZxA (L:Nat)(d:Zc)(h:ZH d)(hL:SizeOf.sizeOf d≤L):I4 L (d,())=some (Dy d):=by
 have hs:=Sh.of hL
 have hz:=Jr d
 have hl:d.Laws.length≤4611686018427387:=by have:=h.Laws.1; omega
 have lp:=ZfE (f := KF d L) d.Laws (fun l:Zdz=>Yx l.Name (Zqz d l)) hs.law ([]:Seen) (fun self s i x hx hi mem=>by
  have hsz:=Z0f mem
  have ok:=h.Laws.2 x mem
  have hn:=QH L x.Name (by have:=ok.Name; unfold Len; omega) (by omega)
  have ht:=ok.t
  have tl:=fun s:Seen=>ZfE (f := KE d L x) x.Terms (fun t s=>(ZdV d t,s)) (show x.Terms.length < L by omega) s (fun self s i t hx hi mem=>by
   rw [KE]; simp only [Zj,Zd,cond_true,cond_false,Zf,Z5,Za,Zq,condC,Zi,Zh,Zn,ZL,ZU,ZE,hi,hx,ZxF L d t h hs,wrap_succ hi (by omega)]) (fun self s=>by rw [KE]; simp only [Zj,Zd,cond_true,cond_false,Zf,Z5,Za,Zq,condC,Zi,Zh,Zn,ZL,ZU,ZE])
  simp only [NK] at tl
  rw [KF]
  simp only [Zj,cond_true,Zf,Z5,ZE,KA,hi,hx,hn]
  simp only [Zj,Zd,cond_true,cond_false,Zf,Z5,Za,Zq,condC,Zi,Zh,Zn,ZL,ZU,ZE,Zz7,tl,wrap_succ hi (by omega)]
  simp only [Yx,Zqz,PV]
  by_cases a:(Y7 x.Name s).1=0 <;> by_cases b:x.Terms=[] <;> by_cases c:8 < (x.Terms.length:Int) <;> by_cases e:Yh (ZdV d) x.Terms=0 <;> rcases Bool.eq_false_or_eq_true (inB x.Total) with g | g <;> simp [a,b,c,e,g,Z5])
  (fun self s=>by rw [KF]; simp only [Zj,Zd,cond_true,cond_false,Zf,Z5,Za,Zq,condC,Zi,Zh,Zn,ZL,ZU,ZE])
 rw [ZhU,G6 32 (fun l:Zdz=>Yx l.Name (Zqz d l)) d.Laws [] lp,Z5]
 rfl
end Go.Proofs.YtgjcjbhhhlelnaaGreatDoor
end
section
namespace Go.Proofs.YtgjcjbhhhlelnaaGreatDoor
open Go Go.Proofs.YtgjcjbhhhlelnaaGreatDoor.Abs Go.Proofs.YtgjcjbhhhlelnaaGreatDoor.Tl
set_option maxRecDepth 100000
theorem ZrW (L:Nat)(a b:List WB)(h:a.length + b.length≤1000)(hL:2 < L):Yd L ([a,b],())=some (a ++ b):=by
 have w1:IntKind.i64.wrap (0 + (a.length:Int))=a.length:=by rw [Int.zero_add]; exact wrap_in (by omega) (by omega)
 have w2:IntKind.i64.wrap ((a.length:Int) + b.length)=(a.length:Int) + b.length:=wrap_in (by omega) (by omega)
 have n1:decide ((a.length:Int) < 0)=false:=by simp only [decide_eq_false_iff_not]; omega
 have n2:decide ((a.length:Int) + b.length < 0)=false:=by simp only [decide_eq_false_iff_not]; omega
 have g:Zrl [] ((a.length:Int) + b.length)=some []:=by unfold Zrl; rw [if_pos ⟨rfl,by omega,by omega⟩]
 have p1:apT 24 [] a=some a:=by unfold apT; rw [if_pos (by simp only [List.length_nil]; omega)]; rfl
 have p2:apT 24 a b=some (a ++ b):=by unfold apT; rw [if_pos (by omega)]
 rw [Vk,ZdI _ hL]
 simp only [WF,two,w01,Z5,cond_true,cond_false,w1,w2,n1,n2,g,ZdI (Y2 _) hL,Y2,p1,p2]
theorem Zzn {α σ:Type}{f:(Int×σ×PUnit→Option Int)→Int×σ×PUnit→Option Int}(l:List α)(step:α→σ→Int×σ)(e:Int){m:Nat}(hm:l.length < m)(s:σ)
  (h1:∀ self s (i:Nat) x,l[i]? = some x→i < l.length→x ∈ l→f self ((i:Int),s,())=bif !decide ((step x s).1=0) then some (step x s).1 else self ((i:Int) + 1,(step x s).2,()))
  (h2:∀ self s,f self ((l.length:Int),s,())=some e):Zt f m (0,s,())=some (if decide ((YH step l s).1≠0)=true then (YH step l s).1 else e) :=
 Zcs l (fun s i=>(i,s,())) (fun l s=>some (if decide ((YH step l s).1≠0)=true then (YH step l s).1 else e)) (fun self s i x r hx hi mem e=>by
  rw [h1 self s i x hx hi mem,e,YH]
  by_cases c:(step x s).1=0 <;> simp [c]) (fun self s=>by rw [h2]; rfl) m 0 s (Nat.zero_le _) (by omega)
theorem Zyy {l:List WB}{x:WB}(h:x ∈ l):x.Name.length < SizeOf.sizeOf l:=by
 have:=List.sizeOf_lt_of_mem h
 have h2:=ZI x.Name
 have:SizeOf.sizeOf x.Name < SizeOf.sizeOf x:=by cases x; simp; omega
 omega
theorem Ztr (r:ZT):SizeOf.sizeOf r.Name < SizeOf.sizeOf r∧SizeOf.sizeOf r.Params < SizeOf.sizeOf r∧SizeOf.sizeOf r.Locals < SizeOf.sizeOf r∧SizeOf.sizeOf r.Body < SizeOf.sizeOf r:=by cases r; simp; omega
theorem ZpE (L:Nat)(h1:100≤L)(r:ZT)(h:IX r)(hL:SizeOf.sizeOf r≤L):Ju L (r,())=some (Xx r):=by
 have hz:=Ztr r
 have hp:=h.p
 have hw:IntKind.i64.wrap ((r.Params.length:Int) + (r.Locals.length:Int))=(r.Params.length:Int) + (r.Locals.length:Int):=wrap_in (by omega) (by omega)
 rw [ZcC,hw,Xx]
 by_cases hc:6 < (r.Params.length:Int)∨16 < (r.Params.length:Int) + (r.Locals.length:Int)
 ·rw [if_pos (by simpa using hc),show (decide ((r.Params.length:Int) > 6) || decide ((r.Params.length:Int) + (r.Locals.length:Int) > 16))=true by simpa using hc]; rfl
 ·have hf:(decide ((r.Params.length:Int) > 6) || decide ((r.Params.length:Int) + (r.Locals.length:Int) > 16))=false:=by
   simp only [Bool.or_eq_false_iff,decide_eq_false_iff_not]; omega
  have hf':¬ ((decide (6 < (r.Params.length:Int)) || decide (16 < (r.Params.length:Int) + (r.Locals.length:Int)))=true):=by simpa using hc
  rw [if_neg hf',hf,cond_false,ZrW L _ _ (by omega) (by omega),Z5]
  have hlen:(r.Params ++ r.Locals).length≤16:=by rw [List.length_append]; omega
  exact Zzn (f := Vx r L (r.Params ++ r.Locals)) (r.Params ++ r.Locals) (fun f:WB=>Yx f.Name (Zcb f)) (CV r.Body) (by omega) [] (fun self s i x hx hi mem=>by
   have ok:Zbo x∧x.Name.length < L:=by
    rcases List.mem_append.1 mem with m | m
    ·exact ⟨h.Params.2 x m,by have:=Zyy m; omega⟩
    ·exact ⟨h.Locals.2 x m,by have:=Zyy m; omega⟩
   have hn:=QH L x.Name (by have:=ok.1.Name; unfold Len; omega) ok.2
   rw [Vx]
   simp only [Zj,cond_true,Zf,Z5,ZE,KA,hi,hx,hn]
   simp only [Zj,Zd,cond_true,cond_false,Zf,Z5,Za,Zq,condC,Zi,Zh,Zn,ZL,ZU,ZE,ZlJ,wrap_succ hi (by omega)]
   simp only [Yx,Zcb]
   by_cases a:(Y7 x.Name s).1=0 <;> rcases Bool.eq_false_or_eq_true (btw x.Ty 1 3) with g | g <;> simp [a,g]) (fun self s=>by
   rw [Vx]; simp only [Zj,Zd,cond_true,cond_false,Zf,Z5,Za,Zq,condC,Zi,Zh,Zn,ZL,ZU,ZE,Zse L h1 r.Body h.p.2.2 (by omega)])
theorem ZnC {α:Type}[SizeOf α](g:α→List UInt8)(hg:∀ x,SizeOf.sizeOf (g x) < SizeOf.sizeOf x){l:List α}{x:α}(h:x ∈ l):(g x).length < SizeOf.sizeOf l∧SizeOf.sizeOf x < SizeOf.sizeOf l:=by
 have h1:=List.sizeOf_lt_of_mem h
 have h2:=ZI (g x)
 have h3:=hg x
 omega
theorem ZoX (L:Nat)(d:Zc)(h:d.Queues.length * 16≤140737488351232∧∀ y ∈ d.Queues,y.length≤140737488351232)(hL:SizeOf.sizeOf d.Queues≤L)(s:Seen):Zt (KL d L) L (0,s,())=some ((YH Y7 d.Queues s).1,(YH Y7 d.Queues s).2,()):=by
 have hk:=ZI d.Queues
 refine ZfE d.Queues Y7 (by omega) s (fun self s i x hx hi mem=>?_) (fun self s=>by rw [KL]; simp only [Zj,Zd,cond_true,cond_false,Zf,Z5,Za,Zq,condC,Zi,Zh,Zn,ZL,ZU,ZE])
 have h1:=List.sizeOf_lt_of_mem mem
 have hn:=QH L x (by have:=h.2 x mem; unfold Len; omega) (by have:=ZI x; omega)
 rw [KL]
 simp only [Zj,cond_true,Zf,Z5,ZE,KA,hi,hx,hn]
 simp only [Zj,Zd,cond_true,cond_false,Zf,Z5,Za,Zq,condC,Zi,Zh,Zn,ZL,ZU,ZE,wrap_succ hi (by omega)]
theorem ZwF (L:Nat)(d:Zc)(h:ZH d)(hL:SizeOf.sizeOf d≤L)(s:Seen):Zt (KG d L) L (0,s,())=some ((YH (fun v:VK=>Yx v.Name (Lr v)) d.Vars s).1,(YH (fun v:VK=>Yx v.Name (Lr v)) d.Vars s).2,()):=by
 have hz:=Jr d
 have hs:=Sh.of hL
 have hl:=h.Vars.1
 refine ZfE d.Vars _ hs.vars s (fun self s i x hx hi mem=>?_) (fun self s=>by rw [KG]; simp only [Zj,Zd,cond_true,cond_false,Zf,Z5,Za,Zq,condC,Zi,Zh,Zn,ZL,ZU,ZE])
 have hm:=ZnC (fun v:VK=>v.Name) (fun x=>by cases x; simp; omega) mem
 have hn:=QH L x.Name (by have:=(h.Vars.2 x mem).Name; unfold Len; omega) (by omega)
 rw [KG]
 simp only [Zj,cond_true,Zf,Z5,ZE,KA,hi,hx,hn]
 simp only [Zj,Zd,cond_true,cond_false,Zf,Z5,Za,Zq,condC,Zi,Zh,Zn,ZL,ZU,ZE,ZlJ,Zth,wrap_succ hi (by omega)]
 simp only [Yx,Lr]
 by_cases a:(Y7 x.Name s).1=0 <;> rcases Bool.eq_false_or_eq_true (btw x.Ty 1 3) with g | g <;> rcases Bool.eq_false_or_eq_true (fitsT x.Ty x.N) with g' | g' <;> simp [a,g,g']
theorem Zzg (L:Nat)(h1:100≤L)(d:Zc)(h:ZH d)(hL:SizeOf.sizeOf d≤L)(s:Seen):Zt (KH d L) L (0,s,())=some ((YH (fun v:Zy=>Yx v.Name (Znm d v)) d.Resources s).1,(YH (fun v:Zy=>Yx v.Name (Znm d v)) d.Resources s).2,()):=by
 have hz:=Jr d
 have hs:=Sh.of hL
 have hl:=h.Resources.1
 refine ZfE d.Resources _ hs.res s (fun self s i x hx hi mem=>?_) (fun self s=>by rw [KH]; simp only [Zj,Zd,cond_true,cond_false,Zf,Z5,Za,Zq,condC,Zi,Zh,Zn,ZL,ZU,ZE])
 have hm:=ZnC (fun v:Zy=>v.Name) (fun x=>by cases x; simp; omega) mem
 have ok:=h.Resources.2 x mem
 have hx2:SizeOf.sizeOf x.Fault < SizeOf.sizeOf x∧SizeOf.sizeOf x.Shift < SizeOf.sizeOf x:=by cases x; simp; omega
 have hsh:=ZI x.Shift
 have hn:=QH L x.Name (by have:=ok.Name; unfold Len; omega) (by omega)
 rw [KH]
 simp only [Zj,cond_true,Zf,Z5,ZE,KA,hi,hx,hn]
 simp only [Zj,Zd,cond_true,cond_false,Zf,Z5,Za,Zq,condC,Zi,Zh,Zn,ZL,ZU,ZE,Ux,ZmS L x ok (by omega),ZmN L d h hL x.Fault ok.Fault (by omega) h1,wrap_succ hi (by omega)]
 simp only [Yx,Znm]
 by_cases a:(Y7 x.Name s).1=0 <;> rcases Bool.eq_false_or_eq_true (btw x.Units 0 1000) with g | g <;> by_cases b:Zq4 x=0 <;> simp [a,g,b]
theorem Zzj (L:Nat)(d:Zc)(h:ZH d)(hL:SizeOf.sizeOf d≤L)(s:Seen):Zt (KI d L) L (0,s,())=some ((YH (fun v:Yv=>Yx v.Name (Lh v)) d.Stores s).1,(YH (fun v:Yv=>Yx v.Name (Lh v)) d.Stores s).2,()):=by
 have hz:=Jr d
 have hs:=Sh.of hL
 have hl:=h.Stores.1
 refine ZfE d.Stores _ hs.sto s (fun self s i x hx hi mem=>?_) (fun self s=>by rw [KI]; simp only [Zj,Zd,cond_true,cond_false,Zf,Z5,Za,Zq,condC,Zi,Zh,Zn,ZL,ZU,ZE])
 have hm:=ZnC (fun v:Yv=>v.Name) (fun x=>by cases x; simp; omega) mem
 have hn:=QH L x.Name (by have:=(h.Stores.2 x mem).Name; unfold Len; omega) (by omega)
 rw [KI]
 simp only [Zj,cond_true,Zf,Z5,ZE,KA,hi,hx,hn]
 simp only [Zj,Zd,cond_true,cond_false,Zf,Z5,Za,Zq,condC,Zi,Zh,Zn,ZL,ZU,ZE,Ux,wrap_succ hi (by omega)]
 simp only [Yx,Lh]
 by_cases a:(Y7 x.Name s).1=0 <;> rcases Bool.eq_false_or_eq_true (btw x.Room 1 1000) with g | g <;> by_cases b:x.Policy < 1 <;> by_cases c:3 < x.Policy <;> simp [a,g,b,c]
theorem Zze (L:Nat)(d:Zc)(h:ZH d)(hL:SizeOf.sizeOf d≤L)(s:Seen):Zt (KJ d L) L (0,s,())=some ((YH (fun v:YW=>Yx v.Name (ZaA v)) d.Belts s).1,(YH (fun v:YW=>Yx v.Name (ZaA v)) d.Belts s).2,()):=by
 have hz:=Jr d
 have hs:=Sh.of hL
 have hl:=h.Belts.1
 refine ZfE d.Belts _ hs.bel s (fun self s i x hx hi mem=>?_) (fun self s=>by rw [KJ]; simp only [Zj,Zd,cond_true,cond_false,Zf,Z5,Za,Zq,condC,Zi,Zh,Zn,ZL,ZU,ZE])
 have hm:=ZnC (fun v:YW=>v.Name) (fun x=>by cases x; simp; omega) mem
 have hn:=QH L x.Name (by have:=(h.Belts.2 x mem).Name; unfold Len; omega) (by omega)
 rw [KJ]
 simp only [Zj,cond_true,Zf,Z5,ZE,KA,hi,hx,hn]
 simp only [Zj,Zd,cond_true,cond_false,Zf,Z5,Za,Zq,condC,Zi,Zh,Zn,ZL,ZU,ZE,Ux,wrap_succ hi (by omega)]
 simp only [Yx,ZaA]
 by_cases a:(Y7 x.Name s).1=0 <;> rcases Bool.eq_false_or_eq_true (btw x.Length 1 1000) with g | g <;> rcases Bool.eq_false_or_eq_true (btw x.Step 1 1000) with g' | g' <;> simp [a,g,g']
theorem Zzh (L:Nat)(h1:100≤L)(d:Zc)(h:ZH d)(hL:SizeOf.sizeOf d≤L)(s:Seen):Zt (KN d L) L (0,s,())=some ((YH (fun v:ZT=>Yx v.Name (Xx v)) d.Routines s).1,(YH (fun v:ZT=>Yx v.Name (Xx v)) d.Routines s).2,()):=by
 have hz:=Jr d
 have hs:=Sh.of hL
 have hl:=h.Routines.1
 refine ZfE d.Routines _ hs.rou s (fun self s i x hx hi mem=>?_) (fun self s=>by rw [KN]; simp only [Zj,Zd,cond_true,cond_false,Zf,Z5,Za,Zq,condC,Zi,Zh,Zn,ZL,ZU,ZE])
 have hm:=ZnC (fun v:ZT=>v.Name) (fun x=>by cases x; simp; omega) mem
 have ok:=h.Routines.2 x mem
 have hn:=QH L x.Name (by have:=ok.Name; unfold Len; omega) (by omega)
 rw [KN]
 simp only [Zj,cond_true,Zf,Z5,ZE,KA,hi,hx,hn]
 simp only [Zj,Zd,cond_true,cond_false,Zf,Z5,Za,Zq,condC,Zi,Zh,Zn,ZL,ZU,ZE,ZpE L h1 x ok (by omega),wrap_succ hi (by omega)]
 simp only [Yx]
 by_cases a:(Y7 x.Name s).1=0 <;> simp [a]
theorem Zzi (L:Nat)(d:Zc)(h:ZH d)(hL:SizeOf.sizeOf d≤L)(s:Seen):Zt (Xi d L) L (0,s,())=some (Yh (VQ d) d.Starts,s,()):=by
 have hz:=Jr d
 have hs:=Sh.of hL
 have hl:=h.Starts.1
 have:=ZfE (f := Xi d L) d.Starts (fun x s=>(VQ d x,s)) hs.sta s (fun self s i x hx hi mem=>by
  have hm:=ZnC (fun v:Xo=>v.Routine) (fun x=>by cases x; simp; omega) mem
  have hx2:SizeOf.sizeOf x.Args < SizeOf.sizeOf x:=by cases x; simp; omega
  have ha:=ZI x.Args
  rw [Xi]
  simp only [Zj,Zd,cond_true,cond_false,Zf,Z5,Za,Zq,condC,Zi,Zh,Zn,ZL,ZU,ZE,hi,hx,ZuY L d h hs.rou x (h.Starts.2 x mem) (by omega),wrap_succ hi (by omega)]) (fun self s=>by rw [Xi]; simp only [Zj,Zd,cond_true,cond_false,Zf,Z5,Za,Zq,condC,Zi,Zh,Zn,ZL,ZU,ZE])
 rw [NK] at this
 exact this
theorem Bh {σ:Type}(P:Int×σ)(r:List (σ→Int×σ)){X:Option (Int×σ×PUnit)}(h:X=some ((Dc r P.2).1,(Dc r P.2).2,()))(f:σ→Int×σ)(s:σ)(hP:f s=P):(bif P.1 != 0 then some (P.1,P.2,()) else X)=some ((Dc (f :: r) s).1,(Dc (f :: r) s).2,()):=by
 subst h; subst hP
 rw [Dc]
 by_cases c:(f s).1=0 <;> simp [c,ZE]
theorem ZxE (L:Nat)(h1:100≤L)(d:Zc)(h:ZH d)(hL:SizeOf.sizeOf d≤L):I5 L (d,())=some (Zgy d):=by
 have hz:=Jr d
 have e0:=fun s=>G6 32 (fun v:VK=>Yx v.Name (Lr v)) d.Vars s (ZwF L d h hL s)
 have e1:=fun s=>G6 32 (fun v:Zy=>Yx v.Name (Znm d v)) d.Resources s (Zzg L h1 d h hL s)
 have e2:=fun s=>G6 32 (fun v:Yv=>Yx v.Name (Lh v)) d.Stores s (Zzj L d h hL s)
 have e3:=fun s=>G6 32 (fun v:YW=>Yx v.Name (ZaA v)) d.Belts s (Zze L d h hL s)
 have e4:=fun s=>G6 32 Y7 d.Queues s (ZoX L d h.Queues (by omega) s)
 have e5:=fun s:Seen=>G6 32 Y7 d.Streams s (show Zt (Eo d L) L (0,s,())=_ from ZoX L { d with Queues:=d.Streams } h.Streams (show SizeOf.sizeOf d.Streams≤L by omega) s)
 have e6:=fun s:Seen=>G6 32 Y7 d.Tallies s (show Zt (Ep d L) L (0,s,())=_ from ZoX L { d with Queues:=d.Tallies } h.Tallies (show SizeOf.sizeOf d.Tallies≤L by omega) s)
 have e7:=fun s:Seen=>G6 32 Y7 d.Levels s (show Zt (Es d L) L (0,s,())=_ from ZoX L { d with Queues:=d.Levels } h.Levels (show SizeOf.sizeOf d.Levels≤L by omega) s)
 have e8:=fun s:Seen=>G6 32 Y7 d.Counts s (show Zt (Et d L) L (0,s,())=_ from ZoX L { d with Queues:=d.Counts } h.Counts (show SizeOf.sizeOf d.Counts≤L by omega) s)
 have e9:=fun s=>G6 16 (fun v:ZT=>Yx v.Name (Xx v)) d.Routines s (Zzh L h1 d h hL s)
 have ea:∀ s:Seen,(bif decide ((d.Starts.length:Int) > 32) then some (6,s,()) else Zt (Xi d L) L (0,s,()))=some (PV 32 (VQ d) d.Starts,s,()):=fun s=>by
  rw [Zzi L d h hL s]; unfold PV; by_cases c:32 < (d.Starts.length:Int) <;> simp [c]
 rw [ZhV]
 simp only [e0,e1,e2,e3,e4,e5,e6,e7,e8,e9,ea,Z5,ZxA L d h hL]
 have fin:∀ s:Seen,(bif Dy d != 0 then some (Dy d,s,()) else some (0,s,()))=some ((Dc [fun s:Seen=>(Dy d,s)] s).1,(Dc [fun s:Seen=>(Dy d,s)] s).2,()):=fun s=>by
  rw [Dc,Dc,ZE]; by_cases c:Dy d=0 <;> simp [c]
 have key:=Bh _ _ (Bh _ _ (Bh _ _ (Bh _ _ (Bh _ _ (Bh _ _ (Bh _ _ (Bh _ _ (Bh _ _ (Bh _ _ (Bh (PV 32 (VQ d) d.Starts,_) _ (fin _) (fun s=>(PV 32 (VQ d) d.Starts,s)) _ rfl) (QY 16 (fun v:ZT=>Yx v.Name (Xx v)) d.Routines) _ rfl) (QY 32 Y7 d.Counts) _ rfl) (QY 32 Y7 d.Levels) _ rfl) (QY 32 Y7 d.Tallies) _ rfl) (QY 32 Y7 d.Streams) _ rfl) (QY 32 Y7 d.Queues) _ rfl) (QY 32 (fun v:YW=>Yx v.Name (ZaA v)) d.Belts) _ rfl) (QY 32 (fun v:Yv=>Yx v.Name (Lh v)) d.Stores) _ rfl) (QY 32 (fun v:Zy=>Yx v.Name (Znm d v)) d.Resources) _ rfl) (QY 32 (fun v:VK=>Yx v.Name (Lr v)) d.Vars) ([]:Seen) rfl
 exact (congrArg (fun o:Option (Int×Seen×PUnit)=>bT o fun y=>some y.1) key).trans rfl
end Go.Proofs.YtgjcjbhhhlelnaaGreatDoor
end
section
namespace Go.Proofs.YtgjcjbhhhlelnaaGreatDoor
open Go Go.Proofs.YtgjcjbhhhlelnaaGreatDoor.Abs Go.Proofs.YtgjcjbhhhlelnaaGreatDoor.Tl
set_option maxRecDepth 100000
def M1 (n:List UInt8)(d:Zc):Int:=if decide (V9 n≠0)=true then V9 n else (Yx d.Name (Zgy d) []).1
theorem one1 {α:Type}(a:α):ZK [a] 0=some a∧decide ((0:Int) < (([a].length:Nat):Int))=true∧decide ((1:Int) < (([a].length:Nat):Int))=false∧decide ((([a].length:Nat):Int) > 16)=false∧decide ((([a].length:Nat):Int)=0)=false∧decide ((([a].length:Nat):Int) > 0)=true∧decide ((([a].length:Nat):Int)≤16)=true :=
 ⟨Zf [a] 0,by simp,by simp,by simp,by simp,by simp,by simp⟩
theorem ZvJ (α:Type):decide ((0:Int) < ((([]:List α).length:Nat):Int))=false∧decide (((([]:List α).length:Nat):Int) > 32)=false∧decide (((([]:List α).length:Nat):Int)≤32)=true:=⟨rfl,rfl,rfl⟩
theorem Zsb (L:Nat)(h1:100≤L)(n:List UInt8)(hn:n.length≤140737488351232)(hnL:n.length < L)(d:Zc)(h:ZH d)(hL:SizeOf.sizeOf d≤L):KW L (⟨n,[],[d],[]⟩,())=some (M1 n d):=by
 have hs:=Sh.of hL
 have e1:=QH L n (by unfold Len; omega) hnL
 have e2:=QH L d.Name (by have:=h.Name; unfold Len; omega) hs.nm
 have e3:KX L (⟨n,[],[d],[]⟩,())=some 0:=by
  rw [Zgc,ZdI _ (show 2 < L by omega)]
  simp only [Po,ZvJ,cond_false,Z5]
 have e4:Zt (IR ⟨n,[],[d],[]⟩ L) L (0,[],())=some (0,[],()):=by
  rw [ZdI _ (show 2 < L by omega)]
  simp only [IR,ZvJ,cond_false]
 rw [Zga]
 simp only [ZdI (IU ⟨n,[],[d],[]⟩ L) (show 2 < L by omega),IU,one1,ZvJ,w01,e1,e2,e3,e4,KA,Z5,cond_true,cond_false,ZE,ZL,ZxE L h1 d h hL]
 simp only [M1,Yx]
 by_cases a:V9 n=0 <;> by_cases b:(Y7 d.Name []).1=0 <;> by_cases c:Zgy d=0 <;> simp [a,b,c,Z5]
theorem Uy (L:Nat)(a b c:Int):ZP L (a,b,c,())=some (btw a b c):=Zic L a b c
theorem JO (L:Nat)(a b:Int):ZB L (a,b,())=some (YU a b):=by
 simp only [Zj,Zd,cond_true,cond_false,Zf,Z5,Za,Zq,condC,Zi,Zh,Zn,ZL,ZU,ZE,Zkc,YU]; simp only [Yo,Xh,if_true,if_false,Bool.false_eq_true,ne_eq,decide_not,gt_iff_lt,ge_iff_le]
theorem XY (L:Nat)(a:Bool)(b:Int):Zr L (a,b,())=some (Y3 a b):=by
 simp only [Zj,Zd,cond_true,cond_false,Zf,Z5,Za,Zq,condC,Zi,Zh,Zn,ZL,ZU,ZE,Zib,Y3]; simp only [Yo,Xh,if_true,if_false,Bool.false_eq_true,ne_eq,decide_not,gt_iff_lt,ge_iff_le]
theorem Zp6 (L:Nat)(t:Int):H5 L (t,())=some (ZiA t):=Zkb L t
theorem Ztg (L:Nat)(t n:Int):O6 L (t,n,())=some (fitsT t n):=by
 simp only [Zj,Zd,cond_true,cond_false,Zf,Z5,Za,Zq,condC,Zi,Zh,Zn,ZL,ZU,ZE,Znc,ZuU,Uy,fitsT]; simp only [Yo,Xh,if_true,if_false,Bool.false_eq_true,ne_eq,decide_not,gt_iff_lt,ge_iff_le]
theorem Zlw (s:List UInt8)(l:List (List UInt8)):decide (G8 (fun k=>decide (k=s)) l 0 < 0)=!(l.contains s):=by
 have:=Zcj (fun x:List UInt8=>x) s l
 rw [List.map_id'] at this
 rw [← this,show decide (G8 (fun k=>decide (k=s)) l 0 < 0)=!decide (G8 (fun k=>decide (k=s)) l 0 ≥ 0) by rw [← decide_not]; congr 1; exact propext Int.not_le.symm]
theorem Zbc (L:Nat)(h1:100≤L)(s:List UInt8)(seen:Seen)(hs:Len s)(hsL:s.length < L)(hl:Len seen)(hL:seen.length < L):VH L (s,seen,())=some (CZ s seen):=by
 simp only [Zj,Zd,cond_true,cond_false,Zf,Z5,Za,Zq,condC,Zi,Zh,Zn,ZL,ZU,ZE,Zke,JP L s hs hsL h1,ZhB L seen s hl hL,XY,JO,Zlw,CZ]
theorem apS {l:List (List UInt8)}{a:List UInt8}(h:l.length≤8000000000000):apT 16 l [a]=some (l ++ [a]):=by unfold apT; rw [if_pos (by simp only [List.length_cons,List.length_nil]; omega)]
theorem Zpg {α τ ρ:Type}{f:(τ→Option ρ)→τ→Option ρ}(l:List α)(nm:α→List UInt8)(pk:List (List UInt8)→Int→τ)(o:Option ρ){m:Nat}(hm:l.length < m)
  (h1:∀ self s (i:Nat) x,l[i]? = some x→i < l.length→s.length≤i→f self (pk s i)=self (pk (s ++ [nm x]) ((i:Int) + 1)))
  (h2:∀ self,f self (pk (l.map nm) (l.length:Nat))=o):Zt f m (pk [] 0)=o:=by
 have key:∀ (m i:Nat),i≤l.length→l.length - i < m→Zt f m (pk ((l.take i).map nm) i)=o:=by
  intro m
  induction m with
  | zero=>intro i _ h; exact absurd h (Nat.not_lt_zero _)
  | succ m ih =>
   intro i hi hm
   show f (Zt f m) _=_
   rcases Nat.lt_or_ge i l.length with hlt | hge
   ·have hx:=List.getElem?_eq_getElem hlt
    rw [h1 _ _ i _ hx hlt (by rw [List.length_map,List.length_take]; omega),← ih (i + 1) hlt (by omega)]
    rw [List.take_succ,hx,List.map_append]; rfl
   ·have:i=l.length:=by omega
    subst this
    rw [List.take_length,h2]
 exact key m 0 (Nat.zero_le _) (by omega)
theorem Zj8 (L:Nat)(d:Zc)(h:ZH d)(hs:Sh L d):JV L (d,())=some ((Vr d).map (·.2)):=by
 have a1:=h.Vars.1; have a2:=h.Resources.1; have a3:=h.Stores.1; have a4:=h.Belts.1; have a5:=h.Routines.1
 rw [Zka]
 refine Zpg d.Vars (·.Name) (fun s i=>(i,s,[],[],[],[],[],[],[],[],[],())) _ hs.vars (fun self s i x hx hi hsl=>by
  rw [RY]; simp only [Zj,Zd,cond_true,cond_false,Zf,Z5,Za,Zq,condC,Zi,Zh,Zn,ZL,ZU,ZE,hi,hx,wrap_succ hi (by omega),apS (show s.length≤8000000000000 by omega)]) (fun self=>?_)
 rw [RY]; simp only [Zj,Zd,cond_true,cond_false,Zf,Z5,Za,Zq,condC,Zi,Zh,Zn,ZL,ZU,ZE]
 refine Zpg d.Resources (·.Name) (fun s i=>(i,_,s,[],[],[],[],[],[],[],[],())) _ hs.res (fun self s i x hx hi hsl=>by
  rw [RX]; simp only [Zj,Zd,cond_true,cond_false,Zf,Z5,Za,Zq,condC,Zi,Zh,Zn,ZL,ZU,ZE,hi,hx,wrap_succ hi (by omega),apS (show s.length≤8000000000000 by omega)]) (fun self=>?_)
 rw [RX]; simp only [Zj,Zd,cond_true,cond_false,Zf,Z5,Za,Zq,condC,Zi,Zh,Zn,ZL,ZU,ZE]
 refine Zpg d.Stores (·.Name) (fun s i=>(i,_,_,s,[],[],[],[],[],[],[],())) _ hs.sto (fun self s i x hx hi hsl=>by
  rw [RV]; simp only [Zj,Zd,cond_true,cond_false,Zf,Z5,Za,Zq,condC,Zi,Zh,Zn,ZL,ZU,ZE,hi,hx,wrap_succ hi (by omega),apS (show s.length≤8000000000000 by omega)]) (fun self=>?_)
 rw [RV]; simp only [Zj,Zd,cond_true,cond_false,Zf,Z5,Za,Zq,condC,Zi,Zh,Zn,ZL,ZU,ZE]
 refine Zpg d.Belts (·.Name) (fun s i=>(i,_,_,_,s,[],[],[],[],[],[],())) _ hs.bel (fun self s i x hx hi hsl=>by
  rw [RU]; simp only [Zj,Zd,cond_true,cond_false,Zf,Z5,Za,Zq,condC,Zi,Zh,Zn,ZL,ZU,ZE,hi,hx,wrap_succ hi (by omega),apS (show s.length≤8000000000000 by omega)]) (fun self=>?_)
 rw [RU]; simp only [Zj,Zd,cond_true,cond_false,Zf,Z5,Za,Zq,condC,Zi,Zh,Zn,ZL,ZU,ZE]
 refine Zpg d.Routines (·.Name) (fun s i=>(i,_,_,_,_,_,_,_,_,_,s,())) _ hs.rou (fun self s i x hx hi hsl=>by
  rw [RS]; simp only [Zj,Zd,cond_true,cond_false,Zf,Z5,Za,Zq,condC,Zi,Zh,Zn,ZL,ZU,ZE,hi,hx,wrap_succ hi (by omega),apS (show s.length≤8000000000000 by omega)]) (fun self=>?_)
 rw [RS]; simp only [Zj,Zd,cond_true,cond_false,Zf,Z5,Za,Zq,condC,Zi,Zh,Zn,ZL,ZU,ZE]
 rfl
end Go.Proofs.YtgjcjbhhhlelnaaGreatDoor
end
section
namespace Go.Proofs.YtgjcjbhhhlelnaaGreatDoor
open Go Go.Proofs.YtgjcjbhhhlelnaaGreatDoor.Abs Go.Proofs.YtgjcjbhhhlelnaaGreatDoor.Tl
set_option maxRecDepth 100000
theorem Zhx (L:Nat)(d:Zc)(h:ZH d)(hs:Sh L d):∀ p ∈ Vr d,Len p.2∧p.2.length < L:=by
 have a1:=h.Vars.1; have a2:=h.Resources.1; have a3:=h.Stores.1; have a4:=h.Belts.1; have a5:=h.Routines.1
 have b1:=h.Queues.1; have b2:=h.Streams.1; have b3:=h.Tallies.1; have b4:=h.Levels.1; have b5:=h.Counts.1
 obtain ⟨c1,c2,c3,c4,c5,c6,c7,c8,c9,c10,c11,c12,c13⟩:=hs
 intro p hp
 simp only [Vr,List.mem_cons,List.not_mem_nil,or_false] at hp
 unfold Len
 rcases hp with rfl | rfl | rfl | rfl | rfl | rfl | rfl | rfl | rfl | rfl <;> simp only [List.length_map] <;> omega
theorem ZtZ (s:List UInt8)(l:List (List UInt8)):decide (G8 (fun k=>decide (k=s)) l 0 ≥ 0)=l.contains s:=by
 have:=Zcj (fun x:List UInt8=>x) s l
 rwa [List.map_id'] at this
theorem Zx1 (L:Nat)(d:Zc)(h:ZH d)(hs:Sh L d)(hL:100≤L)(s:List UInt8):QN L (d,s,())=some (Om s (Vr d)):=by
 rw [Znd,Zj8 L d h hs,Z5]
 have lp:=ZdJ (f := Tm s L ((Vr d).map (·.2))) ((Vr d).map (·.2)) ((Vr d).map (·.1)) (by simp) (fun l l'=>some (Om s (l'.zip l))) (m := L) (show 10 < L by omega) (fun self i x y r r' hx hy hi mem e=>by
  have hi2:i < 10:=hi
  obtain ⟨p,hp,rfl⟩:=List.mem_map.1 mem
  have hk:=Zhx L d h hs p hp
  have hy':[[118,97,114],[114,101,115,111,117,114,99,101],[115,116,111,114,101],[98,101,108,116],[113,117,101,117,101],[115,116,114,101,97,109],[116,97,108,108,121],[108,101,118,101,108],[99,111,117,110,116],[114,111,117,116,105,110,101]][i]? = some y:=hy
  rw [Tm]
  simp only [Zj,Zd,cond_true,cond_false,Zf,Z5,Za,Zq,condC,Zi,Zh,Zn,ZL,ZU,ZE,hi,hx,ZhB L p.2 s hk.1 hk.2,ZtZ]
  rw [wrap_in (by omega) (by omega),e]
  simp only [hy',Z5,Zn,List.zip_cons_cons,Om]; simp only [Yo,Xh,if_true,if_false,Bool.false_eq_true,ne_eq,decide_not,gt_iff_lt,ge_iff_le]) (fun self=>by rw [Tm]; simp only [Zj,Zd,cond_true,cond_false,Zf,Z5,Za,Zq,condC,Zi,Zh,Zn,ZL,ZU,ZE,List.zip_nil_right,Om])
 rw [lp]
 congr 2
theorem Fh (d:Zc)(h:(Dc ((Xm d).map stepD) []).1=0)(nm:List UInt8)(p:List UInt8×List (List UInt8))(hp:p ∈ Vr d):decide (Om nm (Vr d)=p.1)=p.2.contains nm:=by
 have key:Om nm (Vr d)=p.1↔nm ∈ p.2:=by
  refine Ze5 nm (Vr d) ?_ ?_ ?_ p hp
  ·have:=(Ztn _ _ h).1
   have h2:((Xm d).map ZaG).Pairwise (fun a b=>∀ x ∈ a,x ∉ b):=List.pairwise_map.2 this
   rw [← Zl0] at h2
   exact List.pairwise_map.1 h2
  ·simp only [Vr,List.map_cons,List.map_nil]; decide
  ·simp only [Vr,List.map_cons,List.map_nil]; decide
 rw [← List.contains_iff_mem] at key
 by_cases c:Om nm (Vr d)=p.1
 ·rw [key.1 c]; simp [c]
 ·have:p.2.contains nm=false:=by
   rw [← Bool.not_eq_true]; exact fun e=>c (key.2 e)
  rw [this]; simp [c]
theorem Zs6 (t:IY)(b:Bool):YU (YU (Y3 true 1) (Y3 b 5)) (Y3 (btw t.Coef (-1000) 1000 && !decide (t.Coef=0)) 2)=ZdW t b:=by
 unfold ZdW
 rcases Bool.eq_false_or_eq_true (btw t.Coef (-1000) 1000) with h3 | h3 <;> by_cases c:t.Coef=0 <;> cases b <;> simp [YU,Y3,c,h3]
theorem ZuX (L:Nat)(d:Zc)(h:ZH d)(hs:Sh L d)(hL:100≤L)(hd:(Dc ((Xm d).map stepD) []).1=0)(t:IY):Dp L (d,t,())=some (ZdV d t):=by
 have hR:=Fh d hd t.Name ([114,111,117,116,105,110,101],d.Routines.map (·.Name)) (by simp [Vr])
 have hS:=Fh d hd t.Name ([115,116,111,114,101],d.Stores.map (·.Name)) (by simp [Vr])
 have hQ:=Fh d hd t.Name ([99,111,117,110,116],d.Counts) (by simp [Vr])
 simp only at hR hS hQ
 have z:∀ x,YU (YU (Y3 false 1) x)=fun _=>1:=fun x=>by funext y; simp [YU,Y3]
 simp only [Zj,Zd,cond_true,cond_false,Zf,Z5,Za,Zq,condC,Zi,Zh,Zn,ZL,ZU,ZE,Znf,XY,JO,Zx1 L d h hs hL,Uy,hR,hS,hQ,reduceCtorEq,decide_false,decide_true,Bool.not_false,Bool.not_true,Zs6,z,ZdV]
 simp only [Yo,Xh,if_true,if_false,Bool.false_eq_true,ne_eq,decide_not,gt_iff_lt,ge_iff_le]
theorem Zlq (a b c:Int):YU (YU a b) c=YU a (YU b c):=by
 unfold YU
 by_cases h:a=0 <;> by_cases h2:b=0 <;> simp [h,h2]
theorem ZqZ {α:Type}(f:α→Int)(x:α)(r:List α):YU (f x) (Yh f r)=Yh f (x :: r):=by
 unfold YU; rw [Yh]
theorem Zra (a:Int):YU a 0=a:=by unfold YU; by_cases h:a=0 <;> simp [h]
theorem Zz8 (L:Nat)(d:Zc)(h:ZH d)(hs:Sh L d)(hL:100≤L)(hd:(Dc ((Xm d).map stepD) []).1=0)(l:Zdz)(ok:ZnF l)(hl:l.Terms.length < L)(hn:l.Name.length < L)(seen:Seen)(h1:Len seen)(h2:seen.length < L):Aj L (d,l,seen,())=some (Yx l.Name (Zqz d l) seen).1:=by
 have ht:=ok.t
 have lp:=fun n=>ZaF (f := BV d l L) l.Terms (fun r n=>some (YU (YU n (Yh (ZdV d) r)) (Y3 (inB l.Total) 2))) hl n (fun self n i x r hx hi mem e=>by
  rw [BV]; simp only [Zj,Zd,cond_true,cond_false,Zf,Z5,Za,Zq,condC,Zi,Zh,Zn,ZL,ZU,ZE,hi,hx,ZuX L d h hs hL hd x,JO,wrap_succ hi (by omega),e,Zlq,← ZqZ]) (fun self n=>by
  rw [BV]; simp only [Zj,Zd,cond_true,cond_false,Zf,Z5,Za,Zq,condC,Zi,Zh,Zn,ZL,ZU,ZE,ZuU,XY,JO,Yh,Zra])
 simp only [Zj,Zd,cond_true,cond_false,Zf,Z5,Za,Zq,condC,Zi,Zh,Zn,ZL,ZU,ZE,ZpT,Zbc L hL l.Name seen (by have:=ok.Name; unfold Len; omega) hn h1 h2,XY,JO,lp]
 rw [Zdr]
 simp only [Zlq]
 congr 2
 unfold Zqz PV
 by_cases a:l.Terms=[] <;> by_cases b:8 < (l.Terms.length:Int) <;> by_cases c:Yh (ZdV d) l.Terms=0 <;> rcases Bool.eq_false_or_eq_true (inB l.Total) with g | g <;> simp [a,b,c,g,YU,Y3]
theorem Zlv {α:Type}(nm:α→List UInt8)(s:List UInt8):∀ (l:List α) (i:Int),G8 (fun k=>decide (k=s)) (l.map nm) i=G8 (fun x=>decide (nm x=s)) l i
 | [],_=>rfl
 | x :: l,i=>by simp only [List.map_cons,G8,Zlv nm s l]
theorem ZmP (L:Nat)(d:Zc)(h:ZH d)(hs:Sh L d)(s:List UInt8):Gf L (d,s,())=some (G8 (fun r:ZT=>decide (r.Name=s)) d.Routines 0):=by
 have hk:=Zhx L d h hs ([114,111,117,116,105,110,101],d.Routines.map (·.Name)) (by simp [Vr])
 rw [Zgh,Zj8 L d h hs,Z5,show ZK ((Vr d).map (·.2)) 9=some (d.Routines.map (·.Name)) from Zf _ 9,Z5,ZhB L _ s hk.1 hk.2,Z5,Zlv]
theorem Znl (L:Nat)(s:Xo)(r:ZT)(hp:r.Params.length≤4611686018427387)(he:r.Params.length=s.Args.length)(hL:r.Params.length < L):Zt (Io s L r) L (0,())=some (Lt (Zat s) r.Params s.Args):=by
 refine ZdJ r.Params s.Args he (fun p a=>some (Lt (Zat s) p a)) hL (fun self i x y q q' hx hy hi _ e=>?_) (fun self=>?_)
 ·rw [Io]; simp only [Zj,Zd,cond_true,cond_false,Zf,Z5,Za,Zq,condC,Zi,Zh,Zn,ZL,ZU,ZE,hi,hx,hy,Ztg,wrap_succ hi (by omega),e,Lt]; simp only [Yo,Xh,if_true,if_false,Bool.false_eq_true,ne_eq,decide_not,gt_iff_lt,ge_iff_le]
 ·rw [Io,← Zqn]; simp only [Zj,Zd,cond_true,cond_false,Zf,Z5,Za,Zq,condC,Zi,Zh,Zn,ZL,ZU,ZE,Uy,XY,Lt,Zk7]; simp only [Yo,Xh,if_true,if_false,Bool.false_eq_true,ne_eq,decide_not,gt_iff_lt,ge_iff_le]
theorem Zsd (L:Nat)(d:Zc)(h:ZH d)(hs:Sh L d)(s:Xo)(hs':P9 s)(hsL:s.Args.length < L):Md L (d,s,())=some (VQ d s):=by
 rw [Zkf,ZmP L d h hs s.Routine,Z5,VQ]
 rcases ZaY (fun r:ZT=>decide (r.Name=s.Routine)) d.Routines 0 with ⟨a,b⟩ | ⟨k,r,a,b,c⟩
 ·rw [a,b]; rfl
 ·have ok:=h.Routines.2 r (List.mem_of_getElem? c)
  rw [a,b,Int.zero_add,show decide ((k:Int) < 0)=false by simp only [decide_eq_false_iff_not]; omega,cond_false,Zf,c,Z5]
  simp only
  rcases ZvF s.Args r.Params with ⟨e1,e2⟩ | ⟨e1,e2⟩
  ·rw [Znl L s r ok.p.1 e1.symm (by omega),ZE,e2]; simp only [Yo,Xh,if_true,if_false,Bool.false_eq_true,ne_eq,decide_not,gt_iff_lt,ge_iff_le,e2,Bool.not_true,cond_false]
  ·rw [ZE,e2]; simp only [Yo,Xh,if_true,if_false,Bool.false_eq_true,ne_eq,decide_not,gt_iff_lt,ge_iff_le,e2,Bool.not_false,cond_true]
theorem Zuq {α τ:Type}{f:(τ→Option Int)→τ→Option Int}(pk:Seen→Int→τ)(l:List α)(step:α→Seen→Int×Seen)(c:Nat)(e:Seen→Option Int){m:Nat}(hm:l.length < m)
  (hst:∀ x s,(step x s).2.length≤s.length + 1)
  (h1:∀ self s (i:Nat) x,l[i]? = some x→i < l.length→x ∈ l→s.length≤c + i→f self (pk s i)=bif !decide ((step x s).1=0) then some (step x s).1 else self (pk (step x s).2 ((i:Int) + 1)))
  (h2:∀ self s,s.length≤c + l.length→f self (pk s (l.length:Nat))=e s) (s:Seen) (hs:s.length≤c):Zt f m (pk s 0)=if decide ((YH step l s).1≠0)=true then some (YH step l s).1 else e (YH step l s).2:=by
 have key:∀ (m i:Nat) (s:Seen),i≤l.length→l.length - i < m→s.length≤c + i→Zt f m (pk s i)=if decide ((YH step (l.drop i) s).1≠0)=true then some (YH step (l.drop i) s).1 else e (YH step (l.drop i) s).2:=by
  intro m
  induction m with
  | zero=>intro i s _ h; exact absurd h (Nat.not_lt_zero _)
  | succ m ih =>
   intro i s hi hm hsl
   show f (Zt f m) _=_
   rcases Nat.lt_or_ge i l.length with hlt | hge
   ·have hx:=List.getElem?_eq_getElem hlt
    have:=ih (i + 1) (step l[i] s).2 hlt (by omega) (by have:=hst l[i] s; omega)
    rw [h1 _ s i _ hx hlt (List.getElem_mem hlt) hsl,List.drop_eq_getElem_cons hlt,YH,show ((i:Int) + 1)=((i + 1:Nat):Int) from rfl,this]
    by_cases z:(step l[i] s).1=0 <;> simp [z]
   ·have:i=l.length:=by omega
    subst this
    rw [List.drop_length,h2 _ s hsl]; rfl
 exact key m 0 s (Nat.zero_le _) (by omega) (by omega)
theorem Zds (s:List UInt8)(r:Int)(seen:Seen):(Yx s r seen).2.length≤seen.length + 1:=by
 have h:(Y7 s seen).2.length≤seen.length + 1:=by
  unfold Y7
  split
  ·exact Nat.le_succ _
  ·split
   ·exact Nat.le_succ _
   ·simp
 unfold Yx
 split <;> exact h
end Go.Proofs.YtgjcjbhhhlelnaaGreatDoor
end
section
namespace Go.Proofs.YtgjcjbhhhlelnaaGreatDoor
open Go Go.Proofs.YtgjcjbhhhlelnaaGreatDoor.Abs Go.Proofs.YtgjcjbhhhlelnaaGreatDoor.Tl
set_option maxRecDepth 100000
theorem Zdt {s:List UInt8}{r:Int}{seen:Seen}(h:(Yx s r seen).1=0):(Yx s r seen).2=seen ++ [s]:=(Zqw h).1
theorem ZmR (L:Nat)(h1:100≤L)(r:ZT)(h:IX r)(hL:SizeOf.sizeOf r≤L):Gg L (r,())=some (Xx r):=by
 have hz:=Ztr r
 have hp:=h.p
 have hw:IntKind.i64.wrap ((r.Params.length:Int) + (r.Locals.length:Int))=(r.Params.length:Int) + (r.Locals.length:Int):=wrap_in (by omega) (by omega)
 rw [Zgi,hw,Xx]
 by_cases hc:6 < (r.Params.length:Int)∨16 < (r.Params.length:Int) + (r.Locals.length:Int)
 ·rw [if_pos (by simpa using hc),show (decide ((r.Params.length:Int) > 6) || decide ((r.Params.length:Int) + (r.Locals.length:Int) > 16))=true by simpa using hc]; rfl
 ·have hf:(decide ((r.Params.length:Int) > 6) || decide ((r.Params.length:Int) + (r.Locals.length:Int) > 16))=false:=by
   simp only [Bool.or_eq_false_iff,decide_eq_false_iff_not]; omega
  have hf':¬ ((decide (6 < (r.Params.length:Int)) || decide (16 < (r.Params.length:Int) + (r.Locals.length:Int)))=true):=by simpa using hc
  have hlen:(r.Params ++ r.Locals).length≤16:=by rw [List.length_append]; omega
  have p1:apT 24 [] r.Params=some r.Params:=by unfold apT; rw [if_pos (by simp only [List.length_nil]; omega)]; rfl
  have p2:apT 24 r.Params r.Locals=some (r.Params ++ r.Locals):=by unfold apT; rw [if_pos (by omega)]
  rw [if_neg hf',hf,cond_false,p1,Z5,p2,Z5]
  rw [Zuq (f := Ue r L (r.Params ++ r.Locals)) (fun s i=>(s,i,())) (r.Params ++ r.Locals) (fun f:WB=>Yx f.Name (Zcb f)) 0 (fun _=>some (CV r.Body)) (by omega) (fun x s=>Zds _ _ _) (fun self s i x hx hi mem hsl=>by
   have ok:Zbo x∧x.Name.length < L:=by
    rcases List.mem_append.1 mem with m | m
    ·exact ⟨h.Params.2 x m,by have:=Zyy m; omega⟩
    ·exact ⟨h.Locals.2 x m,by have:=Zyy m; omega⟩
   have hn:=Zbc L h1 x.Name s (by have:=ok.1.Name; unfold Len; omega) ok.2 (by unfold Len; omega) (by omega)
   rw [Ue]
   simp only [Zj,Zd,cond_true,cond_false,Zf,Z5,Za,Zq,condC,Zi,Zh,Zn,ZL,ZU,ZE,hi,hx,hn,Zp6,XY,JO,Zwr,apS (show s.length≤8000000000000 by omega),wrap_succ hi (by omega)]
   rw [← Zdr]
   by_cases c:(Yx x.Name (Zcb x) s).1=0
   ·rw [Zdt c]
   ·simp [c]) (fun self s hsl=>by
   rw [Ue]; simp only [Zj,Zd,cond_true,cond_false,Zf,Z5,Za,Zq,condC,Zi,Zh,Zn,ZL,ZU,ZE,ZpF L h1 r.Body h.p.2.2 (by omega)]) [] (Nat.le_refl _)]
  rw [Xh]; rfl
theorem Zkz (L:Nat)(d:Zy)(h:Wp d)(hL:d.Shift.length < L)(hc:IntKind.i64.wrap (d.Cycle - 1)=d.Cycle - 1):Zt (XH d L) L (0,())=some (Zq5 d.Cycle none d.Shift):=by
 have hl:=h.s
 refine Zcr (f := XH d L) d.Shift.length (fun i=>(i,())) (fun i=>some (Zq5 d.Cycle (ZfW d.Shift i) (d.Shift.drop i))) (fun self i hi e=>?_) (fun self=>?_) L 0 (Nat.zero_le _) (by omega)
 ·have hx:=List.getElem?_eq_getElem hi
  rw [List.drop_eq_getElem_cons hi,Zq5]
  rw [show ZfW d.Shift (i + 1)=some (d.Shift[i].At_) by rw [ZfW,hx]; rfl] at e
  rw [XH]
  simp only [Zj,Zd,cond_true,cond_false,Zf,Z5,Za,Zq,condC,Zi,Zh,Zn,ZL,ZU,ZE,hi,hx,Uy,wrap_succ hi (by omega),e,hc,ZpP _ _ _ hi hl]; simp only [Yo,Xh,if_true,if_false,Bool.false_eq_true,ne_eq,decide_not,gt_iff_lt,ge_iff_le]
 ·rw [XH]; simp only [Zj,Zd,cond_true,cond_false,Zf,Z5,Za,Zq,condC,Zi,Zh,Zn,ZL,ZU,ZE,List.drop_length,Zq5]
theorem ZjA (L:Nat)(d:Zy)(h:Wp d)(hL:d.Shift.length < L):Uh L (d,())=some (Zq4 d):=by
 simp only [Zj,Zd,cond_true,cond_false,Zf,Z5,Za,Zq,condC,Zi,Zh,Zn,ZL,ZU,ZE,ZdQ,Uy,XY,Zq4]
 by_cases hc:btw d.Cycle 1 1000000000=true
 ·have:=Zkz L d h hL (by simp only [btw,Bool.and_eq_true,decide_eq_true_eq] at hc; exact wrap_in (by omega) (by omega))
  rw [this]; simp only [Yo,Xh,if_true,if_false,Bool.false_eq_true,ne_eq,decide_not,gt_iff_lt,ge_iff_le,Y3]
  by_cases a:d.Cycle=0 <;> simp [a]
 ·rw [Bool.not_eq_true] at hc
  simp only [Yo,Xh,if_true,if_false,Bool.false_eq_true,ne_eq,decide_not,gt_iff_lt,ge_iff_le,hc,Bool.not_false,Y3]
  by_cases a:d.Cycle=0 <;> simp [a]
theorem ZmQ (L:Nat)(h1:100≤L)(d:Zc)(h:ZH d)(hs:Sh L d)(x:Zy)(ok:Wp x)(hx:SizeOf.sizeOf x≤L):Ui L (d,x,())=some (Znm d x):=by
 have hx2:SizeOf.sizeOf x.Fault < SizeOf.sizeOf x∧SizeOf.sizeOf x.Shift < SizeOf.sizeOf x∧SizeOf.sizeOf x.Fault.Up < SizeOf.sizeOf x.Fault∧SizeOf.sizeOf x.Fault.Down < SizeOf.sizeOf x.Fault:=by
  obtain ⟨a,b,c,d,⟨e,f,g⟩⟩:=x; simp; omega
 have hsh:=ZI x.Shift
 have hst:=h.st
 rw [← Zvm]
 simp only [Zj,Zd,cond_true,cond_false,Zf,Z5,Za,Zq,condC,Zi,Zh,Zn,ZL,ZU,ZE,ZdR,Uy,XY,JO,ZjA L x ok (by omega),Zbb L x.Fault.Up _ ok.Fault.Up (by omega),Zbb L x.Fault.Down _ ok.Fault.Down (by omega),Gm,ZhB L d.Streams x.Fault.Stream (by unfold Len; omega) hs.str,BR L x.Fault.Up ok.Fault.Up (by omega),BR L x.Fault.Down ok.Fault.Down (by omega),Zlw,ZzG]; simp only [Yo,Xh,if_true,if_false,Bool.false_eq_true,ne_eq,decide_not,gt_iff_lt,ge_iff_le]
theorem Zx3 (L:Nat)(d:Zc)(j:Nat)(x:VK)(hx:d.Vars[j]? = some x):YJ L (d,0,(j:Int),())=some (Lr x):=by
 rw [Xj]; simp only [Zj,Zd,cond_true,cond_false,Zf,Z5,Za,Zq,condC,Zi,Zh,Zn,ZL,ZU,ZE,hx,Int.reduceEq,decide_true,decide_false,Zp6,XY,Ztg,JO,valueR]
theorem Zx4 (L:Nat)(h1:100≤L)(d:Zc)(h:ZH d)(hL:SizeOf.sizeOf d≤L)(j:Nat)(x:Zy)(hx:d.Resources[j]? = some x):YJ L (d,1,(j:Int),())=some (Znm d x):=by
 have hz:=Jr d
 have mem:=List.mem_of_getElem? hx
 have hm:=List.sizeOf_lt_of_mem mem
 rw [Xj]; simp only [Zj,Zd,cond_true,cond_false,Zf,Z5,Za,Zq,condC,Zi,Zh,Zn,ZL,ZU,ZE,hx,Int.reduceEq,decide_true,decide_false,ZmQ L h1 d h (Sh.of hL) x (h.Resources.2 x mem) (by omega)]
theorem Zx5 (L:Nat)(d:Zc)(j:Nat)(x:Yv)(hx:d.Stores[j]? = some x):YJ L (d,2,(j:Int),())=some (Lh x):=by
 rw [Xj]; simp only [Zj,Zd,cond_true,cond_false,Zf,Z5,Za,Zq,condC,Zi,Zh,Zn,ZL,ZU,ZE,hx,Int.reduceEq,decide_true,decide_false,Uy,XY,JO,ge_iff_le,Zyf]
theorem Zx6 (L:Nat)(d:Zc)(j:Nat)(x:YW)(hx:d.Belts[j]? = some x):YJ L (d,3,(j:Int),())=some (ZaA x):=by
 rw [Xj]; simp only [Zj,Zd,cond_true,cond_false,Zf,Z5,Za,Zq,condC,Zi,Zh,Zn,ZL,ZU,ZE,hx,Int.reduceEq,decide_true,decide_false,Uy,XY,ZyE]
theorem Zx7 (L:Nat)(h1:100≤L)(d:Zc)(h:ZH d)(hL:SizeOf.sizeOf d≤L)(j:Nat)(x:ZT)(hx:d.Routines[j]? = some x):YJ L (d,9,(j:Int),())=some (Xx x):=by
 have hz:=Jr d
 have mem:=List.mem_of_getElem? hx
 have hm:=List.sizeOf_lt_of_mem mem
 have e:=ZmR L h1 x (h.Routines.2 x mem) (by omega)
 generalize Xx x=z at e ⊢
 rw [Xj,show ((9:Int) == 0)=false from rfl,show ((9:Int) == 1)=false from rfl,show ((9:Int) == 2)=false from rfl,show ((9:Int) == 3)=false from rfl,show ((9:Int) == 9)=true from rfl,cond_false,cond_false,cond_false,cond_false,cond_true,Zf,hx,Z5,e,Z5]
theorem ZhD (L:Nat)(d:Zc)(k j:Int)(h:k=4∨k=5∨k=6∨k=7∨k=8):YJ L (d,k,j,())=some 0:=by
 rw [Xj]; rcases h with rfl | rfl | rfl | rfl | rfl <;> simp only [Zj,Zd,cond_true,cond_false,Zf,Z5,Za,Zq,condC,Zi,Zh,Zn,ZL,ZU,ZE,Int.reduceEq,decide_true,decide_false]
end Go.Proofs.YtgjcjbhhhlelnaaGreatDoor
end
section
namespace Go.Proofs.YtgjcjbhhhlelnaaGreatDoor
open Go Go.Proofs.YtgjcjbhhhlelnaaGreatDoor.Abs Go.Proofs.YtgjcjbhhhlelnaaGreatDoor.Tl
set_option maxRecDepth 100000
theorem ZmM (L:Nat)(h1:100≤L)(d:Zc)(h:ZH d)(hL:SizeOf.sizeOf d≤L)(k:Nat)(p:Int×List (List UInt8×Int))(hp:(Xm d)[k]? = some p)(j:Nat)(q:List UInt8×Int)(hq:p.2[j]? = some q):YJ L (d,(k:Int),(j:Int),())=some q.2:=by
 rcases k with _ | _ | _ | _ | _ | _ | _ | _ | _ | _ | k
 ·obtain rfl:=Option.some.inj hp; obtain ⟨x,hx,rfl⟩:=IQ hq; exact Zx3 L d j x hx
 ·obtain rfl:=Option.some.inj hp; obtain ⟨x,hx,rfl⟩:=IQ hq; exact Zx4 L h1 d h hL j x hx
 ·obtain rfl:=Option.some.inj hp; obtain ⟨x,hx,rfl⟩:=IQ hq; exact Zx5 L d j x hx
 ·obtain rfl:=Option.some.inj hp; obtain ⟨x,hx,rfl⟩:=IQ hq; exact Zx6 L d j x hx
 ·obtain rfl:=Option.some.inj hp; obtain ⟨x,hx,rfl⟩:=IQ hq; exact ZhD L d 4 j (by simp)
 ·obtain rfl:=Option.some.inj hp; obtain ⟨x,hx,rfl⟩:=IQ hq; exact ZhD L d 5 j (by simp)
 ·obtain rfl:=Option.some.inj hp; obtain ⟨x,hx,rfl⟩:=IQ hq; exact ZhD L d 6 j (by simp)
 ·obtain rfl:=Option.some.inj hp; obtain ⟨x,hx,rfl⟩:=IQ hq; exact ZhD L d 7 j (by simp)
 ·obtain rfl:=Option.some.inj hp; obtain ⟨x,hx,rfl⟩:=IQ hq; exact ZhD L d 8 j (by simp)
 ·obtain rfl:=Option.some.inj hp; obtain ⟨x,hx,rfl⟩:=IQ hq; exact Zx7 L h1 d h hL j x hx
 ·exact absurd hp (by simp [Xm])
theorem Zm7 (L:Nat)(d:Zc)(h:ZH d)(hL:SizeOf.sizeOf d≤L):∀ p ∈ Xm d,∀ q ∈ p.2,Len q.1∧q.1.length < L:=by
 have hz:=Jr d
 intro p hp q hq
 simp only [Xm,List.mem_cons,List.not_mem_nil,or_false] at hp
 unfold Len
 rcases hp with rfl | rfl | rfl | rfl | rfl | rfl | rfl | rfl | rfl | rfl <;> obtain ⟨x,mem,rfl⟩:=List.mem_map.1 hq
 ·have:=ZnC (fun v:VK=>v.Name) (fun x=>by cases x; simp; omega) mem; have:=(h.Vars.2 x mem).Name; simp only; omega
 ·have:=ZnC (fun v:Zy=>v.Name) (fun x=>by cases x; simp; omega) mem; have:=(h.Resources.2 x mem).Name; simp only; omega
 ·have:=ZnC (fun v:Yv=>v.Name) (fun x=>by cases x; simp; omega) mem; have:=(h.Stores.2 x mem).Name; simp only; omega
 ·have:=ZnC (fun v:YW=>v.Name) (fun x=>by cases x; simp; omega) mem; have:=(h.Belts.2 x mem).Name; simp only; omega
 ·have:=List.sizeOf_lt_of_mem mem; have:=ZI x; have:=h.Queues.2 x mem; simp only; omega
 ·have:=List.sizeOf_lt_of_mem mem; have:=ZI x; have:=h.Streams.2 x mem; simp only; omega
 ·have:=List.sizeOf_lt_of_mem mem; have:=ZI x; have:=h.Tallies.2 x mem; simp only; omega
 ·have:=List.sizeOf_lt_of_mem mem; have:=ZI x; have:=h.Levels.2 x mem; simp only; omega
 ·have:=List.sizeOf_lt_of_mem mem; have:=ZI x; have:=h.Counts.2 x mem; simp only; omega
 ·have:=ZnC (fun v:ZT=>v.Name) (fun x=>by cases x; simp; omega) mem; have:=(h.Routines.2 x mem).Name; simp only; omega
theorem inner (L:Nat)(h1:1000≤L)(d:Zc)(h:ZH d)(hL:SizeOf.sizeOf d≤L)(k:Nat)(p:Int×List (List UInt8×Int))(hp:(Xm d)[k]? = some p)(hl:p.2.length≤32)(hk:k < 10)(self:Int×List (List UInt8)×Int×PUnit→Option Int)(s0 s:Seen)(hs:s.length≤32 * k) :
  Zt (GL d L ((Xm d).map ZaG) self (0,s0,(k:Int),())) L (0,s,0,())=if decide ((YH He p.2 s).1≠0)=true then some (YH He p.2 s).1 else self (0,(YH He p.2 s).2,(k:Int) + 1,()):=by
 have hg:ZK ((Xm d).map ZaG) (k:Int)=some (ZaG p):=by rw [Zf,List.getElem?_map,hp]; rfl
 have hlen:(ZaG p).length=p.2.length:=by simp [ZaG]
 refine Zuq (f := GL d L ((Xm d).map ZaG) self (0,s0,(k:Int),())) (fun s i=>(0,s,i,())) p.2 He (32 * k) (fun s=>self (0,s,(k:Int) + 1,())) (by omega) (fun x s=>Zds _ _ _) (fun self1 s i x hx hi mem hsl=>?_) (fun self1 s hsl=>?_) s hs
 ·have hq:(ZaG p)[i]? = some x.1:=by unfold ZaG; rw [List.getElem?_map,hx]; rfl
  have hi':i < (ZaG p).length:=by omega
  have hnl:=Zm7 L d h hL p (List.mem_of_getElem? hp) x mem
  have hn:=Zbc L (by omega) x.1 s hnl.1 hnl.2 (by unfold Len; omega) (by omega)
  have hd:=ZmM L (by omega) d h hL k p hp i x hx
  rw [GL]
  simp only [hg,Z5]
  simp only [Zj,Zd,cond_true,cond_false,Zf,Z5,Za,Zq,condC,Zi,Zh,Zn,ZL,ZU,ZE,hi',hq,hn,hd,JO,apS (show s.length≤8000000000000 by omega),wrap_in (show -9223372036854775808≤(i:Int) + 1 by omega) (by omega)]
  rw [← Zdr]
  show _=bif !decide ((Yx x.1 x.2 s).1=0) then some (Yx x.1 x.2 s).1 else self1 (0,(Yx x.1 x.2 s).2,(i:Int) + 1,())
  by_cases c:(Yx x.1 x.2 s).1=0
  ·rw [Zdt c]
  ·simp [c]
 ·rw [GL,← hlen]
  simp only [hg,Z5]
  simp only [Zj,Zd,cond_true,cond_false,Zf,Z5,Za,Zq,condC,Zi,Zh,Zn,ZL,ZU,ZE,wrap_in (show -9223372036854775808≤(k:Int) + 1 by omega) (by omega)]
theorem outer (L:Nat)(h1:1000≤L)(d:Zc)(h:ZH d)(hL:SizeOf.sizeOf d≤L)(E:Option Int)(hE:(bif decide ((d.Starts.length:Int) > 32) then some (6:Int) else Zt (GM d L) L (0,0,()))=E):∀ (m k:Nat) (s:Seen),k≤10→10 - k < m→s.length≤32 * k →
  Zt (JR d L ((Xm d).map ZaG)) m (0,s,(k:Int),())=if decide ((Dc (((Xm d).drop k).map stepD) s).1≠0)=true then some (Dc (((Xm d).drop k).map stepD) s).1 else E
 | 0,_,_,_,h,_=>absurd h (Nat.not_lt_zero _)
 | m + 1,k,s,hk,hm,hs=>by
  show JR d L ((Xm d).map ZaG) (Zt (JR d L ((Xm d).map ZaG)) m) (0,s,(k:Int),())=_
  have hlen:(Xm d).length=10:=rfl
  have hlm:((Xm d).map ZaG).length=10:=by rw [List.length_map,hlen]
  rcases Nat.lt_or_ge k 10 with hlt | hge
  ·have hp:=List.getElem?_eq_getElem (show k < (Xm d).length by omega)
   generalize (Xm d)[k]=p at hp
   have hg:ZK ((Xm d).map ZaG) (k:Int)=some (ZaG p):=by rw [Zf,List.getElem?_map,hp]; rfl
   have hnl:(ZaG p).length=p.2.length:=by simp [ZaG]
   have hmost:=Zm6 d k p hp
   have hdrop:(Xm d).drop k=p :: (Xm d).drop (k + 1):=by
    rw [List.drop_eq_getElem_cons (show k < (Xm d).length by omega)]
    congr 1
    exact Option.some.inj ((List.getElem?_eq_getElem (show k < (Xm d).length by omega)).symm.trans hp)
   have hguard:(decide ((p.2.length:Int) > 32) || (decide ((k:Int)=9) && decide ((p.2.length:Int) > 16)))=decide (p.1 < (p.2.length:Int)):=by
    rw [hmost]
    by_cases c:k=9
    ·subst c; simp; omega
    ·rw [if_neg c,show decide ((k:Int)=9)=false by simp only [decide_eq_false_iff_not]; omega]; simp
   rw [JR,hdrop,List.map_cons,Dc]
   simp only [hlm,show decide ((k:Int) < ((10:Nat):Int))=true by simp only [decide_eq_true_eq]; omega,cond_true,hg,Z5,hnl]
   simp only [Zj,Zd,cond_true,cond_false,Zf,Z5,Za,Zq,condC,Zi,Zh,Zn,ZL,ZU,ZE,hguard]
   by_cases c:p.1 < (p.2.length:Int)
   ·have e:stepD p s=(6,s):=by unfold stepD QY; rw [if_pos (by simpa using c)]
    simp [c,e]
   ·have e:stepD p s=YH He p.2 s:=by unfold stepD QY; rw [if_neg (by simpa using c)]
    have hpl:p.2.length≤32:=by rw [hmost] at c; split at c <;> omega
    rw [show decide (p.1 < (p.2.length:Int))=false by simpa using c,cond_false,inner L h1 d h hL k p hp hpl hlt,e]
    have hsl:(YH He p.2 s).2.length≤32 * (k + 1):=by have:=Zma p.2 s; omega
    have ih:=outer L h1 d h hL E hE m (k + 1) (YH He p.2 s).2 hlt (by omega) hsl
    by_cases z:(YH He p.2 s).1=0
    ·simp only [z,ne_eq,not_true_eq_false,decide_false,Bool.false_eq_true,if_false]
     exact ih
    ·simp [z]
    exact hs
  ·have:k=10:=by omega
   subst this
   rw [JR,hlm,show (Xm d).drop 10=[] from rfl]
   simp only [Zj,Zd,cond_true,cond_false,Zf,Z5,Za,Zq,condC,Zi,Zh,Zn,ZL,ZU,ZE,show decide (((10:Nat):Int) < ((10:Nat):Int))=false from rfl,hE]
   simp [Dc]
theorem ZoY (L:Nat)(h1:1000≤L)(d:Zc)(h:ZH d)(hL:SizeOf.sizeOf d≤L)(hd:(Dc ((Xm d).map stepD) []).1=0)(hl:d.Laws.length≤32):Zt (JQ d L) L ([],0,())=some (YH (fun l:Zdz=>Yx l.Name (Zqz d l)) d.Laws []).1:=by
 have hs:=Sh.of hL
 have hz:=Jr d
 rw [Zuq (f := JQ d L) (fun s i=>(s,i,())) d.Laws (fun l:Zdz=>Yx l.Name (Zqz d l)) 0 (fun _=>some 0) hs.law (fun x s=>Zds _ _ _) (fun self s i x hx hi mem hsl=>by
  have hm:=Z0f mem
  have e:=Zz8 L d h hs (by omega) hd x (h.Laws.2 x mem) (by omega) (by omega) s (by unfold Len; omega) (by omega)
  rw [JQ]
  simp only [Zj,Zd,cond_true,cond_false,Zf,Z5,Za,Zq,condC,Zi,Zh,Zn,ZL,ZU,ZE,hi,hx,e,apS (show s.length≤8000000000000 by omega),wrap_succ hi (by omega)]
  by_cases c:(Yx x.Name (Zqz d x) s).1=0
  ·rw [Zdt c]
  ·simp [c]) (fun self s hsl=>by rw [JQ]; simp only [Zj,Zd,cond_true,cond_false,Zf,Z5,Za,Zq,condC,Zi,Zh,Zn,ZL,ZU,ZE]) [] (Nat.le_refl _)]
 by_cases c:(YH (fun l:Zdz=>Yx l.Name (Zqz d l)) d.Laws []).1=0 <;> simp [c]
theorem ZuW (L:Nat)(h1:1000≤L)(d:Zc)(h:ZH d)(hL:SizeOf.sizeOf d≤L):Dn L (d,())=some (Zgy d):=by
 have hs:=Sh.of hL
 have hz:=Jr d
 rw [Zne,Zj8 L d h hs,Z5,Zl0,Zvt]
 have o:=outer L h1 d h hL _ rfl L 0 [] (Nat.zero_le _) (by omega) (Nat.le_refl _)
 rw [List.drop_zero] at o
 rw [show ((0:Int))=((0:Nat):Int) from rfl]
 refine o.trans ?_
 unfold Zye
 by_cases hd:(Dc ((Xm d).map stepD) []).1=0
 ·rw [if_neg (by simp [hd]),if_neg (by simp [hd])]
  have st:Zt (GM d L) L (0,0,())=some (if decide (Yh (VQ d) d.Starts≠0)=true then Yh (VQ d) d.Starts else Dy d):=by
   have hl:=h.Starts.1
   have lw:(bif decide ((d.Laws.length:Int) > 32) then some (6:Int) else Zt (JQ d L) L ([],0,()))=some (Dy d):=by
    unfold Dy QY
    by_cases c:32 < (d.Laws.length:Int)
    ·simp [c]
    ·rw [ZoY L h1 d h hL hd (by omega)]; simp [c]
   refine ZaF d.Starts (fun l _=>some (if decide (Yh (VQ d) l≠0)=true then Yh (VQ d) l else Dy d)) hs.sta 0 (fun self n i x r hx hi mem e=>?_) (fun self n=>?_)
   ·have hm:=ZnC (fun v:Xo=>v.Routine) (fun x=>by cases x; simp; omega) mem
    have hx2:SizeOf.sizeOf x.Args < SizeOf.sizeOf x:=by cases x; simp; omega
    have ha:=ZI x.Args
    rw [GM]
    simp only [Zj,Zd,cond_true,cond_false,Zf,Z5,Za,Zq,condC,Zi,Zh,Zn,ZL,ZU,ZE,hi,hx,Zsd L d h hs x (h.Starts.2 x mem) (by omega),wrap_succ hi (by omega),e,Yh]
    by_cases c:VQ d x=0 <;> simp [c]
   ·rw [GM]; simp only [Zj,Zd,cond_true,cond_false,Zf,Z5,Za,Zq,condC,Zi,Zh,Zn,ZL,ZU,ZE,lw,Yh]; rfl
  rw [st]
  unfold Zbj PV
  by_cases c:32 < (d.Starts.length:Int) <;> simp [c]
 ·rw [if_pos (by simp [hd]),if_pos (by simp [hd])]
theorem ZpC (L:Nat)(h1:1000≤L)(n:List UInt8)(hn:n.length≤140737488351232)(hnL:n.length < L)(d:Zc)(h:ZH d)(hL:SizeOf.sizeOf d≤L):TZ L (⟨n,[],[d],[]⟩,())=some (M1 n d):=by
 have hs:=Sh.of hL
 have e1:=JP L n (by unfold Len; omega) hnL (by omega)
 have e2:=Zbc L (by omega) d.Name [] (by have:=h.Name; unfold Len; omega) hs.nm (by simp [Len]) (by simp; omega)
 have e3:Mc L (⟨n,[],[d],[]⟩,())=some 0:=by
  rw [Zkd,ZdI _ (show 2 < L by omega)]
  simp only [Zaj,ZvJ,cond_false]
 have e5:Zt (RP ⟨n,[],[d],[]⟩ L) L ([],0,())=some (Yx d.Name (Zgy d) []).1:=by
  rw [ZdI _ (show 2 < L by omega)]
  simp only [RP,one1,w01,e2,e3,Z5,Za,cond_true,cond_false,ZuW L h1 d h hL,JO,apS (show ([]:List (List UInt8)).length≤8000000000000 by simp),ZE]
  rw [← Zdr]
  by_cases c:(Yx d.Name (Zgy d) []).1=0 <;> simp [c]
 have e4:Zt (RQ ⟨n,[],[d],[]⟩ L) L (0,[],0,())=some (Yx d.Name (Zgy d) []).1:=by
  rw [ZdI _ (show 2 < L by omega)]
  simp only [RQ,ZvJ,one1,cond_false,XY,JO,Z5,Za,ZE,Y3,if_true,YU,e5]
  rfl
 rw [ZjZ,e1,e4]
 simp only [Z5,Za,XY,JO,ZvJ,Y3,if_true,YU,ZE,M1]
 by_cases a:V9 n=0 <;> simp [a]
end Go.Proofs.YtgjcjbhhhlelnaaGreatDoor
end
section
namespace Go.Proofs.YtgjcjbhhhlelnaaGreatDoor
open Go Go.Proofs.YtgjcjbhhhlelnaaGreatDoor.Abs Go.Proofs.YtgjcjbhhhlelnaaGreatDoor.Tl
set_option maxRecDepth 100000
mutual
theorem ZlR (L:Nat):∀ (m:Nat) (a b:Zu),Yf a→2 * SizeOf.sizeOf a≤m→m≤L→MI L m (a,b,())=some (EL a b)
 | 0,e,_,h,hs,_=>absurd hs (by have:=Py e; omega)
 | m + 1,e,b,h,hs,hm=>by
  have hz:=Zqq e
  have ih:=ZjD L m e.Kids b.Kids h.k (fun x hx=>h.Kids.2 x hx) (by omega) (by omega)
  simp only [Zj,Zd,cond_true,cond_false,Zf,Z5,Za,Zq,condC,Zi,Zh,Zn,ZL,ZU,ZE,ZmX,ih,Zbi,Zjl]; simp only [Yo,Xh,if_true,if_false,Bool.false_eq_true,ne_eq,decide_not,gt_iff_lt,ge_iff_le]
  by_cases h1:e.Op=b.Op <;> by_cases h2:e.Name=b.Name <;> by_cases h3:e.N=b.N <;> simp [h1,h2,h3]
theorem ZjD (L:Nat):∀ (m:Nat) (a b:List Zu),a.length≤4611686018427387→(∀ x ∈ a,Yf x)→2 * SizeOf.sizeOf a + 1≤m→m≤L→IV L m (a,b,())=some (if (!decide ((a.length:Int)=(b.length:Int)))=true then false else all2 EL a b)
 | 0,e,_,h,_,hs,_=>absurd hs (by omega)
 | m + 1,a,b,h,ho,hs,hm=>by
  have hk:=ZI a
  rcases ZvF a b with ⟨hl1,hl2⟩ | ⟨hl1,hl2⟩
  ·have lp:Zt (Ud m a b L) L (0,())=some (all2 EL a b):=by
    refine ZdJ a b hl1 (fun l l'=>some (all2 EL l l')) (by omega) (fun self i x y r r' hx hy hi mem e'=>?_) (fun self=>?_)
    ·have ih:=ZlR L m x y (ho x mem) (by have:=List.sizeOf_lt_of_mem mem; omega) (by omega)
     rw [Ud]; simp only [Zj,Zd,cond_true,cond_false,Zf,Z5,Za,Zq,condC,Zi,Zh,Zn,ZL,ZU,ZE,hi,hx,hy,ih,wrap_succ hi (by omega),e',all2]; simp only [Yo,Xh,if_true,if_false,Bool.false_eq_true,ne_eq,decide_not,gt_iff_lt,ge_iff_le]
    ·rw [Ud]; simp only [Zj,Zd,cond_true,cond_false,Zf,Z5,Za,Zq,condC,Zi,Zh,Zn,ZL,ZU,ZE,all2]
   simp only [Zj,Zd,cond_true,cond_false,Zf,Z5,Za,Zq,condC,Zi,Zh,Zn,ZL,ZU,ZE,EE,lp,hl2,Bool.not_true]; simp only [Yo,Xh,if_true,if_false,Bool.false_eq_true,ne_eq,decide_not,gt_iff_lt,ge_iff_le]
  ·simp only [Zj,Zd,cond_true,cond_false,Zf,Z5,Za,Zq,condC,Zi,Zh,Zn,ZL,ZU,ZE,EE,hl2,Bool.not_false]; simp only [Yo,Xh,if_true,if_false,Bool.false_eq_true,ne_eq,decide_not,gt_iff_lt,ge_iff_le]
end
theorem ZpG (L:Nat)(e:Zu)(h:Yf e)(hL:2 * SizeOf.sizeOf e≤L):O4 L (e,⟨0,[],0,[]⟩,())=some (Am e):=by
 rw [show O4 L (e,⟨0,[],0,[]⟩,())=_ from ZlR L L e _ h hL (Nat.le_refl _),F7]
mutual
def Zg7 (hd:Zu→Bool):Zu→Bool
 | ⟨o,a,n,ks⟩=>hd ⟨o,a,n,ks⟩ && Dq hd ks
def Dq (hd:Zu→Bool):List Zu→Bool
 | []=>true
 | x :: r=>Zg7 hd x && Dq hd r
end
theorem ZnI (hd:Zu→Bool)(e:Zu):Zg7 hd e=(hd e && Dq hd e.Kids):=by cases e; rw [Zg7]
def hdA (d:Zc)(c:YX)(e:Zu):Bool :=
 if decide (e.Op=25)=true then decide (0≤e.N) && decide (e.N < c.Slots) else if decide (e.Op=26)=true then decide (0≤e.N) && decide (e.N < (d.Vars.length:Int)) else if decide (e.Op=22)=true then decide (0≤e.N) && decide (e.N < (d.Resources.length:Int)) else if decide (e.Op=23)=true then decide (0≤e.N) && decide (e.N < (d.Stores.length:Int))
 else if decide (e.Op=24)=true then decide (e.N < IntKind.i64.wrap ((d.Resources.length:Int) + (d.Queues.length:Int))) else true
def hdB (d:Zc)(c:YX)(e:Zu):Bool :=
 if (decide (e.Op=25) && decide (c.Slots≤e.N))=true then false else if (decide (e.Op=26) && decide ((d.Vars.length:Int)≤e.N))=true then false else if (decide (e.Op=22) && decide ((d.Resources.length:Int)≤e.N))=true then false else if (decide (e.Op=23) && decide ((d.Stores.length:Int)≤e.N))=true then false
 else if (decide (e.Op=24) && decide (IntKind.i64.wrap ((d.Resources.length:Int) + (d.Queues.length:Int))≤e.N))=true then false else true
theorem ZyQ (d:Zc)(c:YX)(e:Zu)(h:ZaH true e=0):hdA d c e=hdB d c e:=by
 have key:(e.Op=25∨e.Op=26∨e.Op=22∨e.Op=23)→0≤e.N:=by
  intro ho
  rcases ho with ho | ho | ho | ho <;> simp [ZaH,ho,Zq0,Zpr,Zcp,Zhw,ZeD] at h <;> grind
 unfold hdA hdB
 by_cases h1:e.Op=25
 ·have:=key (.inl h1); simp [h1,this]; (first | omega | (rw [← decide_not]; exact decide_eq_decide.2 (by omega)) | (split <;> simp_all <;> omega) | grind)
 by_cases h2:e.Op=26
 ·have:=key (.inr (.inl h2)); simp [h2,this]; (first | omega | (rw [← decide_not]; exact decide_eq_decide.2 (by omega)) | (split <;> simp_all <;> omega) | grind)
 by_cases h3:e.Op=22
 ·have:=key (.inr (.inr (.inl h3))); simp [h3,this]; (first | omega | (rw [← decide_not]; exact decide_eq_decide.2 (by omega)) | (split <;> simp_all <;> omega) | grind)
 by_cases h4:e.Op=23
 ·have:=key (.inr (.inr (.inr h4))); simp [h4,this]; (first | omega | (rw [← decide_not]; exact decide_eq_decide.2 (by omega)) | (split <;> simp_all <;> omega) | grind)
 by_cases h5:e.Op=24
 ·simp [h5]; (first | omega | (rw [← decide_not]; exact decide_eq_decide.2 (by omega)) | (split <;> simp_all <;> omega) | grind)
 simp [h1,h2,h3,h4,h5]
theorem Zlr {α:Type}(f:α→Int):∀ l:List α,Yh f l=0→∀ x ∈ l,f x=0
 | [],_,x,hx=>by cases hx
 | y :: l,h,x,hx=>by
  rw [Yh] at h
  by_cases c:f y=0
  ·simp [c] at h
   rcases List.mem_cons.1 hx with rfl | hx
   ·exact c
   ·exact Zlr f l h x hx
  ·simp [c] at h
mutual
theorem ZsF (d:Zc) (c:YX):∀ e:Zu,JB true e=0→Zg7 (hdA d c) e=Zg7 (hdB d c) e
 | ⟨o,a,n,ks⟩,h=>by
  rw [Zcw] at h
  by_cases z:ZaH true ⟨o,a,n,ks⟩=0
  ·simp [z] at h
   rw [Zg7,Zg7,ZyQ d c _ z,ZnK d c ks (Zlr _ ks h)]
  ·simp [z] at h
theorem ZnK (d:Zc) (c:YX):∀ l:List Zu,(∀ x ∈ l,JB true x=0)→Dq (hdA d c) l=Dq (hdB d c) l
 | [],_=>by rw [Dq,Dq]
 | x :: l,h=>by rw [Dq,Dq,ZsF d c x (h x (List.mem_cons_self ..)),ZnK d c l fun y hy=>h y (List.mem_cons_of_mem _ hy)]
end
theorem ZpM (L:Nat)(p:Zk)(si:Int)(sc:ZO)(hs:ZK p.Sites si=some sc)(c:YX):∀ (m:Nat) (e:Zu),Yf e→SizeOf.sizeOf e≤m→m≤L→ML L m (p,si,c,e,())=some (Zg7 (hdB sc.Decl c) e)
 | 0,e,h,hsz,_=>absurd hsz (by have:=Py e; omega)
 | m + 1,e,h,hsz,hm=>by
  have hk:=ZI e.Kids; have hz:=Zqq e; have hl:=h.k
  have lp:Zt (Tq m p si c e L) L (0,())=some (Dq (hdB sc.Decl c) e.Kids):=by
   refine Fj e.Kids (fun l=>some (Dq (hdB sc.Decl c) l)) (by omega) (fun self i x r hx hi mem e'=>?_) (fun self=>?_)
   ·have ih:=ZpM L p si sc hs c m x (h.Kids.2 x mem) (by have:=Em mem; omega) (by omega)
    rw [Tq]; simp only [Zj,Zd,cond_true,cond_false,Zf,Z5,Za,Zq,condC,Zi,Zh,Zn,ZL,ZU,ZE,hi,hx,ih,wrap_succ hi (by omega),e',Dq]
    cases Zg7 (hdB sc.Decl c) x <;> rfl
   ·rw [Tq]; simp only [Zj,Zd,cond_true,cond_false,Zf,Z5,Za,Zq,condC,Zi,Zh,Zn,ZL,ZU,ZE,Dq]
  rw [Znh,hs,Z5,lp,ZnI]
  simp only [Zj,Zd,cond_true,cond_false,Zf,Z5,Za,Zq,condC,Zi,Zh,Zn,ZL,ZU,ZE,hdB]; simp only [Yo,Xh,if_true,if_false,Bool.false_eq_true,ne_eq,decide_not,gt_iff_lt,ge_iff_le]
  (repeat' split) <;> simp_all
theorem ZnJ (hd:Zu→Bool):∀ l:List Zu,(!(l.any fun y=>!(Zg7 hd y)))=Dq hd l
 | []=>by rw [Dq]; rfl
 | x :: l=>by rw [List.any_cons,Dq,← ZnJ hd l]; cases Zg7 hd x <;> simp
theorem ZpN (L:Nat)(p:Zk)(si:Int)(sc:ZO)(hs:ZK p.Sites si=some sc)(c:YX):∀ (m:Nat) (e:Zu),Yf e→SizeOf.sizeOf e≤m→m≤L→Ye L m (⟨p,si,c⟩,e,())=some (Zg7 (hdA sc.Decl c) e)
 | 0,e,h,hsz,_=>absurd hsz (by have:=Py e; omega)
 | m + 1,e,h,hsz,hm=>by
  have hk:=ZI e.Kids; have hz:=Zqq e; have hl:=h.k
  have lp:Zt (Yc m ⟨p,si,c⟩ e L) L (0,())=some (G8 (fun y=>!(Zg7 (hdA sc.Decl c) y)) e.Kids 0):=by
   refine Zjs e.Kids (fun l i=>some (G8 (fun y=>!(Zg7 (hdA sc.Decl c) y)) l i)) (by omega) (fun self i x r hx hi mem e'=>?_) (fun self=>?_)
   ·have ih:=ZpN L p si sc hs c m x (h.Kids.2 x mem) (by have:=Em mem; omega) (by omega)
    rw [Yc]; simp only [Zj,Zd,cond_true,cond_false,Zf,Z5,Za,Zq,condC,Zi,Zh,Zn,ZL,ZU,ZE,hi,hx,ih,wrap_succ hi (by omega),e',G8]; simp only [Yo,Xh,if_true,if_false,Bool.false_eq_true,ne_eq,decide_not,gt_iff_lt,ge_iff_le]
   ·rw [Yc]; simp only [Zj,Zd,cond_true,cond_false,Zf,Z5,Za,Zq,condC,Zi,Zh,Zn,ZL,ZU,ZE,G8]
  have hge:decide (G8 (fun y=>!(Zg7 (hdA sc.Decl c) y)) e.Kids 0 ≥ 0)=e.Kids.any fun y=>!(Zg7 (hdA sc.Decl c) y):=Fa _ _ 0 (Int.le_refl _)
  have hmost:∀ w o,Yz L (⟨p,si,c⟩,w,o,())=_:=fun w o=>VA L ⟨p,si,c⟩ w o
  rw [Nz,show UK=Yc from rfl,show UL=Yc from rfl,show UM=Yc from rfl,show UN=Yc from rfl,show UO=Yc from rfl,lp,ZnI]
  simp only [Zj,Zd,cond_true,cond_false,Zf,Z5,Za,Zq,condC,Zi,Zh,Zn,ZL,ZU,ZE,Jl,hmost,hs,hge,ZnJ,hdA,Int.reduceEq,decide_true,decide_false]; simp only [Yo,Xh,if_true,if_false,Bool.false_eq_true,ne_eq,decide_not,gt_iff_lt,ge_iff_le,Bool.true_and]
  (repeat' split) <;> simp_all
end Go.Proofs.YtgjcjbhhhlelnaaGreatDoor
end
section
namespace Go.Proofs.YtgjcjbhhhlelnaaGreatDoor
open Go Go.Proofs.YtgjcjbhhhlelnaaGreatDoor.Abs Go.Proofs.YtgjcjbhhhlelnaaGreatDoor.Tl
set_option maxRecDepth 100000
def Zv9 (p:Zk)(a b:Int):Int×Bool×PUnit:=match p.Links.find? (fun l=>decide (l.From=a) && decide (l.To=b)) with
 | some l=>(l.Delay,true,())
 | none=>(0,false,())
theorem Zx2 (L:Nat)(p:Zk)(a b:Int)(h:p.Links.length≤4611686018427387)(hL:p.Links.length < L):Di L (p,a,b,())=some (Zv9 p a b):=by
 rw [ZmU,Zjs p.Links (fun l i=>some (G8 (fun l:ZgB=>decide (l.From=a) && decide (l.To=b)) l i)) hL (fun self i x r hx hi _ e=>by
  rw [PS]; simp only [Zj,Zd,cond_true,cond_false,Zf,Z5,Za,Zq,condC,Zi,Zh,Zn,ZL,ZU,ZE,hi,hx,wrap_succ hi (by omega),e,G8]; simp only [Yo,Xh,if_true,if_false,Bool.false_eq_true,ne_eq,decide_not,gt_iff_lt,ge_iff_le]) (fun self=>by rw [PS]; simp only [Zj,Zd,cond_true,cond_false,Zf,Z5,Za,Zq,condC,Zi,Zh,Zn,ZL,ZU,ZE,G8]),Z5,Zv9]
 rcases ZaY (fun l:ZgB=>decide (l.From=a) && decide (l.To=b)) p.Links 0 with ⟨e1,e2⟩ | ⟨k,r,e1,e2,e3⟩
 ·rw [e1,e2]; rfl
 ·rw [e1,e2,Int.zero_add,show decide ((k:Int) < 0)=false by simp only [decide_eq_false_iff_not]; omega,cond_false,Zf,e3]; rfl
theorem ZxD (L:Nat)(p:Zk)(a b:Int)(h:p.Links.length≤4611686018427387)(hL:p.Links.length < L):Ak L (p,a,b,())=some (Zv9 p a b):=by
 rw [ZpU,Zv9]
 refine Fj p.Links (fun l=>some (match l.find? (fun l=>decide (l.From=a) && decide (l.To=b)) with | some l=>(l.Delay,true,()) | none=>(0,false,()))) hL (fun self i x r hx hi _ e=>?_) (fun self=>?_)
 ·rw [Fv]; simp only [Zj,Zd,cond_true,cond_false,Zf,Z5,Za,Zq,condC,Zi,Zh,Zn,ZL,ZU,ZE,hi,hx,wrap_succ hi (by omega),e,List.find?_cons]
  cases decide (x.From=a) <;> cases decide (x.To=b) <;> rfl
 ·rw [Fv]; simp only [Zj,Zd,cond_true,cond_false,Zf,Z5,Za,Zq,condC,Zi,Zh,Zn,ZL,ZU,ZE,List.find?_nil]
def Zr8 (p:Zk)(d:Zc)(c:YX)(k:Int):Int :=
 if decide (k=1)=true then c.Slots else if decide (k=2)=true then (d.Vars.length:Int) else if decide (k=3)=true then (d.Streams.length:Int) else if decide (k=4)=true then (c.Instrs.length:Int) else if decide (k=5)=true then (d.Resources.length:Int) else if decide (k=6)=true then (d.Stores.length:Int) else if decide (k=7)=true then (d.Belts.length:Int) else if decide (k=8)=true then (d.Queues.length:Int) else if decide (k=9)=true then (p.Sites.length:Int) else if decide (k=11)=true then (d.Tallies.length:Int) else if decide (k=12)=true then (d.Levels.length:Int) else if decide (k=13)=true then (d.Counts.length:Int) else 1
def Zrq (p:Zk)(d:Zc)(c:YX)(k x:Int):Bool:=decide (0≤x) && decide (x < Zr8 p d c k)
theorem Zx9 (L:Nat)(p:Zk)(si:Int)(sc:ZO)(hs:ZK p.Sites si=some sc)(c:YX)(k x o:Int)(hk:k≠10):ZV L (⟨p,si,c⟩,k,x,o,())=some (Zrq p sc.Decl c k x):=by
 have h10:decide (k=10)=false:=by simp [hk]
 have hmost:Yz L (⟨p,si,c⟩,k,o,())=some (Zr8 p sc.Decl c k):=by
  rw [VA]; simp only [Zj,Zd,cond_true,cond_false,Zf,Z5,Za,Zq,condC,Zi,Zh,Zn,ZL,ZU,ZE,hs,h10,Zr8]; simp only [Yo,Xh,if_true,if_false,Bool.false_eq_true,ne_eq,decide_not,gt_iff_lt,ge_iff_le]
 simp only [Zj,Zd,cond_true,cond_false,Zf,Z5,Za,Zq,condC,Zi,Zh,Zn,ZL,ZU,ZE,Jl,hmost,Zrq]
theorem Zp9 (L:Nat)(p:Zk)(si:Int)(sc:ZO)(hs:ZK p.Sites si=some sc)(c:YX)(x o:Int)(so:ZO)(ho:ZK p.Sites o=some so):ZV L (⟨p,si,c⟩,10,x,o,())=some (decide (0≤x) && decide (x < (so.Routines.length:Int))):=by
 have hmost:Yz L (⟨p,si,c⟩,10,o,())=some (so.Routines.length:Int):=by
  rw [VA]; simp only [Zj,Zd,cond_true,cond_false,Zf,Z5,Za,Zq,condC,Zi,Zh,Zn,ZL,ZU,ZE,hs,ho,Int.reduceEq,decide_true,decide_false]
 simp only [Zj,Zd,cond_true,cond_false,Zf,Z5,Za,Zq,condC,Zi,Zh,Zn,ZL,ZU,ZE,Jl,hmost]
def Zyt (w:List UInt8):Int:=if w=[115,108,111,116] then 1 else if w=[118,97,114] then 2 else if w=[115,116,114,101,97,109] then 3 else if w=[105,110,115,116,114] then 4 else if w=[114,101,115,111,117,114,99,101] then 5 else if w=[115,116,111,114,101] then 6 else if w=[98,101,108,116] then 7 else if w=[113,117,101,117,101] then 8 else if w=[115,105,116,101] then 9 else if w=[116,97,108,108,121] then 11 else if w=[108,101,118,101,108] then 12 else if w=[99,111,117,110,116] then 13 else 0
def Zmh:List (List UInt8):=[[],[115,108,111,116],[118,97,114],[115,116,114,101,97,109],[105,110,115,116,114],[114,101,115,111,117,114,99,101],[115,116,111,114,101],[98,101,108,116],[113,117,101,117,101],[115,105,116,101],[116,97,108,108,121],[108,101,118,101,108],[99,111,117,110,116]]
theorem ZlG (L:Nat)(p:Zk)(si:Int)(sc:ZO)(hs:ZK p.Sites si=some sc)(c:YX)(w:List UInt8)(hw:w ∈ Zmh)(x:Int):UB L (p,si,c,w,x,())=some (decide (Zyt w=0) || Zrq p sc.Decl c (Zyt w) x):=by
 simp only [Zmh,List.mem_cons,List.not_mem_nil,or_false] at hw
 rcases hw with rfl | rfl | rfl | rfl | rfl | rfl | rfl | rfl | rfl | rfl | rfl | rfl | rfl <;> (rw [Zid,Zkk,hs,show decide (x ≥ 0)=decide (0≤x) from rfl]; unfold Zrq; generalize decide (0≤x)=b; cases b <;> rfl)
structure Rel (op:Int)(f:IL)(g:V3):Prop where
 rc:g.C=f.c
 re:g.E=f.e
 rf:g.F=f.f
 rargs:g.Args=f.args
 rflag:g.Flag=f.preempt
 rdist:f.dist=decide (op=3)
 rgdist:g.Dist=f.dist
 wa:g.A ∈ Zmh
 na:Zyt g.A=f.a
 wa0:decide (g.A=[])=decide (f.a=0)
 na10:f.a≠10
 wb0:decide (g.B=[])=decide (f.b=0)
 wb:op≠14→op≠15→g.B ∈ Zmh∧Zyt g.B=f.b∧f.b≠10
 f14:op=14→f.a=9
 f15:op=15→f.a=0
theorem Zo8 (L:Nat)(op:Int)(h:1≤op∧op≤19):∃ f g gs,ZK Ii op=some f∧XO L ()=some gs∧ZK gs op=some g∧Rel op f g:=by
 have:op=1∨op=2∨op=3∨op=4∨op=5∨op=6∨op=7∨op=8∨op=9∨op=10∨op=11∨op=12∨op=13∨op=14∨op=15∨op=16∨op=17∨op=18∨op=19:=by omega
 rcases this with rfl | rfl | rfl | rfl | rfl | rfl | rfl | rfl | rfl | rfl | rfl | rfl | rfl | rfl | rfl | rfl | rfl | rfl | rfl <;>
  exact ⟨_,_,_,rfl,Zki L,rfl,⟨rfl,rfl,rfl,rfl,rfl,rfl,rfl,by decide,by decide,by decide,by decide,by decide,by decide,by decide,by decide⟩⟩
end Go.Proofs.YtgjcjbhhhlelnaaGreatDoor
end
section
namespace Go.Proofs.YtgjcjbhhhlelnaaGreatDoor
open Go Go.Proofs.YtgjcjbhhhlelnaaGreatDoor.Abs Go.Proofs.YtgjcjbhhhlelnaaGreatDoor.Tl
set_option maxRecDepth 100000
theorem Zwj (c x:Bool):(bif c then false else x)=(!c && x):=by cases c <;> rfl
theorem Zi8 (i:YC):SizeOf.sizeOf i.E < SizeOf.sizeOf i∧SizeOf.sizeOf i.F < SizeOf.sizeOf i∧SizeOf.sizeOf i.Args < SizeOf.sizeOf i∧SizeOf.sizeOf i.Dist < SizeOf.sizeOf i:=by cases i; simp; omega
def ZgY (f:IL)(i:YC):Bool:=(!decide (f.a=0) || decide (i.A=0)) && (!decide (f.b=0) || decide (i.B=0)) && (f.c || decide (i.C=0)) && (f.e || Am i.E) && (f.f || Am i.F) && (f.args || decide ((i.Args.length:Int)=0)) && (f.dist || P7 i.Dist) && (f.preempt || !i.Flag)
theorem ZuO (L:Nat)(i:YC)(h:II i)(hL:2 * SizeOf.sizeOf i≤L)(f:IL)(hf:ZK Ii i.Op=some f):Iz L (i,())=some (ZgY f i):=by
 have hz:=Zi8 i
 have z:=fun e (he:Yf e) (hl:SizeOf.sizeOf e≤L)=>show Hw L (e,())=some (Am e) by simp only [Zj,Zd,cond_true,cond_false,Zf,Z5,Za,Zq,condC,Zi,Zh,Zn,ZL,ZU,ZE,ZjJ,Zp8 L e _ he hl,F7]
 rw [ZhN,hf]
 simp only [Zj,Zd,cond_true,cond_false,Zf,Z5,Za,Zq,condC,Zi,Zh,Zn,ZL,ZU,ZE,z i.E h.E (by omega),z i.F h.F (by omega),ZfP L i.Dist _ h.Dist (by omega),Gm,ZgY]
theorem ZsZ (n:Nat):(!decide ((n:Int) > 0))=decide ((n:Int)=0):=by rw [← decide_not]; exact decide_eq_decide.2 (by omega)
theorem ZuT (L:Nat)(i:YC)(h:II i)(hL:2 * SizeOf.sizeOf i≤L)(f:IL)(g:V3)(gs:List V3)(hg:XO L ()=some gs)(hg':ZK gs i.Op=some g)(r:Rel i.Op f g):MF L (i,())=some (ZgY f i):=by
 have hz:=Zi8 i
 rw [Zkn,hg,Za,Z5,hg',Z5]
 simp only [Zj,Zd,cond_true,cond_false,Zf,Z5,Za,Zq,condC,Zi,Zh,Zn,ZL,ZU,ZE,ZpG L i.E h.E (by omega),ZpG L i.F h.F (by omega),Zbb L i.Dist _ h.Dist (by omega),Gm,r.wa0,r.wb0,r.rc,r.re,r.rf,r.rargs,r.rflag,r.rgdist,Zwj,Bool.not_and,Bool.not_not,ZsZ,ZgY]
 congr 1
 ac_rfl
def Zhc (f:IL)(i:YC):List Zu:=(bif f.e then [i.E] else []) ++ ((bif f.f then [i.F] else []) ++ (bif f.args then i.Args else []))
theorem apE (l m:List Zu)(h:(l.length + m.length) * 56≤140737488355328):apT 56 l m=some (l ++ m):=by unfold apT; rw [if_pos h]
theorem ZzY (i:YC)(ha:i.Args.length * 56≤140737488351232):apT 56 [] [i.E]=some [i.E]∧apT 56 [] [i.F]=some [i.F]∧apT 56 [i.E] [i.F]=some ([i.E] ++ [i.F])∧apT 56 [] i.Args=some i.Args∧apT 56 [i.E] i.Args=some ([i.E] ++ i.Args)∧apT 56 [i.F] i.Args=some ([i.F] ++ i.Args)∧apT 56 ([i.E] ++ [i.F]) i.Args=some ([i.E] ++ [i.F] ++ i.Args) :=
 ⟨apE [] [i.E] (by simp),apE [] [i.F] (by simp),apE _ _ (by simp),apE [] i.Args (by simp only [List.length_nil]; omega),apE _ _ (by simp only [List.length_cons,List.length_nil]; omega),apE _ _ (by simp only [List.length_cons,List.length_nil]; omega),apE _ _ (by simp only [List.cons_append,List.nil_append,List.length_cons,List.length_nil]; omega)⟩
theorem ZhE (L:Nat)(n:Int):U7 L (n,())=some (btw n 1 19):=ZhO L n
theorem ZeL (L:Nat)(n:Int):H6 L (n,())=some (btw n 1 19):=Zkm L n
theorem ZrY (L:Nat)(i:YC)(h:II i)(hk:btw i.Op 1 19=true)(f:IL)(hf:ZK Ii i.Op=some f):WG L (i,())=some (Zhc f i):=by
 have ha:=h.Args.1
 simp only [Zj,Zd,cond_true,cond_false,Zf,Z5,Za,Zq,condC,Zi,Zh,Zn,ZL,ZU,ZE,ED,ZhE,hk,hf,Bool.not_true]
 unfold Zhc
 obtain ⟨a0,a1,a2,a3,a4,a5,a6⟩:=ZzY i ha
 cases f.e <;> cases f.f <;> cases f.args <;> simp only [cond_true,cond_false,a0,a1,a2,a3,a4,a5,a6,Z5,List.nil_append,List.append_nil,List.append_assoc]
theorem Zsc (L:Nat)(i:YC)(h:II i)(hk:btw i.Op 1 19=true)(f:IL)(g:V3)(gs:List V3)(hg:XO L ()=some gs)(hg':ZK gs i.Op=some g)(r:Rel i.Op f g):MB L (i,())=some (Zhc f i):=by
 have ha:=h.Args.1
 simp only [Zj,Zd,cond_true,cond_false,Zf,Z5,Za,Zq,condC,Zi,Zh,Zn,ZL,ZU,ZE,Zkh,ZeL,hk,hg,hg',r.re,r.rf,r.rargs,Bool.not_true]
 unfold Zhc
 obtain ⟨a0,a1,a2,a3,a4,a5,a6⟩:=ZzY i ha
 cases f.e <;> cases f.f <;> cases f.args <;> simp only [cond_true,cond_false,a0,a1,a2,a3,a4,a5,a6,Z5,List.nil_append,List.append_nil,List.append_assoc]
theorem Zwn (f:IL)(i:YC)(h:II i):(Zhc f i).length≤4611686018427387∧(Zhc f i).length≤2 + i.Args.length∧∀ x ∈ Zhc f i,Yf x∧SizeOf.sizeOf x < SizeOf.sizeOf i:=by
 have hz:=Zi8 i
 have ha:=h.Args.1
 have hl:(Zhc f i).length≤2 + i.Args.length:=by
  unfold Zhc; cases f.e <;> cases f.f <;> cases f.args <;> simp <;> omega
 refine ⟨by omega,hl,fun x hx=>?_⟩
 unfold Zhc at hx
 rcases List.mem_append.1 hx with hx | hx
 ·cases he:f.e <;> rw [he] at hx
  ·cases hx
  ·rw [List.mem_singleton.1 hx]; exact ⟨h.E,by omega⟩
 rcases List.mem_append.1 hx with hx | hx
 ·cases he:f.f <;> rw [he] at hx
  ·cases hx
  ·rw [List.mem_singleton.1 hx]; exact ⟨h.F,by omega⟩
 ·cases he:f.args <;> rw [he] at hx
  ·cases hx
  ·have hx:x ∈ i.Args:=hx
   exact ⟨h.Args.2 x hx,by have:=List.sizeOf_lt_of_mem hx; omega⟩
def esR (d:Zc)(c:YX)(t:Int):List Zu→Int
 | []=>t
 | x :: r=>if decide (Qp true x≠0)=true then Qp true x else if (!(Zg7 (hdA d c) x))=true then 2 else esR d c t r
theorem lpA (L:Nat)(h1:1000≤L)(p:Zk)(si:Int)(sc:ZO)(hs:ZK p.Sites si=some sc)(c:YX)(i:YC)(h:II i)(hL:2 * SizeOf.sizeOf i≤L)(f:IL)(op:f.dist=decide (i.Op=3)):Zt (YD ⟨p,si,c⟩ i L f (Zhc f i)) L (0,())=some (esR sc.Decl c (if decide (i.Op=3)=true then L6 i.Dist else 0) (Zhc f i)):=by
 obtain ⟨e1,e2,e3⟩:=Zwn f i h
 have hz:=Zi8 i; have hk:=ZI i.Args
 refine Fj (Zhc f i) (fun l=>some (esR sc.Decl c (if decide (i.Op=3)=true then L6 i.Dist else 0) l)) (by omega) (fun self j x r hx hi mem e=>?_) (fun self=>?_)
 ·obtain ⟨o1,o2⟩:=e3 x mem
  rw [YD]
  simp only [Zj,Zd,cond_true,cond_false,Zf,Z5,Za,Zq,condC,Zi,Zh,Zn,ZL,ZU,ZE,hi,hx,Zj7 L x o1 (by omega),show Qd L (⟨p,si,c⟩,x,())=_ from ZpN L p si sc hs c L x o1 (by omega) (Nat.le_refl _),wrap_succ hi (by omega),e,esR]; simp only [Yo,Xh,if_true,if_false,Bool.false_eq_true,ne_eq,decide_not,gt_iff_lt,ge_iff_le]
 ·rw [YD]; simp only [Zj,Zd,cond_true,cond_false,Zf,Z5,Za,Zq,condC,Zi,Zh,Zn,ZL,ZU,ZE,op,Ti L i.Dist h.Dist (by omega) (by omega),esR]; simp only [Yo,Xh,if_true,if_false,Bool.false_eq_true,ne_eq,decide_not,gt_iff_lt,ge_iff_le]
theorem ZgX (x:Zu)(h:Qp true x=0):JB true x=0:=by
 unfold Qp at h
 by_cases a:60 < Zor x
 ·simp [a] at h
 by_cases b:12 < Zn9 x
 ·simp [a,b] at h
 simpa [a,b] using h
theorem lpB (L:Nat)(h1:1000≤L)(p:Zk)(si:Int)(sc:ZO)(hs:ZK p.Sites si=some sc)(c:YX)(i:YC)(h:II i)(hL:2 * SizeOf.sizeOf i≤L)(f:IL):Zt (Ip p si c i L (Zhc f i)) L (0,())=some (esR sc.Decl c (if decide (i.Op=3)=true then L6 i.Dist else 0) (Zhc f i)):=by
 obtain ⟨e1,e2,e3⟩:=Zwn f i h
 have hz:=Zi8 i; have hk:=ZI i.Args
 refine Fj (Zhc f i) (fun l=>some (esR sc.Decl c (if decide (i.Op=3)=true then L6 i.Dist else 0) l)) (by omega) (fun self j x r hx hi mem e=>?_) (fun self=>?_)
 ·obtain ⟨o1,o2⟩:=e3 x mem
  rw [Ip]
  simp only [Zj,Zd,cond_true,cond_false,Zf,Z5,Za,Zq,condC,Zi,Zh,Zn,ZL,ZU,ZE,hi,hx,ZhG L (by omega) x o1 (by omega),show FO L (p,si,c,x,())=_ from ZpM L p si sc hs c L x o1 (by omega) (Nat.le_refl _),wrap_succ hi (by omega),e,esR]
  by_cases z:Qp true x=0
  ·rw [ZsF sc.Decl c x (ZgX x z)]
   cases Zg7 (hdB sc.Decl c) x <;> simp [z]
  ·simp [z]
 ·rw [Ip]; simp only [Zj,Zd,cond_true,cond_false,Zf,Z5,Za,Zq,condC,Zi,Zh,Zn,ZL,ZU,ZE,BR L i.Dist h.Dist (by omega),esR]; simp only [Yo,Xh,if_true,if_false,Bool.false_eq_true,ne_eq,decide_not,gt_iff_lt,ge_iff_le]
end Go.Proofs.YtgjcjbhhhlelnaaGreatDoor
end
section
namespace Go.Proofs.YtgjcjbhhhlelnaaGreatDoor
open Go Go.Proofs.YtgjcjbhhhlelnaaGreatDoor.Abs Go.Proofs.YtgjcjbhhhlelnaaGreatDoor.Tl
set_option maxRecDepth 100000
theorem ZoC {α:Type}(l:List α)(n:Int)(h0:0≤n)(h:n < l.length):∃ x,ZK l n=some x∧x ∈ l:=by
 have hn:n.toNat < l.length:=by omega
 refine ⟨l[n.toNat],?_,List.getElem_mem hn⟩
 unfold ZK; rw [if_pos h0]; exact List.getElem?_eq_getElem hn
theorem Zew (L:Nat)(p:Zk)(o:Int)(so:ZO)(ho:ZK p.Sites o=some so)(i:YC) :
  ((decide (0≤i.B) && decide (i.B < (so.Routines.length:Int)))=false∧JW L (p,o,i,())=some 2) ∨
  ((decide (0≤i.B) && decide (i.B < (so.Routines.length:Int)))=true∧∃ cd,ZK so.Routines i.B=some cd∧JW L (p,o,i,())=some (bif !decide ((i.Args.length:Int)=cd.Params) then 8 else 0)):=by
 rw [Zkj,ho,Z5]
 by_cases h:0≤i.B∧i.B < (so.Routines.length:Int)
 ·refine .inr ⟨by simp [h.1,h.2],?_⟩
  obtain ⟨cd,hc,_⟩:=ZoC so.Routines i.B h.1 h.2
  refine ⟨cd,hc,?_⟩
  rw [show (decide (i.B < 0) || decide (i.B ≥ (so.Routines.length:Int)))=false by simp only [Bool.or_eq_false_iff,decide_eq_false_iff_not]; omega,hc]
  simp only [Zj,Zd,cond_true,cond_false,Zf,Z5,Za,Zq,condC,Zi,Zh,Zn,ZL,ZU,ZE]
 ·refine .inl ⟨by simp only [Bool.and_eq_false_iff,decide_eq_false_iff_not]; omega,?_⟩
  rw [show (decide (i.B < 0) || decide (i.B ≥ (so.Routines.length:Int)))=true by simp only [Bool.or_eq_true,decide_eq_true_eq]; omega]
  rfl
theorem orN (a b:Bool):(!b && !a)=!(a || b):=by cases a <;> cases b <;> rfl
theorem ZmB (L:Nat)(h1:1000≤L)(p:Zk)(hp:p.Links.length≤4611686018427387)(hpL:p.Links.length < L)(si:Int)(sc:ZO)(hs:ZK p.Sites si=some sc)(c:YX)(i:YC)(h:II i)(hL:2 * SizeOf.sizeOf i≤L) :
  ∃ v,YS L (⟨p,si,c⟩,i,())=some v∧XP L (p,si,c,i,())=some v:=by
 rw [D5,Zkl,show Uj=YD from rfl,show Uk=YD from rfl,ZhE,ZeL]
 by_cases hk:btw i.Op 1 19=true
 ·obtain ⟨f,g,gs,hf,hg,hg',r⟩:=Zo8 L i.Op (by simpa [btw] using hk)
  rw [ZuO L i h hL f hf,ZuT L i h hL f g gs hg hg' r,hf,ZrY L i h hk f hf,Zsc L i h hk f g gs hg hg' r]
  have la:=lpA L h1 p si sc hs c i h hL f r.rdist
  have lb:=lpB L h1 p si sc hs c i h hL f
  generalize esR sc.Decl c (if decide (i.Op=3)=true then L6 i.Dist else 0) (Zhc f i)=V at la lb
  cases hcl:ZgY f i
  ·exact ⟨1,by simp only [Zj,Zd,cond_true,cond_false,Zf,Z5,Za,Zq,condC,Zi,Zh,Zn,ZL,ZU,ZE,hk,Bool.not_true,Bool.not_false,Bool.or_true,Bool.false_or],by simp only [Zj,Zd,cond_true,cond_false,Zf,Z5,Za,Zq,condC,Zi,Zh,Zn,ZL,ZU,ZE,hk,Bool.not_true,Bool.not_false,Bool.or_true,Bool.false_or]⟩
  simp only [Zgj,hg,Z5,hg',Zx9 L p si sc hs c f.a i.A 0 r.na10]
  have iA:=ZlG L p si sc hs c g.A r.wa i.A
  rw [r.na] at iA
  by_cases hA:(decide (f.a=0) || Zrq p sc.Decl c f.a i.A)=true
  ·have hA':(!(Zrq p sc.Decl c f.a i.A) && !decide (f.a=0))=false:=by rw [orN,hA]; rfl
   rw [hA] at iA
   by_cases h14:i.Op=14
   ·
    have ha9:=r.f14 h14
    rw [ha9] at hA
    have hA2:0≤i.A∧i.A < (p.Sites.length:Int):=by simpa [Zrq,Zr8] using hA
    obtain ⟨so,ho,_⟩:=ZoC p.Sites i.A hA2.1 hA2.2
    have e14:decide (i.Op=14)=true:=by simp [h14]
    have e15:decide (i.Op=15)=false:=by simp [h14]
    have hb10:=Zp9 L p si sc hs c i.B i.A so ho
    simp only [ZL,ZE,e14,e15,cond_true,cond_false,Z5]
    simp only [hA',hk,iA,cond_true,cond_false,Z5,Bool.not_true,Bool.or_false,Zx2 L p si i.A hp hpL,ZxD L p si i.A hp hpL]
    simp only [Zh,hb10,ho,Z5,Za,cond_false,Bool.not_true,la,lb]
    cases hq:(!(Zv9 p si i.A).2.1 || !decide ((Zv9 p si i.A).1=i.C))
    ·rcases Zew L p i.A so ho i with ⟨b1,b2⟩ | ⟨b1,cd,b2,b3⟩
     ·exact ⟨2,by simp only [cond_true,cond_false,Z5,Za,Zq,condC,Zi,Zh,Zn,ZL,ZE,Bool.not_true,Bool.not_false,b1,Bool.not_false] <;> rfl,by simp only [cond_true,cond_false,Z5,Za,Zq,condC,Zi,Zh,Zn,ZL,ZE,Bool.not_true,Bool.not_false,b2] <;> rfl⟩
     ·cases hz:decide ((i.Args.length:Int)=cd.Params)
      ·exact ⟨8,by simp only [cond_true,cond_false,Z5,Za,Zq,condC,Zi,Zh,Zn,ZL,ZE,Bool.not_true,Bool.not_false,b1,b2,hz,Bool.not_true,Bool.not_false] <;> rfl,by simp only [cond_true,cond_false,Z5,Za,Zq,condC,Zi,Zh,Zn,ZL,ZE,Bool.not_true,Bool.not_false,b3,hz,Bool.not_true,Bool.not_false] <;> rfl⟩
      ·exact ⟨V,by simp only [cond_true,cond_false,Z5,Za,Zq,condC,Zi,Zh,Zn,ZL,ZE,Bool.not_true,Bool.not_false,b1,b2,hz,Bool.not_true,Bool.not_false] <;> rfl,by simp only [cond_true,cond_false,Z5,Za,Zq,condC,Zi,Zh,Zn,ZL,ZE,Bool.not_true,Bool.not_false,b3,hz,Bool.not_true,Bool.not_false] <;> rfl⟩
    ·exact ⟨16,by simp only [cond_true,cond_false,Z5,Za,Zq,condC,Zi,Zh,Zn,ZL,ZE,Bool.not_true,Bool.not_false] <;> rfl,by simp only [cond_true,cond_false,Z5,Za,Zq,condC,Zi,Zh,Zn,ZL,ZE,Bool.not_true,Bool.not_false] <;> rfl⟩
   ·by_cases h15:i.Op=15
    ·have e14:decide (i.Op=14)=false:=by simp [h15]
     have e15:decide (i.Op=15)=true:=by simp [h15]
     have hb10:=Zp9 L p si sc hs c i.B si sc hs
     simp only [ZL,ZE,e14,e15,cond_true,cond_false,Z5]
     simp only [hA',hk,iA,cond_true,cond_false,Z5,Bool.not_true,Bool.or_false]
     simp only [Zh,hb10,hs,Z5,Za,cond_false,Bool.not_true,la,lb]
     rcases Zew L p si sc hs i with ⟨b1,b2⟩ | ⟨b1,cd,b2,b3⟩
     ·exact ⟨2,by simp only [cond_true,cond_false,Z5,Za,Zq,condC,Zi,Zh,Zn,ZL,ZE,Bool.not_true,Bool.not_false,b1,Bool.not_false] <;> rfl,by simp only [cond_true,cond_false,Z5,Za,Zq,condC,Zi,Zh,Zn,ZL,ZE,Bool.not_true,Bool.not_false,b2] <;> rfl⟩
     ·cases hz:decide ((i.Args.length:Int)=cd.Params)
      ·exact ⟨8,by simp only [cond_true,cond_false,Z5,Za,Zq,condC,Zi,Zh,Zn,ZL,ZE,Bool.not_true,Bool.not_false,b1,b2,hz,Bool.not_true,Bool.not_false] <;> rfl,by simp only [cond_true,cond_false,Z5,Za,Zq,condC,Zi,Zh,Zn,ZL,ZE,Bool.not_true,Bool.not_false,b3,hz,Bool.not_true,Bool.not_false] <;> rfl⟩
      ·exact ⟨V,by simp only [cond_true,cond_false,Z5,Za,Zq,condC,Zi,Zh,Zn,ZL,ZE,Bool.not_true,Bool.not_false,b1,b2,hz,Bool.not_true,Bool.not_false] <;> rfl,by simp only [cond_true,cond_false,Z5,Za,Zq,condC,Zi,Zh,Zn,ZL,ZE,Bool.not_true,Bool.not_false,b3,hz,Bool.not_true,Bool.not_false] <;> rfl⟩
    ·obtain ⟨w1,w2,w3⟩:=r.wb h14 h15
     have e14:decide (i.Op=14)=false:=by simp [h14]
     have e15:decide (i.Op=15)=false:=by simp [h15]
     have iB:=ZlG L p si sc hs c g.B w1 i.B
     rw [w2] at iB
     simp only [cond_true,cond_false,Z5,Za,Zq,condC,Zi,Zh,Zn,ZL,ZE,Bool.not_true,Bool.not_false,hk,hA',iA,iB,e14,e15,Bool.not_true,Bool.or_false,Zx9 L p si sc hs c f.b i.B 0 w3,la,lb]
     cases decide (f.b=0) <;> cases Zrq p sc.Decl c f.b i.B
     ·exact ⟨2,rfl,rfl⟩
     ·exact ⟨V,rfl,rfl⟩
     ·exact ⟨V,rfl,rfl⟩
     ·exact ⟨V,rfl,rfl⟩
  ·rw [Bool.not_eq_true] at hA
   have hA':(!(Zrq p sc.Decl c f.a i.A) && !decide (f.a=0))=true:=by rw [orN,hA]; rfl
   rw [hA] at iA
   exact ⟨2,by simp only [cond_true,cond_false,Z5,Za,Zq,condC,Zi,Zh,Zn,ZL,ZE,Bool.not_true,Bool.not_false,hk,hA',Bool.not_true,Bool.or_false] <;> rfl,by simp only [cond_true,cond_false,Z5,Za,Zq,condC,Zi,Zh,Zn,ZL,ZE,Bool.not_true,Bool.not_false,hk,iA,Bool.not_true,Bool.not_false,Bool.or_false] <;> rfl⟩
 ·rw [Bool.not_eq_true] at hk
  exact ⟨1,by simp only [cond_true,cond_false,Z5,Za,Zq,condC,Zi,Zh,Zn,ZL,ZE,Bool.not_true,Bool.not_false,hk,Bool.not_false,Bool.true_or] <;> rfl,by simp only [cond_true,cond_false,Z5,Za,Zq,condC,Zi,Zh,Zn,ZL,ZE,Bool.not_true,Bool.not_false,hk,Bool.not_false,Bool.true_or] <;> rfl⟩
end Go.Proofs.YtgjcjbhhhlelnaaGreatDoor
end
section
namespace Go.Proofs.YtgjcjbhhhlelnaaGreatDoor
open Go Go.Proofs.YtgjcjbhhhlelnaaGreatDoor.Abs Go.Proofs.YtgjcjbhhhlelnaaGreatDoor.Tl
set_option maxRecDepth 100000
theorem Zvv (c:YX):SizeOf.sizeOf c.Name < SizeOf.sizeOf c∧SizeOf.sizeOf c.Instrs < SizeOf.sizeOf c:=by cases c; simp; omega
theorem ZwM {α:Type}{f:(Int×PUnit→Option Int)→Int×PUnit→Option Int}(l:List α)(V:α→Int)(T:Option Int){m:Nat}(hm:l.length < m)
  (h1:∀ self (i:Nat) x,l[i]? = some x→i < l.length→x ∈ l→f self ((i:Int),())=bif !decide (V x=0) then some (V x) else self ((i:Int) + 1,()))
  (h2:∀ self,f self ((l.length:Int),())=T):Zt f m (0,())=if decide (Yh V l≠0)=true then some (Yh V l) else T :=
 Fj l (fun l=>if decide (Yh V l≠0)=true then some (Yh V l) else T) hm (fun self i x r hx hi mem e=>by
  rw [h1 self i x hx hi mem,e,Yh]
  by_cases c:V x=0 <;> simp [c]) (fun self=>by rw [h2]; rfl)
theorem Zal (L:Nat)(h1:1000≤L)(p:Zk)(hp:p.Links.length≤4611686018427387)(hpL:p.Links.length < L)(si:Int)(sc:ZO)(hs:ZK p.Sites si=some sc)(c:YX)(h:ZnE c)(hL:2 * SizeOf.sizeOf c≤L) :
  ∃ v,Y0 L (p,si,c,())=some v∧YP L (p,si,c,())=some v:=by
 have hz:=Zvv c
 have hk:=ZI c.Instrs; have hl:=h.Instrs.1
 have hn1:=QH L c.Name (by have:=h.Name; unfold Len; omega) (by have:=ZI c.Name; omega)
 have hn2:=JP L c.Name (by have:=h.Name; unfold Len; omega) (by have:=ZI c.Name; omega) (by omega)
 have hV:∀ i ∈ c.Instrs,YS L (⟨p,si,c⟩,i,())=some ((XP L (p,si,c,i,())).getD 0)∧XP L (p,si,c,i,())=some ((XP L (p,si,c,i,())).getD 0):=fun i mem=>by
  have:=List.sizeOf_lt_of_mem mem
  obtain ⟨v,e1,e2⟩:=ZmB L h1 p hp hpL si sc hs c i (h.Instrs.2 i mem) (by omega)
  rw [e1,e2]; exact ⟨rfl,rfl⟩
 obtain ⟨V,hV'⟩:∃ V:YC→Int,∀ i ∈ c.Instrs,YS L (⟨p,si,c⟩,i,())=some (V i)∧XP L (p,si,c,i,())=some (V i):=⟨_,hV⟩
 by_cases ge:c.Instrs=[]
 ·have e0:decide ((c.Instrs.length:Int)=0)=true:=by rw [ge]; rfl
  refine ⟨_,by rw [Pv]; simp only [hn1,Z5,ZL,ZE,e0,cond_true,Zn]; rfl,?_⟩
  rw [EF]; simp only [hn2,Z5,ZL,ZE,e0,cond_true,Zn]
 ·have hpos:0 < c.Instrs.length:=List.length_pos_iff.2 ge
  have hw:IntKind.i64.wrap ((c.Instrs.length:Int) - 1)=((c.Instrs.length - 1:Nat):Int):=by rw [wrap_in (by omega) (by omega)]; omega
  have hx:=List.getElem?_eq_getElem (show c.Instrs.length - 1 < c.Instrs.length by omega)
  generalize c.Instrs[c.Instrs.length - 1]=x at hx
  have la:=ZwM (f := Je p si c L) c.Instrs V (some (bif !decide (x.Op=19) && !decide (x.Op=4) then 8 else 0)) (m := L) (by omega) (fun self i y hy hi mem=>by
   rw [Je]; simp only [Zj hi,cond_true,Zf,hy,Z5,(hV' y mem).1,ZE,wrap_succ hi (by omega)]) (fun self=>by
   rw [Je]; simp only [Zd,cond_false,hw,Zf,hx,Z5,ZE,Zn])
  have lb:=ZwM (f := Uf p si c L) c.Instrs V (some (bif !decide (x.Op=19) && !decide (x.Op=4) then 8 else 0)) (m := L) (by omega) (fun self i y hy hi mem=>by
   rw [Uf]; simp only [Zj hi,cond_true,Zf,hy,Z5,Za,(hV' y mem).2,ZE,wrap_succ hi (by omega)]) (fun self=>by
   rw [Uf]; simp only [Zd,cond_false,hw,Zf,hx,Z5,ZE,Zn])
  rw [Xh] at la lb
  refine ⟨_,by rw [Pv]; simp only [la,hn1,Z5,ZL,ZE,Zn]; rfl,?_⟩
  rw [EF]; simp only [lb,hn2,Z5,ZL,ZE,Zn]
end Go.Proofs.YtgjcjbhhhlelnaaGreatDoor
end
section
namespace Go.Proofs.YtgjcjbhhhlelnaaGreatDoor
open Go Go.Proofs.YtgjcjbhhhlelnaaGreatDoor.Abs Go.Proofs.YtgjcjbhhhlelnaaGreatDoor.Tl
set_option maxRecDepth 100000
def agL:List YX→List ZT→Bool
 | c :: l,r :: m=>if (!(decide (c.Name=r.Name) && decide (c.Params=(r.Params.length:Int)) && decide ((r.Body.length:Int)=0)))=true then false else agL l m
 | _,_=>true
def agB (s:ZO):Bool:=decide ((s.Routines.length:Int)=(s.Decl.Routines.length:Int)) && agL s.Routines s.Decl.Routines
theorem ZrX (L:Nat)(s:ZO)(h:s.Routines.length≤4611686018427387)(hL:s.Routines.length < L):KQ L (s,())=some (agB s):=by
 rcases ZvF s.Routines s.Decl.Routines with ⟨e1,e2⟩ | ⟨e1,e2⟩
 ·have lp:=ZdJ (f := JZ s L) s.Routines s.Decl.Routines e1 (fun l m=>some (agL l m)) hL (fun self i x y r r' hx hy hi _ e=>by
   rw [JZ]; simp only [Zj,Zd,cond_true,cond_false,Zf,Z5,Za,Zq,condC,Zi,Zh,Zn,ZL,ZU,ZE,hi,hx,hy,Zc9,wrap_succ hi (by omega),e,agL]; simp only [Yo,Xh,if_true,if_false,Bool.false_eq_true,ne_eq,decide_not,gt_iff_lt,ge_iff_le]) (fun self=>by rw [JZ]; simp only [Zj,Zd,cond_true,cond_false,Zf,Z5,Za,Zq,condC,Zi,Zh,Zn,ZL,ZU,ZE,agL])
  rw [EC,lp,agB,ZE,e2]; rfl
 ·rw [EC,agB,ZE,e2]; rfl
theorem ZrZ (L:Nat)(s:ZO)(h:s.Routines.length≤4611686018427387)(hL:s.Routines.length < L):O8 L (s,())=some (agB s):=by
 rcases ZvF s.Routines s.Decl.Routines with ⟨e1,e2⟩ | ⟨e1,e2⟩
 ·have lp:=ZdJ (f := Tn s) s.Routines s.Decl.Routines e1 (fun l m=>some (agL l m)) hL (fun self i x y r r' hx hy hi _ e=>by
   rw [Tn]; simp only [Zj,Zd,cond_true,cond_false,Zf,Z5,Za,Zq,condC,Zi,Zh,Zn,ZL,ZU,ZE,hi,hx,hy,wrap_succ hi (by omega),e,agL]
   rw [show decide ((y.Body.length:Int) > 0)=!decide ((y.Body.length:Int)=0) by rw [← ZsZ,Bool.not_not],decide_eq_decide.2 (⟨Eq.symm,Eq.symm⟩:y.Name=x.Name↔x.Name=y.Name),decide_eq_decide.2 (⟨Eq.symm,Eq.symm⟩:(y.Params.length:Int)=x.Params↔x.Params=(y.Params.length:Int))]
   cases decide ((y.Body.length:Int)=0) <;> cases decide (x.Name=y.Name) <;> cases decide (x.Params=(y.Params.length:Int)) <;> rfl) (fun self=>by rw [Tn]; simp only [Zj,Zd,cond_true,cond_false,Zf,Z5,Za,Zq,condC,Zi,Zh,Zn,ZL,ZU,ZE,agL])
  rw [ZeN,lp,agB,ZE,e2]; rfl
 ·rw [ZeN,agB,ZE,e2]; rfl
def Nv (l:ZgB):Int×Int:=(l.From,l.To)
def PL (p:Zk):List (Int×Int)→List ZgB→Int
 | _,[]=>0
 | seen,x :: r=>if (decide (x.From < 0) || decide (x.From ≥ (p.Sites.length:Int)) || decide (x.To < 0) || decide (x.To ≥ (p.Sites.length:Int)) || decide (x.From=x.To) || decide (x.Delay < 1) || decide (x.Delay > 1000000000))=true then 2
  else if seen.contains (Nv x)=true then 4 else PL p (seen ++ [Nv x]) r
theorem Zhs (l:List (Int×Int))(s:Int×Int):hasK (MK.pint IntKind.i64) l s=l.contains s:=by
 induction l with
 | nil=>rfl
 | cons x l ih =>
  rw [List.contains_cons,← ih]
  show (BEq.beq s.1 x.1 && BEq.beq s.2 x.2 || hasK (MK.pint IntKind.i64) l s)=_
  congr 1
theorem ZnH (l:List (Int×Int))(s:Int×Int)(h:l.contains s=false):CP (MK.pint IntKind.i64) l s=l ++ [s]:=by
 unfold CP; rw [Zhs,h]; rfl
theorem ZnM (x:ZgB)(n:Int):(decide ((if x.To < x.From then x.To else x.From) < 0) || decide ((if x.To > x.From then x.To else x.From) ≥ n) || decide (x.From=x.To))=(decide (x.From < 0) || decide (x.From ≥ n) || decide (x.To < 0) || decide (x.To ≥ n) || decide (x.From=x.To)):=by
 rw [Bool.eq_iff_iff]
 simp only [Bool.or_eq_true,decide_eq_true_eq]
 split <;> split <;> omega
theorem Zp7 (L:Nat)(p:Zk)(h:p.Links.length≤4611686018427387)(hL:p.Links.length < L):Hu L (p,())=some (if decide (32 < (p.Links.length:Int))=true then 6 else PL p [] p.Links):=by
 have lp:=Zcs (f := Uu p) p.Links (fun (s:List (Int×Int)) i=>(i,s,())) (fun l s=>some (PL p s l)) (fun self s i x r hx hi mem e=>by
  rw [Uu]
  simp only [Zj,Zd,cond_true,cond_false,Zf,Z5,Za,Zq,condC,Zi,Zh,Zn,ZL,ZU,ZE,hi,hx,ZnM,wrap_succ hi (by omega),e,Zhs,PL]
  generalize (decide (x.From < 0) || decide (x.From ≥ (p.Sites.length:Int)) || decide (x.To < 0) || decide (x.To ≥ (p.Sites.length:Int)) || decide (x.From=x.To))=a
  show _=some (if (a || decide (x.Delay < 1) || decide (x.Delay > 1000000000))=true then 2 else if s.contains (x.From,x.To)=true then 4 else PL p (s ++ [(x.From,x.To)]) r)
  cases hc:s.contains (x.From,x.To)
  ·rw [ZnH _ _ hc,e]; cases a <;> cases decide (x.Delay < 1) <;> cases decide (x.Delay > 1000000000) <;> rfl
  ·cases a <;> cases decide (x.Delay < 1) <;> cases decide (x.Delay > 1000000000) <;> rfl) (fun self s=>by rw [Uu]; simp only [Zj,Zd,cond_true,cond_false,Zf,Z5,Za,Zq,condC,Zi,Zh,Zn,ZL,ZU,ZE,PL]) L 0 [] (Nat.zero_le _) (by omega)
 rw [List.drop_zero] at lp
 rw [ZjI,show Zt (Uu p) L (0,[],())=_ from lp]
 simp only [Yo,Xh,if_true,if_false,Bool.false_eq_true,ne_eq,decide_not,gt_iff_lt,ge_iff_le]
end Go.Proofs.YtgjcjbhhhlelnaaGreatDoor
end
section
namespace Go.Proofs.YtgjcjbhhhlelnaaGreatDoor
open Go Go.Proofs.YtgjcjbhhhlelnaaGreatDoor.Abs Go.Proofs.YtgjcjbhhhlelnaaGreatDoor.Tl
set_option maxRecDepth 100000
theorem Zml (L:Nat)(p:Zk)(h:p.Links.length≤4611686018427387)(self:Int×Int×PUnit→Option Int)(i:Nat)(hi:i≤p.Links.length)(hL:p.Links.length < L)(y:ZgB) :
  Zt (GN p self (0,(i:Int),()) y) L (0,0,())=if ((p.Links.take i).map Nv).contains (Nv y)=true then some 4 else self (0,IntKind.i64.wrap ((i:Int) + 1),()):=by
 have hlen:(p.Links.take i).length=i:=by rw [List.length_take]; omega
 have:=Zcr (f := GN p self (0,(i:Int),()) y) i (fun j=>(0,j,())) (fun j=>if (((p.Links.take i).drop j).map Nv).contains (Nv y)=true then some 4 else self (0,IntKind.i64.wrap ((i:Int) + 1),())) (fun self1 j hj e=>by
  have hjl:j < p.Links.length:=by omega
  have hx:=List.getElem?_eq_getElem hjl
  have hd:(p.Links.take i).drop j=p.Links[j] :: (p.Links.take i).drop (j + 1):=by
   rw [List.drop_eq_getElem_cons (show j < (p.Links.take i).length by omega),List.getElem_take]
  rw [hd,GN]
  simp only [show decide ((j:Int) < (i:Int))=true by simp only [decide_eq_true_eq]; omega,cond_true,Zf,hx,Z5,ZL,Zq,wrap_in (show -9223372036854775808≤(j:Int) + 1 by omega) (by omega),e,List.map_cons,List.contains_cons]
  generalize p.Links[j]=x
  have hb:(Nv y == Nv x)=(decide (x.From=y.From) && decide (x.To=y.To)):=by
   show (BEq.beq y.From x.From && BEq.beq y.To x.To)=_
   rw [ZL,ZL,decide_eq_decide.2 (⟨Eq.symm,Eq.symm⟩:y.From=x.From↔x.From=y.From),decide_eq_decide.2 (⟨Eq.symm,Eq.symm⟩:y.To=x.To↔x.To=y.To)]
  rw [hb]
  cases decide (x.From=y.From) <;> cases decide (x.To=y.To) <;> rfl) (fun self1=>by
  rw [GN]
  simp only [Zd,cond_false]
  rw [List.drop_eq_nil_of_le (by omega)]; rfl) L 0 (Nat.zero_le _) (by omega)
 rw [List.drop_zero] at this
 exact this
theorem ZuV (L:Nat)(p:Zk)(h:p.Links.length≤4611686018427387)(hL:p.Links.length < L):O7 L (p,())=some (if decide (32 < (p.Links.length:Int))=true then 6 else PL p [] p.Links):=by
 have lp:=Zcr (f := GU p L) p.Links.length (fun i=>(0,i,())) (fun i=>some (PL p ((p.Links.take i).map Nv) (p.Links.drop i))) (fun self i hi e=>by
  have hx:=List.getElem?_eq_getElem hi
  have ht:(p.Links.take (i + 1)).map Nv=(p.Links.take i).map Nv ++ [Nv p.Links[i]]:=by
   rw [List.take_succ,hx,List.map_append]; rfl
  rw [List.drop_eq_getElem_cons hi,PL]
  rw [ht] at e
  rw [GU]
  simp only [Zj hi,cond_true,Zf,hx,Z5,ZL,Zml L p h self i (Nat.le_of_lt hi) hL,wrap_succ hi (by omega),e]
  rw [Yo]
  split
  ·rfl
  ·split <;> rfl) (fun self=>by
  rw [GU,List.drop_length]; simp only [Zd,cond_false,PL]) L 0 (Nat.zero_le _) (by omega)
 rw [List.drop_zero] at lp
 rw [Zng,show Zt (GU p L) L (0,0,())=_ from lp]
 simp only [Yo,Xh,if_true,if_false,Bool.false_eq_true,ne_eq,decide_not,gt_iff_lt,ge_iff_le]
 rfl
end Go.Proofs.YtgjcjbhhhlelnaaGreatDoor
end
section
namespace Go.Proofs.YtgjcjbhhhlelnaaGreatDoor
open Go Go.Proofs.YtgjcjbhhhlelnaaGreatDoor.Abs Go.Proofs.YtgjcjbhhhlelnaaGreatDoor.Tl
set_option maxRecDepth 100000
def Kv (n:List UInt8):Seen→List ZO→Int
 | _,[]=>0
 | seen,x :: r=>if decide (M1 n x.Decl≠0)=true then M1 n x.Decl else if seen.contains x.Decl.Name=true then 4 else if (!(agB x))=true then 8 else Kv n (seen ++ [x.Decl.Name]) r
theorem ZvO (p:Zk){s:ZO}(h:s ∈ p.Sites):SizeOf.sizeOf s.Decl < SizeOf.sizeOf p∧SizeOf.sizeOf s.Routines < SizeOf.sizeOf p∧SizeOf.sizeOf p.Name < SizeOf.sizeOf p∧p.Sites.length < SizeOf.sizeOf p∧p.Links.length < SizeOf.sizeOf p:=by
 have h1:=List.sizeOf_lt_of_mem h
 have h2:SizeOf.sizeOf s.Decl < SizeOf.sizeOf s∧SizeOf.sizeOf s.Routines < SizeOf.sizeOf s:=by cases s; simp; omega
 have h3:SizeOf.sizeOf p.Sites < SizeOf.sizeOf p∧SizeOf.sizeOf p.Name < SizeOf.sizeOf p∧SizeOf.sizeOf p.Links < SizeOf.sizeOf p:=by cases p; simp; omega
 have h4:=ZI p.Sites; have h5:=ZI p.Links
 omega
theorem Zoh (L:Nat)(h1:1000≤L)(p:Zk)(h:X5 p)(hL:2 * SizeOf.sizeOf p≤L)(hne:p.Sites.length < L)(T:Int)(hT:∀ seen:Seen,(bT (Hu L (p,())) fun (y:Int)=>bif y != (0:Int) then some y else Zt (XR p L) L (0,0,seen,()))=some T) :
  Zt (Jd p L) L (0,0,[],())=some (if decide (Kv p.Name [] p.Sites≠0)=true then Kv p.Name [] p.Sites else T):=by
 have hl:=h.Sites.1
 have:=Zcs (f := Jd p L) p.Sites (fun (s:Seen) i=>(0,i,s,())) (fun l s=>some (if decide (Kv p.Name s l≠0)=true then Kv p.Name s l else T)) (fun self s i x r hx hi mem e=>by
  have hz:=ZvO p mem
  have ok:=h.Sites.2 x mem
  have hr:=ok.Routines.1
  have e1:=Zsb L (by omega) p.Name h.Name (by have:=ZI p.Name; omega) x.Decl ok.Decl (by omega)
  have e2:=ZrX L x (by omega) (by have:=ZI x.Routines; omega)
  rw [Jd]
  simp only [Zj hi,cond_true,Zf,hx,Z5,e1,e2,ZE,Zf2,wrap_succ hi (by omega),e,Kv]
  by_cases a:M1 p.Name x.Decl=0
  ·rcases Bool.eq_false_or_eq_true (s.contains x.Decl.Name) with b | b
   ·have b':x.Decl.Name ∈ s:=List.contains_iff_mem.1 b
    simp [a,b']
   ·have b':¬ x.Decl.Name ∈ s:=fun hm=>by rw [List.contains_iff_mem.2 hm] at b; cases b
    rw [ZkW _ _ b,e]
    rcases Bool.eq_false_or_eq_true (agB x) with g | g <;> simp [a,b',g]
  ·simp [a]) (fun self s=>by rw [Jd]; simp only [Zd,cond_false,hT,Kv]; rfl) L 0 [] (Nat.zero_le _) (by omega)
 rw [List.drop_zero] at this
 exact this
end Go.Proofs.YtgjcjbhhhlelnaaGreatDoor
end
section
namespace Go.Proofs.YtgjcjbhhhlelnaaGreatDoor
open Go Go.Proofs.YtgjcjbhhhlelnaaGreatDoor.Abs Go.Proofs.YtgjcjbhhhlelnaaGreatDoor.Tl
set_option maxRecDepth 100000
theorem Zvq (L:Nat)(p:Zk)(h:p.Sites.length≤4611686018427387)(self:Int×Int×PUnit→Option Int)(i:Nat)(y:ZO)(hy:p.Sites[i]? = some y)(hi:i < p.Sites.length)(hL:p.Sites.length < L)(hf:O8 L (y,())=some (agB y)) :
  Zt (U1 p L self (0,(i:Int),())) L (0,0,())=if ((p.Sites.take i).map fun s=>s.Decl.Name).contains y.Decl.Name=true then some 4 else bif !(agB y) then some 8 else self (0,IntKind.i64.wrap ((i:Int) + 1),()):=by
 have hlen:(p.Sites.take i).length=i:=by rw [List.length_take]; omega
 have:=Zcr (f := U1 p L self (0,(i:Int),())) i (fun j=>(0,j,())) (fun j=>if (((p.Sites.take i).drop j).map fun s=>s.Decl.Name).contains y.Decl.Name=true then some 4 else bif !(agB y) then some 8 else self (0,IntKind.i64.wrap ((i:Int) + 1),())) (fun self1 j hj e=>by
  have hjl:j < p.Sites.length:=by omega
  have hx:=List.getElem?_eq_getElem hjl
  have hd:(p.Sites.take i).drop j=p.Sites[j] :: (p.Sites.take i).drop (j + 1):=by
   rw [List.drop_eq_getElem_cons (show j < (p.Sites.take i).length by omega),List.getElem_take]
  rw [hd,U1]
  simp only [show decide ((j:Int) < (i:Int))=true by simp only [decide_eq_true_eq]; omega,cond_true,Zf,hx,hy,Z5,ZU,wrap_in (show -9223372036854775808≤(j:Int) + 1 by omega) (by omega),e,List.map_cons,List.contains_cons]
  generalize p.Sites[j]=x
  rw [decide_eq_decide.2 (⟨Eq.symm,Eq.symm⟩:y.Decl.Name=x.Decl.Name↔x.Decl.Name=y.Decl.Name)]
  cases decide (x.Decl.Name=y.Decl.Name) <;> rfl) (fun self1=>by
  rw [U1]
  simp only [Zd,cond_false,Zf,hy,Z5,hf]
  rw [List.drop_eq_nil_of_le (by omega)]; rfl) L 0 (Nat.zero_le _) (by omega)
 rw [List.drop_zero] at this
 exact this
theorem Zvj (L:Nat)(h1:1000≤L)(p:Zk)(h:X5 p)(hL:2 * SizeOf.sizeOf p≤L)(hne:p.Sites.length < L)(T:Int)(hT:(bT (O7 L (p,())) fun (y:Int)=>Zt (QV p L) L (y,0,()))=some T) :
  Zt (U3 p L) L (0,0,())=some (if decide (Kv p.Name [] p.Sites≠0)=true then Kv p.Name [] p.Sites else T):=by
 have hl:=h.Sites.1
 have:=Zcr (f := U3 p L) p.Sites.length (fun i=>(0,i,())) (fun i=>some (if decide (Kv p.Name ((p.Sites.take i).map fun s=>s.Decl.Name) (p.Sites.drop i)≠0)=true then Kv p.Name ((p.Sites.take i).map fun s=>s.Decl.Name) (p.Sites.drop i) else T)) (fun self i hi e=>by
  have hx:=List.getElem?_eq_getElem hi
  have ht:((p.Sites.take (i + 1)).map fun s=>s.Decl.Name)=((p.Sites.take i).map fun s=>s.Decl.Name) ++ [p.Sites[i].Decl.Name]:=by
   rw [List.take_succ,hx,List.map_append]; rfl
  have mem:=List.getElem_mem hi
  rw [List.drop_eq_getElem_cons hi,Kv]
  rw [ht] at e
  generalize p.Sites[i]=x at hx e mem
  have hz:=ZvO p mem
  have ok:=h.Sites.2 x mem
  have hr:=ok.Routines.1
  have e1:=ZpC L h1 p.Name h.Name (by have:=ZI p.Name; omega) x.Decl ok.Decl (by omega)
  have e2:=ZrZ L x (by omega) (by have:=ZI x.Routines; omega)
  rw [U3]
  simp only [Zj hi,cond_true,Zf,hx,Z5,Za,e1,ZE,Zvq L p (by omega) self i x hx hi hne e2,wrap_succ hi (by omega),e]
  by_cases a:M1 p.Name x.Decl=0
  ·by_cases b:x.Decl.Name ∈ (p.Sites.take i).map fun s=>s.Decl.Name
   ·rw [List.contains_iff_mem.2 b]
    simp only [a,ne_eq,not_true_eq_false,decide_false,decide_true,Bool.not_true,Bool.not_false,Bool.false_eq_true,if_false,if_true,cond_true,cond_false] <;> rfl
   ·have b':((p.Sites.take i).map fun s=>s.Decl.Name).contains x.Decl.Name=false:=by rw [← Bool.not_eq_true,List.contains_iff_mem]; exact b
    rw [b']
    rcases Bool.eq_false_or_eq_true (agB x) with g | g <;> simp only [a,g,ne_eq,not_true_eq_false,decide_false,decide_true,Bool.not_true,Bool.not_false,Bool.false_eq_true,if_false,if_true,cond_true,cond_false] <;> rfl
  ·simp [a]) (fun self=>by
  rw [U3,List.drop_length]; simp only [Zd,cond_false,hT,Kv]; rfl) L 0 (Nat.zero_le _) (by omega)
 rw [List.drop_zero] at this
 exact this
end Go.Proofs.YtgjcjbhhhlelnaaGreatDoor
end
section
namespace Go.Proofs.YtgjcjbhhhlelnaaGreatDoor
open Go Go.Proofs.YtgjcjbhhhlelnaaGreatDoor.Abs Go.Proofs.YtgjcjbhhhlelnaaGreatDoor.Tl
set_option maxRecDepth 100000
def rX (V:Int→YX→Int):Int→List ZO→Int
 | _,[]=>0
 | i,x :: r=>if decide (Yh (V i) x.Routines≠0)=true then Yh (V i) x.Routines else rX V (i + 1) r
theorem ZqM (L:Nat)(p:Zk)(V:Int→YX→Int)(self:Int×Int×List (List UInt8)×PUnit→Option Int)(i:Nat)(seen s0:Seen)(y:ZO)(hl:y.Routines.length≤4611686018427387)(hL:y.Routines.length < L)(hV:∀ c ∈ y.Routines,Y0 L (p,(i:Int),c,())=some (V i c)) :
  Zt (Jc p L self (0,(i:Int),s0,()) y) L (0,0,seen,())=if decide (Yh (V i) y.Routines≠0)=true then some (Yh (V i) y.Routines) else self (0,IntKind.i64.wrap ((i:Int) + 1),seen,()):=by
 have:=Zcs (f := Jc p L self (0,(i:Int),s0,()) y) y.Routines (fun (_:Unit) j=>(0,j,seen,())) (fun l _=>if decide (Yh (V i) l≠0)=true then some (Yh (V i) l) else self (0,IntKind.i64.wrap ((i:Int) + 1),seen,())) (fun self1 s j x r hx hi mem e=>by
  rw [Jc]
  simp only [Zj hi,cond_true,Zf,hx,Z5,hV x mem,ZE,wrap_succ hi (by omega),e (),Yh]
  by_cases a:V i x=0 <;> simp [a]) (fun self1 s=>by rw [Jc]; simp only [Zd,cond_false,Yh]; rfl) L 0 () (Nat.zero_le _) (by omega)
 rw [List.drop_zero] at this
 exact this
theorem Zwf (L:Nat)(p:Zk)(V:Int→YX→Int)(h:p.Sites.length≤4611686018427387)(hL:p.Sites.length < L)(hr:∀ y ∈ p.Sites,y.Routines.length≤4611686018427387∧y.Routines.length < L)(hV:∀ (i:Nat) y,p.Sites[i]? = some y→∀ c ∈ y.Routines,Y0 L (p,(i:Int),c,())=some (V i c))(seen:Seen) :
  Zt (XR p L) L (0,0,seen,())=some (rX V 0 p.Sites):=by
 have:=Zcr (f := XR p L) p.Sites.length (fun i=>(0,i,seen,())) (fun i=>some (rX V i (p.Sites.drop i))) (fun self i hi e=>by
  have hx:=List.getElem?_eq_getElem hi
  have mem:=List.getElem_mem hi
  rw [List.drop_eq_getElem_cons hi,rX]
  generalize p.Sites[i]=y at hx mem
  rw [XR]
  simp only [Zj hi,cond_true,Zf,hx,Z5,ZqM L p V self i seen seen y (hr y mem).1 (hr y mem).2 (hV i y hx),wrap_succ hi (by omega),e]
  by_cases a:Yh (V i) y.Routines=0 <;> simp [a]) (fun self=>by rw [XR,List.drop_length]; simp only [Zd,cond_false,rX]) L 0 (Nat.zero_le _) (by omega)
 rw [List.drop_zero] at this
 exact this
theorem Zss (L:Nat)(p:Zk)(V:Int→YX→Int)(self:Int×Int×PUnit→Option Int)(i:Nat)(e0 n:Int)(y:ZO)(hy:p.Sites[i]? = some y)(hl:y.Routines.length≤4611686018427387)(hL:y.Routines.length < L)(hV:∀ c ∈ y.Routines,YP L (p,(i:Int),c,())=some (V i c)) :
  Zt (U2 p L self (e0,(i:Int),())) L (n,0,())=self (if decide (n=0)=true then Yh (V i) y.Routines else n,IntKind.i64.wrap ((i:Int) + 1),()):=by
 refine ZaF (f := U2 p L self (e0,(i:Int),())) y.Routines (fun l n=>self (if decide (n=0)=true then Yh (V i) l else n,IntKind.i64.wrap ((i:Int) + 1),())) hL n (fun self1 n j x r hx hi mem e=>?_) (fun self1 n=>?_)
 ·rw [U2]
  simp only [Zf,hy,Z5,Za,Zj hi,cond_true,hx,hV x mem,ZL,wrap_succ hi (by omega),e,Yh]
  by_cases a:n=0
  ·by_cases b:V i x=0 <;> simp [a,b]
  ·simp [a]
 ·rw [U2]
  simp only [Zf,hy,Z5,Zd,cond_false,Yh]
  by_cases a:n=0 <;> simp [a]
theorem ZzF (L:Nat)(p:Zk)(V:Int→YX→Int)(h:p.Sites.length≤4611686018427387)(hL:p.Sites.length < L)(hr:∀ y ∈ p.Sites,y.Routines.length≤4611686018427387∧y.Routines.length < L)(hV:∀ (i:Nat) y,p.Sites[i]? = some y→∀ c ∈ y.Routines,YP L (p,(i:Int),c,())=some (V i c))(n:Int) :
  Zt (QV p L) L (n,0,())=some (if decide (n=0)=true then rX V 0 p.Sites else n):=by
 have key:∀ (m i:Nat) (n:Int),i≤p.Sites.length→p.Sites.length - i < m→Zt (QV p L) m (n,(i:Int),())=some (if decide (n=0)=true then rX V i (p.Sites.drop i) else n):=by
  intro m
  induction m with
  | zero=>intro i n _ h; exact absurd h (Nat.not_lt_zero _)
  | succ m ih =>
   intro i n hi hm
   show QV p L (Zt (QV p L) m) (n,(i:Int),())=_
   rcases Nat.lt_or_ge i p.Sites.length with hlt | hge
   ·have hx:=List.getElem?_eq_getElem hlt
    have mem:=List.getElem_mem hlt
    rw [List.drop_eq_getElem_cons hlt,rX]
    generalize p.Sites[i]=y at hx mem
    rw [QV]
    simp only [Zj hlt,cond_true,Zss L p V _ i n n y hx (hr y mem).1 (hr y mem).2 (hV i y hx),wrap_succ hlt (by omega)]
    rw [show ((i:Int) + 1)=((i + 1:Nat):Int) from rfl,ih (i + 1) _ hlt (by omega)]
    by_cases a:n=0
    ·by_cases b:Yh (V i) y.Routines=0 <;> simp [a,b]
    ·simp [a]
   ·have:i=p.Sites.length:=by omega
    subst this
    rw [QV,List.drop_length]; simp only [Zd,cond_false,rX]
    by_cases a:n=0 <;> simp [a]
 have:=key L 0 n (Nat.zero_le _) (by omega)
 rw [List.drop_zero] at this
 exact this
end Go.Proofs.YtgjcjbhhhlelnaaGreatDoor
end
section
namespace Go.Proofs.YtgjcjbhhhlelnaaGreatDoor
open Go Go.Proofs.YtgjcjbhhhlelnaaGreatDoor.Abs Go.Proofs.YtgjcjbhhhlelnaaGreatDoor.Tl
set_option maxRecDepth 100000
theorem Zm3 (L:Nat)(h1:1000≤L)(p:Zk)(h:X5 p)(hL:2 * SizeOf.sizeOf p≤L):∃ v,Wy L (p,())=some v∧Me L (p,())=some v:=by
 have h3:SizeOf.sizeOf p.Sites < SizeOf.sizeOf p∧SizeOf.sizeOf p.Name < SizeOf.sizeOf p∧SizeOf.sizeOf p.Links < SizeOf.sizeOf p:=by cases p; simp; omega
 have h4:=ZI p.Sites; have h5:=ZI p.Links; have h6:=ZI p.Name
 have hs:=h.Sites.1; have hl:=h.Links.1
 have hn1:=QH L p.Name (by have:=h.Name; unfold Len; omega) (by omega)
 have hn2:=JP L p.Name (by have:=h.Name; unfold Len; omega) (by omega) (by omega)
 have hr:∀ y ∈ p.Sites,y.Routines.length≤4611686018427387∧y.Routines.length < L:=fun y mem=>by
  have hz:=ZvO p mem
  have:=(h.Sites.2 y mem).Routines.1
  have:=ZI y.Routines
  omega
 have hV:∀ (i:Nat) y,p.Sites[i]? = some y→∀ c ∈ y.Routines,Y0 L (p,(i:Int),c,())=some ((YP L (p,(i:Int),c,())).getD 0)∧YP L (p,(i:Int),c,())=some ((YP L (p,(i:Int),c,())).getD 0):=fun i y hy c hc=>by
  have mem:=List.mem_of_getElem? hy
  have hz:=ZvO p mem
  have:=List.sizeOf_lt_of_mem hc
  obtain ⟨v,e1,e2⟩:=Zal L h1 p (by omega) (by omega) (i:Int) y (by rw [Zf]; exact hy) c ((h.Sites.2 y mem).Routines.2 c hc) (by omega)
  rw [e1,e2]; exact ⟨rfl,rfl⟩
 obtain ⟨V,hV'⟩:∃ V:Int→YX→Int,∀ (i:Nat) y,p.Sites[i]? = some y→∀ c ∈ y.Routines,Y0 L (p,(i:Int),c,())=some (V i c)∧YP L (p,(i:Int),c,())=some (V i c):=⟨fun i c=>(YP L (p,i,c,())).getD 0,hV⟩
 have ca:=Zp7 L p (by omega) (by omega)
 have ra:=ZuV L p (by omega) (by omega)
 generalize (if decide (32 < (p.Links.length:Int))=true then 6 else PL p [] p.Links)=A at ca ra
 have c1:=Zoh L h1 p h hL (by omega) (if decide (A=0)=true then rX V 0 p.Sites else A) (fun seen=>by
  rw [ca,Z5,Zwf L p V (by omega) (by omega) hr (fun i y hy c hc=>(hV' i y hy c hc).1) seen,ZE]
  by_cases a:A=0 <;> simp [a])
 have r1:=Zvj L h1 p h hL (by omega) (if decide (A=0)=true then rX V 0 p.Sites else A) (by
  rw [ra,Z5,ZzF L p V (by omega) (by omega) hr (fun i y hy c hc=>(hV' i y hy c hc).2) A])
 refine ⟨_,by rw [Zab]; simp only [c1,hn1,Z5,ZL,ZE,Zn]; rfl,?_⟩
 rw [Zkg]; simp only [r1,hn2,Z5,ZL,ZE,Zn]
end Go.Proofs.YtgjcjbhhhlelnaaGreatDoor
end
section
namespace Go.Proofs.YtgjcjbhhhlelnaaGreatDoor
open Go Go.Proofs.YtgjcjbhhhlelnaaGreatDoor.Abs Go.Proofs.YtgjcjbhhhlelnaaGreatDoor.Tl
set_option maxRecDepth 100000
theorem Zhh {α:Type}(V:α→Int):∀ l:List α,Yh V l=0→∀ c ∈ l,V c=0
 | [],_,c,h=>by cases h
 | x :: l,h,c,hc=>by
  rw [Yh] at h
  by_cases a:V x=0
  ·simp [a] at h
   rcases List.mem_cons.1 hc with rfl | hc
   ·exact a
   ·exact Zhh V l h c hc
  ·simp [a] at h
theorem ZxK (V:Int→YX→Int):∀ (l:List ZO) (i:Nat),rX V i l=0→∀ (k:Nat) y,l[k]? = some y→∀ c ∈ y.Routines,V ((i + k:Nat):Int) c=0
 | [],_,_,k,y,h=>by simp at h
 | x :: l,i,h,k,y,hy=>by
  rw [rX] at h
  split at h
  ·rename_i a; simp only [decide_eq_true_eq] at a; exact absurd h a
  ·rename_i a
   have a:Yh (V i) x.Routines=0:=by simpa using a
   cases k with
   | zero=>simp at hy; subst hy; exact Zhh (V i) _ a
   | succ k =>
    have:=ZxK V l (i + 1) h k y (by simpa using hy)
    intro c hc
    have e:=this c hc
    rw [show i + (k + 1)=i + 1 + k by omega]; exact e
theorem ZqS (L:Nat)(h1:1000≤L)(p:Zk)(h:X5 p)(hL:2 * SizeOf.sizeOf p≤L)(e:Wy L (p,())=some 0) :
  (1≤p.Sites.length∧p.Sites.length≤16)∧(p.Links.length≤32∧PL p [] p.Links=0)∧∀ (i:Nat) y,p.Sites[i]? = some y→∀ c ∈ y.Routines,Y0 L (p,(i:Int),c,())=some 0:=by
 have h3:SizeOf.sizeOf p.Sites < SizeOf.sizeOf p∧SizeOf.sizeOf p.Name < SizeOf.sizeOf p∧SizeOf.sizeOf p.Links < SizeOf.sizeOf p:=by cases p; simp; omega
 have h4:=ZI p.Sites; have h5:=ZI p.Links; have h6:=ZI p.Name
 have hs:=h.Sites.1; have hl:=h.Links.1
 have hn1:=QH L p.Name (by have:=h.Name; unfold Len; omega) (by omega)
 have hr:∀ y ∈ p.Sites,y.Routines.length≤4611686018427387∧y.Routines.length < L:=fun y mem=>by
  have hz:=ZvO p mem
  have:=(h.Sites.2 y mem).Routines.1
  have:=ZI y.Routines
  omega
 obtain ⟨V,hV⟩:∃ V:Int→YX→Int,∀ (i:Nat) y,p.Sites[i]? = some y→∀ c ∈ y.Routines,Y0 L (p,(i:Int),c,())=some (V i c):=⟨fun i c=>(Y0 L (p,i,c,())).getD 0,fun i y hy c hc=>by
  have mem:=List.mem_of_getElem? hy
  have hz:=ZvO p mem
  have:=List.sizeOf_lt_of_mem hc
  obtain ⟨v,e1,e2⟩:=Zal L h1 p (by omega) (by omega) (i:Int) y (by rw [Zf]; exact hy) c ((h.Sites.2 y mem).Routines.2 c hc) (by omega)
  show _=some ((Y0 L (p,(i:Int),c,())).getD 0)
  rw [e1]; rfl⟩
 have ca:=Zp7 L p (by omega) (by omega)
 generalize hA:(if decide (32 < (p.Links.length:Int))=true then 6 else PL p [] p.Links)=A at ca
 have c1:=Zoh L h1 p h hL (by omega) (if decide (A=0)=true then rX V 0 p.Sites else A) (fun seen=>by
  rw [ca,Z5,Zwf L p V (by omega) (by omega) hr hV seen,ZE]
  by_cases a:A=0 <;> simp [a])
 rw [Zab,hn1,Z5,c1] at e
 by_cases a1:V9 p.Name=0
 rotate_left
 ·rw [ZE,decide_eq_false a1] at e; exact absurd (Option.some.inj e) a1
 by_cases a2:(p.Sites.length:Int)=0
 ·simp [a1,a2] at e
 by_cases a3:(p.Sites.length:Int) > 16
 ·have a3':decide ((p.Sites.length:Int) > 16)=true:=by simpa using a3
  rw [a3',ZE,a1,ZL,decide_eq_false a2] at e; cases e
 have a3':decide ((p.Sites.length:Int) > 16)=false:=by simpa using a3
 rw [a3',ZE,a1,ZL,decide_eq_false a2] at e
 replace e:(if decide (Kv p.Name [] p.Sites≠0)=true then Kv p.Name [] p.Sites else if decide (A=0)=true then rX V 0 p.Sites else A)=0:=Option.some.inj e
 split at e
 ·rename_i b; simp only [decide_eq_true_eq] at b; exact absurd e b
 rename_i b
 have b:Kv p.Name [] p.Sites=0:=by simpa using b
 split at e
 rotate_left
 ·rename_i d; exact absurd e (by simpa using d)
 rename_i d
 have d:A=0:=by simpa using d
 rw [d] at hA
 refine ⟨⟨by omega,by omega⟩,?_,fun i y hy c hc=>?_⟩
 ·split at hA
  ·cases hA
  ·rename_i g; exact ⟨by simp at g; omega,hA⟩
 ·have:=ZxK V p.Sites 0 e i y hy c hc
  rw [Nat.zero_add] at this
  rw [hV i y hy c hc,this]
theorem ZiU (p:Zk):∀ (l:List ZgB) (s:List (Int×Int)),PL p s l=0→∀ x ∈ l,(0≤x.From∧x.From < p.Sites.length∧0≤x.To∧x.To < p.Sites.length∧x.From≠x.To∧1≤x.Delay∧x.Delay≤1000000000)∧Nv x ∉ s∧l.find? (fun y=>decide (y.From=x.From) && decide (y.To=x.To))=some x
 | [],_,_,x,h=>by cases h
 | y :: l,s,h,x,hx=>by
  rw [PL] at h
  split at h
  ·cases h
  rename_i a
  split at h
  ·cases h
  rename_i b
  have a':0≤y.From∧y.From < p.Sites.length∧0≤y.To∧y.To < p.Sites.length∧y.From≠y.To∧1≤y.Delay∧y.Delay≤1000000000:=by
   simp only [Bool.or_eq_true,decide_eq_true_eq,not_or] at a; omega
  have b':Nv y ∉ s:=fun m=>b (List.contains_iff_mem.2 m)
  rcases List.mem_cons.1 hx with rfl | hx
  ·exact ⟨a',b',by simp [List.find?_cons]⟩
  ·obtain ⟨c1,c2,c3⟩:=ZiU p l _ h x hx
   refine ⟨c1,fun m=>c2 (List.mem_append_left _ m),?_⟩
   have:(decide (y.From=x.From) && decide (y.To=x.To))=false:=by
    rw [← Bool.not_eq_true,Bool.and_eq_true,decide_eq_true_eq,decide_eq_true_eq]
    rintro ⟨d1,d2⟩
    exact c2 (List.mem_append_right _ (by simp [Nv,d1,d2]))
   rw [List.find?_cons,this]; exact c3
end Go.Proofs.YtgjcjbhhhlelnaaGreatDoor
end
section
namespace Go.Proofs.YtgjcjbhhhlelnaaGreatDoor
open Go Go.Proofs.YtgjcjbhhhlelnaaGreatDoor.Abs Go.Proofs.YtgjcjbhhhlelnaaGreatDoor.Tl
set_option maxRecDepth 100000
def at_ (l:List Int)(i:Int):Int:=l.getD i.toNat 0
end Go.Proofs.YtgjcjbhhhlelnaaGreatDoor
end
section
namespace Go.Proofs.YtgjcjbhhhlelnaaGreatDoor
open Go Go.Proofs.YtgjcjbhhhlelnaaGreatDoor.Abs
set_option maxRecDepth 100000
set_option maxHeartbeats 0
abbrev Zbn:FuncId:=44
def Zo:List Nat:=[24,25]
def Yq (G:GT)(K:KT)(L:Nat)(hp0:HP)(y7:AV)(hp:HP)(ef:Eff):KR :=
 some (ZdB true hp0 y7 hp ef)
theorem JG (G:GT)(K:KT)(L:Nat)(hp0:HP)   : WA G 48 hp0.length K Zo L Xq (Tu Zo Zw hp0) (Tu Zo Zw hp0) []=fun e hp ef=>Yq G K L hp0  (e 7).val hp ef:=by
 kernel_rfl
def Yb (G:GT)(K:KT)(L:Nat)(hp0:HP)(k0:AV→HP→Eff→KR):Nat→AV→AV→AV→HP→Eff→KR
 | 0,_,_,_,_,_=>none
 | m + 1,x7,y7,x8,hp,ef =>
  YV (Xf hp .slice x7) fun v14 =>
  YV (ZM .lss .prim x8 v14) fun v15 =>
  ifK v15
  (YV (Xy (.slice 1) x7 (some x8) none) fun v16 =>
  YV (Xy (.slice 1) x7 none (some x8)) fun v17 =>
  Ik (copyV hp0.length 1 v16 v17 hp ef) fun v18 h19 f20 =>
  YV (ZM .add .prim x8 v18) fun v21 =>
  Yb G K L hp0 k0 m x7 y7 v21 h19 f20)
  (k0 y7 hp ef)
theorem JI (G:GT)(K:KT)(L:Nat)(hp0:HP)(k0:AV→HP→Eff→KR)  : ∀ m,Dz (fun n'=>WA G 48 hp0.length K Zo L WH n' (Tu Zo Zw hp0) [(0,(fun e hp ef=>k0 (e 7).val hp ef))]) m=fun e hp ef=>Yb G K L hp0 k0 m (e 7).rd (e 7).val (e 8).rd hp ef:=by
 intro m
 induction m with
 | zero=>rfl
 | succ m ih =>
  show WA G 48 hp0.length K Zo L WH (Dz _ m) (Tu Zo Zw hp0) [(0,(fun e hp ef=>k0 (e 7).val hp ef))]=_
  rw [ih]
  kernel_rfl
theorem JH (G:GT)(K:KT)(L:Nat)(hp0:HP)(k0:AV→HP→Eff→KR)(zn:IW):WA G 48 hp0.length K Zo L Xr zn (Tu Zo Zw hp0) [(0,(fun e hp ef=>k0 (e 7).val hp ef))]=fun e hp ef=>Yb G K L hp0 k0 L (e 7).rd (e 7).val (e 8).rd hp ef:=JI G K L hp0 k0  L
def WU (G:GT)(K:KT)(L:Nat)(hp0:HP)(x0:AV)(x6:AV)(hp:HP)(ef:Eff):KR :=
 YV (XD hp (.int .i64) x6) fun v8 =>
 Zd0 (Zh1 XK [(.int .i64 0)] v8 hp) fun v9 h10 =>
 Ik (copyV hp0.length 1 v9 x0 h10 ef) fun v11 h12 f13 =>
 Yb G K L hp0 (Yq G K L hp0) L v9 v9 v11 h12 f13
theorem JF (G:GT)(K:KT)(L:Nat)(hp0:HP)   : WA G 48 hp0.length K Zo L WS (Tu Zo Zw hp0) (Tu Zo Zw hp0) []=fun e hp ef=>WU G K L hp0  (e 0).rd (e 6).rd hp ef:=by
 simp only [WS,Ut,XB,XC,VN]
 rw [JG G K L hp0  ,JH G K L hp0 (Yq G K L hp0)  _]
 kernel_rfl
def WT (G:GT)(K:KT)(L:Nat)(hp0:HP)(x0:AV)(x1:AV)(hp:HP)(ef:Eff):KR :=
 YV (Xf hp .slice x0) fun v0 =>
 YV (XD hp (.int .u64) v0) fun v1 =>
 YV (XD hp (.int .u64) x1) fun v2 =>
 Ik (K Zbn [v1,v2] hp) fun v3 h4 f5 =>
 YV (XW (AV.ro v3) 0) fun v6 =>
 YV (XW (AV.ro v3) 1) fun v7 =>
 YV (ZM .gtr .prim v6 (.int .u64 0)) fun v22 =>
 Zf1 v22 false
 (YV (ZM .gtr .prim v7 (.int .u64 9223372036854775807)) fun v23 =>
 some (v23,h4,(Gy hp0.length ef f5)))
 (some (.bool true)) h4 (Gy hp0.length ef f5) fun v24 h25 f26 =>
 ifK (AV.ro v24)
 (none)
 (WU G K L hp0  x0 v7 h25 f26)
theorem JE (G:GT)(K:KT)(L:Nat)(hp0:HP)   : WA G 48 hp0.length K Zo L WR (Tu Zo Zw hp0) (Tu Zo Zw hp0) []=fun e hp ef=>WT G K L hp0  (e 0).rd (e 1).rd hp ef:=by
 simp only [WR,Ut,XB,XC,VN]
 rw [JF G K L hp0 ]
 kernel_rfl
def Q3 (G:GT)(K:KT)(L:Nat)(x0 x1:AV)(hp0:HP):KR :=
 YV (ZM .lss .prim (AV.ro x1) (.int .i64 0)) fun v27 =>
 ifK v27
 (none)
 (WT G K L hp0  (AV.ro x0) (AV.ro x1) hp0 none)
theorem Kz (G:GT)(K:KT)(L:Nat)(x0 x1:AV)(hp0:HP):fnK G K Zo L Zw [x0,x1] hp0=Q3 G K L x0 x1 hp0:=by
 show WA G 48 hp0.length K Zo L Qz (Tu Zo Zw hp0) (Tu Zo Zw hp0) [] (ZsG [x0,x1]) hp0 none=_
 simp only [Qz,Ut,XB,XC,VN]
 rw [JE G K L hp0 ]
 kernel_rfl
theorem GZ {C:Cfg}(h:C.T ZC=some Zw){n:Nat}{x0 x1:AV}{hp:HP}{r:AV×HP×Eff}(hr:Q3 C.G (Zv C n) C.L x0 x1 hp=some r):Zv C (n + 1) ZC [x0,x1] hp=some r:=Zhk h (Nat.le_of_ble_eq_true rfl) ((Kz ..).trans hr)
end Go.Proofs.YtgjcjbhhhlelnaaGreatDoor
end
section
namespace Go.Proofs.YtgjcjbhhhlelnaaGreatDoor
open Go Go.RowKit Go.Proofs.YtgjcjbhhhlelnaaGreatDoor.Abs Go.Proofs.YtgjcjbhhhlelnaaGreatDoor.Tl
set_option maxRecDepth 100000
set_option maxHeartbeats 0
noncomputable def ZaR:Cfg:=⟨fun _=>none,fun f=>(Zvw.find? (·.1 == f)).map (·.2),fun _ _ _=>none,64⟩
theorem Zty (W0:World):ZgD Tryz.prog W0 ZaR where
 mixed:=by kernel_rfl
 globals:=fun g cells h=>by cases h
 table:=fun f af h=>by
  have h:(Zvw.find? (·.1 == f)).map (·.2)=some af:=h
  obtain ⟨p,hp,rfl⟩:=Option.map_eq_some_iff.1 h
  have hf:=List.find?_some hp
  have:p.1=f:=by simpa using hf
  subst this
  exact Zk8 p (List.mem_of_find?_eq_some hp)
 oracle:=fun _ _ _ _ _ _ h=>by cases h
theorem Zzp (hp:HP):Zv ZaR 7 44 [.int .u64 1,.int .u64 1] hp=some (.tup [.int .u64 0,.int .u64 1],hp,none):=by kernel_rfl
theorem Zzq (hp:HP):Zv ZaR 7 44 [.int .u64 1,.int .u64 2] hp=some (.tup [.int .u64 0,.int .u64 2],hp,none):=by kernel_rfl
theorem Zzr (hp:HP):Zv ZaR 7 44 [.int .u64 1,.int .u64 3] hp=some (.tup [.int .u64 0,.int .u64 3],hp,none):=by kernel_rfl
theorem Zzs (hp:HP):Zv ZaR 7 44 [.int .u64 1,.int .u64 4] hp=some (.tup [.int .u64 0,.int .u64 4],hp,none):=by kernel_rfl
theorem Zzt (hp:HP):Zv ZaR 7 44 [.int .u64 1,.int .u64 5] hp=some (.tup [.int .u64 0,.int .u64 5],hp,none):=by kernel_rfl
theorem Zzu (hp:HP):Zv ZaR 7 44 [.int .u64 1,.int .u64 6] hp=some (.tup [.int .u64 0,.int .u64 6],hp,none):=by kernel_rfl
theorem Zzv (hp:HP):Zv ZaR 7 44 [.int .u64 1,.int .u64 7] hp=some (.tup [.int .u64 0,.int .u64 7],hp,none):=by kernel_rfl
theorem Zzw (hp:HP):Zv ZaR 7 44 [.int .u64 1,.int .u64 8] hp=some (.tup [.int .u64 0,.int .u64 8],hp,none):=by kernel_rfl
theorem Zzx (hp:HP):Zv ZaR 7 44 [.int .u64 1,.int .u64 9] hp=some (.tup [.int .u64 0,.int .u64 9],hp,none):=by kernel_rfl
theorem ZwQ (hp:HP):Zv ZaR 7 44 [.int .u64 1,.int .u64 10] hp=some (.tup [.int .u64 0,.int .u64 10],hp,none):=by kernel_rfl
theorem ZwR (hp:HP):Zv ZaR 7 44 [.int .u64 1,.int .u64 11] hp=some (.tup [.int .u64 0,.int .u64 11],hp,none):=by kernel_rfl
theorem ZwS (hp:HP):Zv ZaR 7 44 [.int .u64 1,.int .u64 12] hp=some (.tup [.int .u64 0,.int .u64 12],hp,none):=by kernel_rfl
theorem ZwT (hp:HP):Zv ZaR 7 44 [.int .u64 1,.int .u64 13] hp=some (.tup [.int .u64 0,.int .u64 13],hp,none):=by kernel_rfl
theorem ZwU (hp:HP):Zv ZaR 7 44 [.int .u64 1,.int .u64 14] hp=some (.tup [.int .u64 0,.int .u64 14],hp,none):=by kernel_rfl
theorem ZwV (hp:HP):Zv ZaR 7 44 [.int .u64 1,.int .u64 15] hp=some (.tup [.int .u64 0,.int .u64 15],hp,none):=by kernel_rfl
theorem ZwW (hp:HP):Zv ZaR 7 44 [.int .u64 1,.int .u64 16] hp=some (.tup [.int .u64 0,.int .u64 16],hp,none):=by kernel_rfl
theorem Zzy (hp:HP)(n:Nat)(h1:1≤n)(h2:n≤16):Zv ZaR 7 44 [.int .u64 1,.int .u64 n] hp=some (.tup [.int .u64 0,.int .u64 n],hp,none):=by
 have:n=1∨n=2∨n=3∨n=4∨n=5∨n=6∨n=7∨n=8∨n=9∨n=10∨n=11∨n=12∨n=13∨n=14∨n=15∨n=16:=by omega
 rcases this with rfl | rfl | rfl | rfl | rfl | rfl | rfl | rfl | rfl | rfl | rfl | rfl | rfl | rfl | rfl | rfl
 ·exact Zzp hp
 ·exact Zzq hp
 ·exact Zzr hp
 ·exact Zzs hp
 ·exact Zzt hp
 ·exact Zzu hp
 ·exact Zzv hp
 ·exact Zzw hp
 ·exact Zzx hp
 ·exact ZwQ hp
 ·exact ZwR hp
 ·exact ZwS hp
 ·exact ZwT hp
 ·exact ZwU hp
 ·exact ZwV hp
 ·exact ZwW hp
theorem Ze2:∀ (k:Nat) (l:List AV),k≤l.length→chunk 1 k l=(l.take k).map fun a=>[a]
 | 0,l,_=>rfl
 | k + 1,[],h=>by simp at h
 | k + 1,a :: l,h=>by
  rw [chunk,List.take_succ_cons,List.take_zero,List.drop_succ_cons,List.drop_zero,Ze2 k l (by simpa using h),List.take_succ_cons,List.map_cons]
theorem Zrc (l:List AV):(l.map fun a=>[a]).flatten=l:=by
 induction l with
 | nil=>rfl
 | cons a l ih=>rw [List.map_cons,List.flatten_cons,ih]; rfl
def Zh3 (k z:Nat):List Int:=List.replicate k (-1) ++ List.replicate z 0
theorem ZrA (k z:Nat):(Zh3 k z).length=k + z:=by simp [Zh3]
theorem Zh4 (k z c:Nat)(h:c≤k):(Zh3 k z).take c=List.replicate c (-1):=by
 rw [Zh3,List.take_append_of_le_length (by simpa using h),List.take_replicate,Nat.min_eq_left h]
theorem Zk5 (k z c:Nat)(h1:c≤k)(h2:c≤z):splice (YL (Zh3 k z)) k (YL (List.replicate c (-1)))=YL (Zh3 (k + c) (z - c)):=by
 simp only [splice,YL,List.length_map,List.length_replicate]
 rw [← List.map_take,← List.map_drop,← List.map_append,← List.map_append]
 congr 1
 rw [Zh4 k z k (Nat.le_refl _),Zh3,Zh3,List.drop_append,List.length_replicate]
 rw [List.drop_eq_nil_of_le (by simp),List.nil_append,show k + c - k=c by omega,List.drop_replicate,List.replicate_append_replicate]
theorem Zvo (l:List Int):(YL l).map AV.ro=YL l:=by rw [YL,List.map_map]; rfl
theorem ZrM (l:List Int):(YL l).all AV.one=true:=by simp [YL,AV.one]
theorem ZtM (bs:Nat)(h:HP)(t:TypeId)(k z:Nat)(hk:1≤k)(hz:1≤z)(hb:bs≤h.length):copyV bs 1 (.arr h.length k z 1) (.arr h.length 0 k 1) (h ++ [.cells (YL (Zh3 k z)) t]) none =
  some (.int .i64 (min k z:Nat),h ++ [.cells (YL (Zh3 (k + min k z) (z - min k z))) t],none):=by
 have hl:(YL (Zh3 k z)).length=k + z:=by rw [List.length_map,ZrA]
 have e1:rowsOf (h ++ [.cells (YL (Zh3 k z)) t]) (.arr h.length 0 k 1)=some (1,(YL (List.replicate k (-1))).map fun a=>[a]):=by
  simp only [rowsOf,Ji]
  rw [if_pos (by omega),List.drop_zero,Ze2 k _ (by omega),YL,← List.map_take,Zh4 k z k (Nat.le_refl _)]
 have e2:(((YL (List.replicate k (-1))).map fun a=>[a]).take (min k z)).flatten.map AV.ro=YL (List.replicate (min k z) (-1)):=by
  rw [← List.map_take,Zrc,YL,← List.map_take,List.take_replicate,show min (min k z) k=min k z by omega]
  exact Zvo _
 have e3:((YL (List.replicate k (-1))).map fun a=>[a]).length=k:=by simp [YL]
 have e4:Nat.min k z=min k z:=rfl
 simp only [copyV,e1,Ji,e3,e4]
 rw [e2,if_pos ⟨trivial,trivial,by omega,ZrM _⟩,ZfC,Zk5 k z _ (Nat.min_le_left _ _) (Nat.min_le_right _ _)]
 have:Nl bs none h.length 0=none:=by simp [Nl]; omega
 rw [this]
theorem Zl2 (G:GT)(K:KT)(L:Nat)(hp0:HP)(t:TypeId)(n:Nat)(hn:n≤16):∀ (m k:Nat),1≤k→k≤n→n - k < m →
  Yb G K L hp0 (Yq G K L hp0) m (.arr hp0.length 0 n 1) (.arr hp0.length 0 n 1) (.int .i64 k) (hp0 ++ [.cells (YL (Zh3 k (n - k))) t]) none=some (.arr hp0.length 0 n 1,hp0 ++ [.cells (YL (Zh3 n 0)) t],none)
 | 0,_,_,_,h=>absurd h (Nat.not_lt_zero _)
 | m + 1,k,hk,hkn,hm=>by
  rw [Yb]
  have e0:Xf (hp0 ++ [.cells (YL (Zh3 k (n - k))) t]) .slice (.arr hp0.length 0 n 1)=some (.int .i64 n):=rfl
  rcases Nat.lt_or_ge k n with hlt | hge
  ·have el:decide ((k:Int) < (n:Int))=true:=by simp; omega
   have h':(k:Int)≤n:=by omega
   have hne:k≠n:=by omega
   have h0:(0:Nat)≠k:=by omega
   have e1:Xy (.slice 1) (.arr hp0.length 0 n 1) (some (.int .i64 k)) none=some (.arr hp0.length k (n - k) 1):=by simp [Xy,bound,h',hne]
   have e2:Xy (.slice 1) (.arr hp0.length 0 n 1) none (some (.int .i64 k))=some (.arr hp0.length 0 k 1):=by simp [Xy,bound,h',h0]
   have e3:=ZtM hp0.length hp0 t k (n - k) hk (by omega) (Nat.le_refl _)
   have ew:IntKind.i64.wrap ((k:Int) + ((min k (n - k):Nat):Int))=((k + min k (n - k):Nat):Int):=by rw [i64_in (by omega) (by omega)]; omega
   have ih:=Zl2 G K L hp0 t n hn m (k + min k (n - k)) (by omega) (by omega) (by omega)
   rw [show n - (k + min k (n - k))=n - k - min k (n - k) by omega] at ih
   simp only [EV,e0,el,e1,e2,e3,ew,ih,if_true]
  ·obtain rfl:k=n:=by omega
   have el:decide ((k:Int) < (k:Int))=false:=by simp
   rw [Nat.sub_self] at e0 ⊢
   simp only [EV,e0,el,Yq,Bool.false_eq_true,if_false]
   rfl
theorem ZsB (hp:HP)(n:Nat)(h1:1≤n)(h2:n≤16):Zv ZaR 8 ZC [.lst 1 [[.int .i64 (-1)]],.int .i64 n] hp=some (.arr hp.length 0 n 1,hp ++ [.cells (YL (List.replicate n (-1))) XK],none):=by
 refine GZ (by kernel_rfl) ?_
 have a1:decide ((n:Int) < 0)=false:=by simp
 have a2:IntKind.u64.wrap (n:Int)=n:=by
  have:IntKind.u64.wrap (n:Int)=(n:Int) % 18446744073709551616:=rfl
  rw [this]; omega
 have a3:IntKind.u64.wrap (((1:Nat)):Int)=1:=rfl
 have a4:decide ((0:Int) < 0)=false:=rfl
 have a5:decide ((9223372036854775807:Int) < n)=false:=by simp; omega
 have a6:IntKind.i64.wrap (n:Int)=n:=i64_in (by omega) (by omega)
 have a7:Zh1 XK [.int .i64 0] (.int .i64 n) hp=some (.arr hp.length 0 n 1,hp ++ [.cells (YL (List.replicate n 0)) XK]):=by
  have:(0:Int)≤(n:Int)∧(n:Int)≤4294967296:=⟨by omega,by omega⟩
  simp only [Zh1,if_pos this,Int.toNat_natCast,List.length_singleton]
  rw [YL,List.map_replicate,Eg]
 have a8:copyV hp.length 1 (.arr hp.length 0 n 1) (.lst 1 [[.int .i64 (-1)]]) (hp ++ [.cells (YL (List.replicate n 0)) XK]) none=some (.int .i64 1,hp ++ [.cells (YL (Zh3 1 (n - 1))) XK],none):=by
  have e1:rowsOf (hp ++ [.cells (YL (List.replicate n 0)) XK]) (.lst 1 [[.int .i64 (-1)]])=some (1,[[.int .i64 (-1)]]):=rfl
  have e2:Nat.min 1 n=1:=Nat.min_eq_left h1
  have e3:(YL (List.replicate n 0)).length=n:=by simp [YL]
  simp only [copyV,e1,Ji,List.length_singleton,e2]
  rw [if_pos ⟨trivial,trivial,by omega,rfl⟩,ZfC]
  have:Nl hp.length none hp.length 0=none:=by simp [Nl]
  rw [this]
  obtain ⟨q,rfl⟩:∃ q,n=q + 1:=⟨n - 1,by omega⟩
  rfl
 have a9:=Zl2 ZaR.G (Zv ZaR 7) ZaR.L hp XK n h2 64 1 (Nat.le_refl _) h1 (by omega)
 rw [show Zh3 n 0=List.replicate n (-1) from List.append_nil _] at a9
 have b1:AV.ro (.tup [.int .u64 0,.int .u64 n])=.tup [.int .u64 0,.int .u64 n]:=rfl
 have b2:=Zzy hp n h1 h2
 simp only [Q3,WT,WU,EV,EX,GI,BL,a1,a2,a3,a4,a5,a6,a7,a8,b1,b2,Bool.false_eq_true,if_false,List.length_singleton]
 exact a9
end Go.Proofs.YtgjcjbhhhlelnaaGreatDoor
end
