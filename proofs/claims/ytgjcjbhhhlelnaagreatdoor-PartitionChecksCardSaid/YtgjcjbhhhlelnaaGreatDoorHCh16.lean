import Derived.Test.YtgjcjbhhhlelnaaGreatDoorHCh15
set_option linter.all false
section
namespace Go.Proofs.YtgjcjbhhhlelnaaGreatDoor
open Go Go.Proofs.YtgjcjbhhhlelnaaGreatDoor.Abs Go.Proofs.YtgjcjbhhhlelnaaGreatDoor.Tl
set_option maxRecDepth 100000
theorem ZcZ {α:Type}(nm:α→List UInt8)(s:List UInt8)(l:List α):decide (GG (fun x=>decide (nm x=s)) l 0 ≥ 0)=(l.map nm).contains s:=by
 rw [show decide (GG (fun x=>decide (nm x=s)) l 0 ≥ 0)=_ from Ci _ l 0 (Int.le_refl _),← Zm2,List.any_map]
 congr 1; funext x; exact decide_eq_decide.2 ⟨Eq.symm,Eq.symm⟩
theorem Jq (d:Ze):SizeOf.sizeOf d.Name < SizeOf.sizeOf d∧SizeOf.sizeOf d.Vars < SizeOf.sizeOf d∧SizeOf.sizeOf d.Resources < SizeOf.sizeOf d∧SizeOf.sizeOf d.Stores < SizeOf.sizeOf d∧SizeOf.sizeOf d.Belts < SizeOf.sizeOf d∧SizeOf.sizeOf d.Queues < SizeOf.sizeOf d∧SizeOf.sizeOf d.Streams < SizeOf.sizeOf d∧SizeOf.sizeOf d.Tallies < SizeOf.sizeOf d∧SizeOf.sizeOf d.Levels < SizeOf.sizeOf d∧SizeOf.sizeOf d.Counts < SizeOf.sizeOf d∧SizeOf.sizeOf d.Routines < SizeOf.sizeOf d∧SizeOf.sizeOf d.Starts < SizeOf.sizeOf d∧SizeOf.sizeOf d.Laws < SizeOf.sizeOf d:=by
 cases d; simp; omega
structure Sh (L:Nat)(d:Ze):Prop where
 nm:d.Name.length < L
 vars:d.Vars.length < L
 res:d.Resources.length < L
 sto:d.Stores.length < L
 bel:d.Belts.length < L
 que:d.Queues.length < L
 str:d.Streams.length < L
 tal:d.Tallies.length < L
 lev:d.Levels.length < L
 cnt:d.Counts.length < L
 rou:d.Routines.length < L
 sta:d.Starts.length < L
 law:d.Laws.length < L
theorem Sh.of {L:Nat}{d:Ze}(h:SizeOf.sizeOf d≤L):Sh L d:=by
 have:=Jq d
 constructor
 ·have:=ZH d.Name; omega
 ·have:=ZH d.Vars; omega
 ·have:=ZH d.Resources; omega
 ·have:=ZH d.Stores; omega
 ·have:=ZH d.Belts; omega
 ·have:=ZH d.Queues; omega
 ·have:=ZH d.Streams; omega
 ·have:=ZH d.Tallies; omega
 ·have:=ZH d.Levels; omega
 ·have:=ZH d.Counts; omega
 ·have:=ZH d.Routines; omega
 ·have:=ZH d.Starts; omega
 ·have:=ZH d.Laws; omega
theorem ZoS (L:Nat)(d:Ze)(t:IY)(h:ZG d)(hL:d.Stores.length < L):Zt (XQ d t) L (0,())=some (GG (fun x:Yx=>decide (x.Name=t.Name)) d.Stores 0):=by
 have:=h.st
 exact ZkA d.Stores (fun l i=>some (GG (fun x:Yx=>decide (x.Name=t.Name)) l i)) hL (fun self i x r hx hi _ e=>by
  rw [XQ]; simp only [Zj,Zd,cond_true,cond_false,Zg,Zz,Za,Zm,condC,Zi,Zh,Zl,ZI,ZR,ZA,hi,hx,wrap_succ hi (by omega),e,GG]; simp only [Yu,Xp,if_true,if_false,Bool.false_eq_true,ne_eq,decide_not,gt_iff_lt,ge_iff_le]) (fun self=>by rw [XQ]; simp only [Zj,Zd,cond_true,cond_false,Zg,Zz,Za,Zm,condC,Zi,Zh,Zl,ZI,ZR,ZA,GG])
theorem ZyP (L:Nat)(d:Ze)(t:IY)(h:ZG d)(hs:Sh L d):Iz L (d,t,())=some (Zff d t):=by
 have:=h.st
 have sl:=ZoS L d t h hs.sto
 rw [Zjn,show Ac=XQ from rfl,show Ad=XQ from rfl]
 simp only [Zj,Zd,cond_true,cond_false,Zg,Zz,Za,Zm,condC,Zi,Zh,Zl,ZI,ZR,ZA,ZfQ L d t.Name (by unfold Len; omega) hs.rou,sl,ZfP L d.Counts t.Name (by unfold Len; omega) hs.cnt,Uy,ZcZ,Zff,Zfg]; simp only [Yu,Xp,if_true,if_false,Bool.false_eq_true,ne_eq,decide_not,gt_iff_lt,ge_iff_le]
theorem Z1e {l:List Ze8}{x:Ze8}(h:x ∈ l):x.Terms.length < SizeOf.sizeOf l∧x.Name.length < SizeOf.sizeOf l:=by
 have:=List.sizeOf_lt_of_mem h
 have h1:=ZH x.Terms; have h2:=ZH x.Name
 have:SizeOf.sizeOf x.Terms < SizeOf.sizeOf x∧SizeOf.sizeOf x.Name < SizeOf.sizeOf x:=by cases x; simp; omega
 omega
theorem SG {α σ:Type}(f:α→Int)(s:σ):∀ l:List α,YL (fun x s=>(f x,s)) l s=(Yk f l,s)
 | []=>rfl
 | x :: l=>by rw [YL,SG f s l,Yk]; split <;> rfl
theorem ZyK (L:Nat)(d:Ze)(h:ZG d)(hL:SizeOf.sizeOf d≤L):Iw L (d,())=some (DU d):=by
 have hs:=Sh.of hL
 have hz:=Jq d
 have hl:d.Laws.length≤4611686018427387:=by have:=h.Laws.1; omega
 have lp:=ZgO (f := KG d L) d.Laws (fun l:Ze8=>Yy l.Name (ZrM d l)) hs.law ([]:Seen) (fun self s i x hx hi mem=>by
  have hsz:=Z1e mem
  have ok:=h.Laws.2 x mem
  have hn:=QD L x.Name (by have:=ok.Name; unfold Len; omega) (by omega)
  have ht:=ok.t
  have tl:=fun s:Seen=>ZgO (f := KF d L x) x.Terms (fun t s=>(Zff d t,s)) (show x.Terms.length < L by omega) s (fun self s i t hx hi mem=>by
   rw [KF]; simp only [Zj,Zd,cond_true,cond_false,Zg,Zz,Za,Zm,condC,Zi,Zh,Zl,ZI,ZR,ZA,hi,hx,ZyP L d t h hs,wrap_succ hi (by omega)]) (fun self s=>by rw [KF]; simp only [Zj,Zd,cond_true,cond_false,Zg,Zz,Za,Zm,condC,Zi,Zh,Zl,ZI,ZR,ZA])
  simp only [SG] at tl
  rw [KG]
  simp only [Zj,cond_true,Zg,Zz,ZA,KD,hi,hx,hn]
  simp only [Zj,Zd,cond_true,cond_false,Zg,Zz,Za,Zm,condC,Zi,Zh,Zl,ZI,ZR,ZA,Z04,tl,wrap_succ hi (by omega)]
  simp only [Yy,ZrM,NG]
  by_cases a:(YA x.Name s).1=0 <;> by_cases b:x.Terms=[] <;> by_cases c:8 < (x.Terms.length:Int) <;> by_cases e:Yk (Zff d) x.Terms=0 <;> rcases Bool.eq_false_or_eq_true (inB x.Total) with g | g <;> simp [a,b,c,e,g,Zz])
  (fun self s=>by rw [KG]; simp only [Zj,Zd,cond_true,cond_false,Zg,Zz,Za,Zm,condC,Zi,Zh,Zl,ZI,ZR,ZA])
 rw [Zjl,G8 32 (fun l:Ze8=>Yy l.Name (ZrM d l)) d.Laws [] lp,Zz]
 rfl
end Go.Proofs.YtgjcjbhhhlelnaaGreatDoor
end
section
namespace Go.Proofs.YtgjcjbhhhlelnaaGreatDoor
open Go Go.Proofs.YtgjcjbhhhlelnaaGreatDoor.Abs Go.Proofs.YtgjcjbhhhlelnaaGreatDoor.Tl
set_option maxRecDepth 100000
theorem Ztx (L:Nat)(a b:List WJ)(h:a.length + b.length≤1000)(hL:2 < L):Yf L ([a,b],())=some (a ++ b):=by
 have w1:IntKind.i64.wrap (0 + (a.length:Int))=a.length:=by rw [Int.zero_add]; exact wrap_in (by omega) (by omega)
 have w2:IntKind.i64.wrap ((a.length:Int) + b.length)=(a.length:Int) + b.length:=wrap_in (by omega) (by omega)
 have n1:decide ((a.length:Int) < 0)=false:=by simp only [decide_eq_false_iff_not]; omega
 have n2:decide ((a.length:Int) + b.length < 0)=false:=by simp only [decide_eq_false_iff_not]; omega
 have g:Zs8 [] ((a.length:Int) + b.length)=some []:=by unfold Zs8; rw [if_pos ⟨rfl,by omega,by omega⟩]
 have p1:apT 24 [] a=some a:=by unfold apT; rw [if_pos (by simp only [List.length_nil]; omega)]; rfl
 have p2:apT 24 a b=some (a ++ b):=by unfold apT; rw [if_pos (by omega)]
 rw [Vg,ZeN _ hL]
 simp only [WM,two,w01,Zz,cond_true,cond_false,w1,w2,n1,n2,g,ZeN (Y4 _) hL,Y4,p1,p2]
theorem Z0v {α σ:Type}{f:(Int×σ×PUnit→Option Int)→Int×σ×PUnit→Option Int}(l:List α)(step:α→σ→Int×σ)(e:Int){m:Nat}(hm:l.length < m)(s:σ)
  (h1:∀ self s (i:Nat) x,l[i]? = some x→i < l.length→x ∈ l→f self ((i:Int),s,())=bif !decide ((step x s).1=0) then some (step x s).1 else self ((i:Int) + 1,(step x s).2,()))
  (h2:∀ self s,f self ((l.length:Int),s,())=some e):Zt f m (0,s,())=some (if decide ((YL step l s).1≠0)=true then (YL step l s).1 else e) :=
 ZiH l (fun s i=>(i,s,())) (fun l s=>some (if decide ((YL step l s).1≠0)=true then (YL step l s).1 else e)) (fun self s i x r hx hi mem e=>by
  rw [h1 self s i x hx hi mem,e,YL]
  by_cases c:(step x s).1=0 <;> simp [c]) (fun self s=>by rw [h2]; rfl) m 0 s (Nat.zero_le _) (by omega)
theorem Zz5 {l:List WJ}{x:WJ}(h:x ∈ l):x.Name.length < SizeOf.sizeOf l:=by
 have:=List.sizeOf_lt_of_mem h
 have h2:=ZH x.Name
 have:SizeOf.sizeOf x.Name < SizeOf.sizeOf x:=by cases x; simp; omega
 omega
theorem ZuE (r:ZU):SizeOf.sizeOf r.Name < SizeOf.sizeOf r∧SizeOf.sizeOf r.Params < SizeOf.sizeOf r∧SizeOf.sizeOf r.Locals < SizeOf.sizeOf r∧SizeOf.sizeOf r.Body < SizeOf.sizeOf r:=by cases r; simp; omega
theorem Zra (L:Nat)(h1:100≤L)(r:ZU)(h:IX r)(hL:SizeOf.sizeOf r≤L):Jt L (r,())=some (X3 r):=by
 have hz:=ZuE r
 have hp:=h.p
 have hw:IntKind.i64.wrap ((r.Params.length:Int) + (r.Locals.length:Int))=(r.Params.length:Int) + (r.Locals.length:Int):=wrap_in (by omega) (by omega)
 rw [Zd3,hw,X3]
 by_cases hc:6 < (r.Params.length:Int)∨16 < (r.Params.length:Int) + (r.Locals.length:Int)
 ·rw [if_pos (by simpa using hc),show (decide ((r.Params.length:Int) > 6) || decide ((r.Params.length:Int) + (r.Locals.length:Int) > 16))=true by simpa using hc]; rfl
 ·have hf:(decide ((r.Params.length:Int) > 6) || decide ((r.Params.length:Int) + (r.Locals.length:Int) > 16))=false:=by
   simp only [Bool.or_eq_false_iff,decide_eq_false_iff_not]; omega
  have hf':¬ ((decide (6 < (r.Params.length:Int)) || decide (16 < (r.Params.length:Int) + (r.Locals.length:Int)))=true):=by simpa using hc
  rw [if_neg hf',hf,cond_false,Ztx L _ _ (by omega) (by omega),Zz]
  have hlen:(r.Params ++ r.Locals).length≤16:=by rw [List.length_append]; omega
  exact Z0v (f := Vy r L (r.Params ++ r.Locals)) (r.Params ++ r.Locals) (fun f:WJ=>Yy f.Name (ZcR f)) (ZaF r.Body) (by omega) [] (fun self s i x hx hi mem=>by
   have ok:ZbV x∧x.Name.length < L:=by
    rcases List.mem_append.1 mem with m | m
    ·exact ⟨h.Params.2 x m,by have:=Zz5 m; omega⟩
    ·exact ⟨h.Locals.2 x m,by have:=Zz5 m; omega⟩
   have hn:=QD L x.Name (by have:=ok.1.Name; unfold Len; omega) ok.2
   rw [Vy]
   simp only [Zj,cond_true,Zg,Zz,ZA,KD,hi,hx,hn]
   simp only [Zj,Zd,cond_true,cond_false,Zg,Zz,Za,Zm,condC,Zi,Zh,Zl,ZI,ZR,ZA,Zng,wrap_succ hi (by omega)]
   simp only [Yy,ZcR]
   by_cases a:(YA x.Name s).1=0 <;> rcases Bool.eq_false_or_eq_true (btw x.Ty 1 3) with g | g <;> simp [a,g]) (fun self s=>by
   rw [Vy]; simp only [Zj,Zd,cond_true,cond_false,Zg,Zz,Za,Zm,condC,Zi,Zh,Zl,ZI,ZR,ZA,Zt5 L h1 r.Body h.p.2.2 (by omega)])
theorem ZoZ {α:Type}[SizeOf α](g:α→List UInt8)(hg:∀ x,SizeOf.sizeOf (g x) < SizeOf.sizeOf x){l:List α}{x:α}(h:x ∈ l):(g x).length < SizeOf.sizeOf l∧SizeOf.sizeOf x < SizeOf.sizeOf l:=by
 have h1:=List.sizeOf_lt_of_mem h
 have h2:=ZH (g x)
 have h3:=hg x
 omega
theorem Zqr (L:Nat)(d:Ze)(h:d.Queues.length * 16≤140737488351232∧∀ y ∈ d.Queues,y.length≤140737488351232)(hL:SizeOf.sizeOf d.Queues≤L)(s:Seen):Zt (KN d L) L (0,s,())=some ((YL YA d.Queues s).1,(YL YA d.Queues s).2,()):=by
 have hk:=ZH d.Queues
 refine ZgO d.Queues YA (by omega) s (fun self s i x hx hi mem=>?_) (fun self s=>by rw [KN]; simp only [Zj,Zd,cond_true,cond_false,Zg,Zz,Za,Zm,condC,Zi,Zh,Zl,ZI,ZR,ZA])
 have h1:=List.sizeOf_lt_of_mem mem
 have hn:=QD L x (by have:=h.2 x mem; unfold Len; omega) (by have:=ZH x; omega)
 rw [KN]
 simp only [Zj,cond_true,Zg,Zz,ZA,KD,hi,hx,hn]
 simp only [Zj,Zd,cond_true,cond_false,Zg,Zz,Za,Zm,condC,Zi,Zh,Zl,ZI,ZR,ZA,wrap_succ hi (by omega)]
theorem ZxT (L:Nat)(d:Ze)(h:ZG d)(hL:SizeOf.sizeOf d≤L)(s:Seen):Zt (KH d L) L (0,s,())=some ((YL (fun v:VM=>Yy v.Name (LC v)) d.Vars s).1,(YL (fun v:VM=>Yy v.Name (LC v)) d.Vars s).2,()):=by
 have hz:=Jq d
 have hs:=Sh.of hL
 have hl:=h.Vars.1
 refine ZgO d.Vars _ hs.vars s (fun self s i x hx hi mem=>?_) (fun self s=>by rw [KH]; simp only [Zj,Zd,cond_true,cond_false,Zg,Zz,Za,Zm,condC,Zi,Zh,Zl,ZI,ZR,ZA])
 have hm:=ZoZ (fun v:VM=>v.Name) (fun x=>by cases x; simp; omega) mem
 have hn:=QD L x.Name (by have:=(h.Vars.2 x mem).Name; unfold Len; omega) (by omega)
 rw [KH]
 simp only [Zj,cond_true,Zg,Zz,ZA,KD,hi,hx,hn]
 simp only [Zj,Zd,cond_true,cond_false,Zg,Zz,Za,Zm,condC,Zi,Zh,Zl,ZI,ZR,ZA,Zng,Zu5,wrap_succ hi (by omega)]
 simp only [Yy,LC]
 by_cases a:(YA x.Name s).1=0 <;> rcases Bool.eq_false_or_eq_true (btw x.Ty 1 3) with g | g <;> rcases Bool.eq_false_or_eq_true (fitsT x.Ty x.N) with g' | g' <;> simp [a,g,g']
theorem Z0n (L:Nat)(h1:100≤L)(d:Ze)(h:ZG d)(hL:SizeOf.sizeOf d≤L)(s:Seen):Zt (KI d L) L (0,s,())=some ((YL (fun v:Zv=>Yy v.Name (Zo9 d v)) d.Resources s).1,(YL (fun v:Zv=>Yy v.Name (Zo9 d v)) d.Resources s).2,()):=by
 have hz:=Jq d
 have hs:=Sh.of hL
 have hl:=h.Resources.1
 refine ZgO d.Resources _ hs.res s (fun self s i x hx hi mem=>?_) (fun self s=>by rw [KI]; simp only [Zj,Zd,cond_true,cond_false,Zg,Zz,Za,Zm,condC,Zi,Zh,Zl,ZI,ZR,ZA])
 have hm:=ZoZ (fun v:Zv=>v.Name) (fun x=>by cases x; simp; omega) mem
 have ok:=h.Resources.2 x mem
 have hx2:SizeOf.sizeOf x.Fault < SizeOf.sizeOf x∧SizeOf.sizeOf x.Shift < SizeOf.sizeOf x:=by cases x; simp; omega
 have hsh:=ZH x.Shift
 have hn:=QD L x.Name (by have:=ok.Name; unfold Len; omega) (by omega)
 rw [KI]
 simp only [Zj,cond_true,Zg,Zz,ZA,KD,hi,hx,hn]
 simp only [Zj,Zd,cond_true,cond_false,Zg,Zz,Za,Zm,condC,Zi,Zh,Zl,ZI,ZR,ZA,Uy,Zon L x ok (by omega),Zoj L d h hL x.Fault ok.Fault (by omega) h1,wrap_succ hi (by omega)]
 simp only [Yy,Zo9]
 by_cases a:(YA x.Name s).1=0 <;> rcases Bool.eq_false_or_eq_true (btw x.Units 0 1000) with g | g <;> by_cases b:ZrR x=0 <;> simp [a,g,b]
theorem Z0q (L:Nat)(d:Ze)(h:ZG d)(hL:SizeOf.sizeOf d≤L)(s:Seen):Zt (KJ d L) L (0,s,())=some ((YL (fun v:Yx=>Yy v.Name (Lt v)) d.Stores s).1,(YL (fun v:Yx=>Yy v.Name (Lt v)) d.Stores s).2,()):=by
 have hz:=Jq d
 have hs:=Sh.of hL
 have hl:=h.Stores.1
 refine ZgO d.Stores _ hs.sto s (fun self s i x hx hi mem=>?_) (fun self s=>by rw [KJ]; simp only [Zj,Zd,cond_true,cond_false,Zg,Zz,Za,Zm,condC,Zi,Zh,Zl,ZI,ZR,ZA])
 have hm:=ZoZ (fun v:Yx=>v.Name) (fun x=>by cases x; simp; omega) mem
 have hn:=QD L x.Name (by have:=(h.Stores.2 x mem).Name; unfold Len; omega) (by omega)
 rw [KJ]
 simp only [Zj,cond_true,Zg,Zz,ZA,KD,hi,hx,hn]
 simp only [Zj,Zd,cond_true,cond_false,Zg,Zz,Za,Zm,condC,Zi,Zh,Zl,ZI,ZR,ZA,Uy,wrap_succ hi (by omega)]
 simp only [Yy,Lt]
 by_cases a:(YA x.Name s).1=0 <;> rcases Bool.eq_false_or_eq_true (btw x.Room 1 1000) with g | g <;> by_cases b:x.Policy < 1 <;> by_cases c:3 < x.Policy <;> simp [a,g,b,c]
theorem Z0l (L:Nat)(d:Ze)(h:ZG d)(hL:SizeOf.sizeOf d≤L)(s:Seen):Zt (KL d L) L (0,s,())=some ((YL (fun v:Wh=>Yy v.Name (Zbs v)) d.Belts s).1,(YL (fun v:Wh=>Yy v.Name (Zbs v)) d.Belts s).2,()):=by
 have hz:=Jq d
 have hs:=Sh.of hL
 have hl:=h.Belts.1
 refine ZgO d.Belts _ hs.bel s (fun self s i x hx hi mem=>?_) (fun self s=>by rw [KL]; simp only [Zj,Zd,cond_true,cond_false,Zg,Zz,Za,Zm,condC,Zi,Zh,Zl,ZI,ZR,ZA])
 have hm:=ZoZ (fun v:Wh=>v.Name) (fun x=>by cases x; simp; omega) mem
 have hn:=QD L x.Name (by have:=(h.Belts.2 x mem).Name; unfold Len; omega) (by omega)
 rw [KL]
 simp only [Zj,cond_true,Zg,Zz,ZA,KD,hi,hx,hn]
 simp only [Zj,Zd,cond_true,cond_false,Zg,Zz,Za,Zm,condC,Zi,Zh,Zl,ZI,ZR,ZA,Uy,wrap_succ hi (by omega)]
 simp only [Yy,Zbs]
 by_cases a:(YA x.Name s).1=0 <;> rcases Bool.eq_false_or_eq_true (btw x.Length 1 1000) with g | g <;> rcases Bool.eq_false_or_eq_true (btw x.Step 1 1000) with g' | g' <;> simp [a,g,g']
theorem Z0o (L:Nat)(h1:100≤L)(d:Ze)(h:ZG d)(hL:SizeOf.sizeOf d≤L)(s:Seen):Zt (KO d L) L (0,s,())=some ((YL (fun v:ZU=>Yy v.Name (X3 v)) d.Routines s).1,(YL (fun v:ZU=>Yy v.Name (X3 v)) d.Routines s).2,()):=by
 have hz:=Jq d
 have hs:=Sh.of hL
 have hl:=h.Routines.1
 refine ZgO d.Routines _ hs.rou s (fun self s i x hx hi mem=>?_) (fun self s=>by rw [KO]; simp only [Zj,Zd,cond_true,cond_false,Zg,Zz,Za,Zm,condC,Zi,Zh,Zl,ZI,ZR,ZA])
 have hm:=ZoZ (fun v:ZU=>v.Name) (fun x=>by cases x; simp; omega) mem
 have ok:=h.Routines.2 x mem
 have hn:=QD L x.Name (by have:=ok.Name; unfold Len; omega) (by omega)
 rw [KO]
 simp only [Zj,cond_true,Zg,Zz,ZA,KD,hi,hx,hn]
 simp only [Zj,Zd,cond_true,cond_false,Zg,Zz,Za,Zm,condC,Zi,Zh,Zl,ZI,ZR,ZA,Zra L h1 x ok (by omega),wrap_succ hi (by omega)]
 simp only [Yy]
 by_cases a:(YA x.Name s).1=0 <;> simp [a]
theorem Z0p (L:Nat)(d:Ze)(h:ZG d)(hL:SizeOf.sizeOf d≤L)(s:Seen):Zt (Xq d L) L (0,s,())=some (Yk (VS d) d.Starts,s,()):=by
 have hz:=Jq d
 have hs:=Sh.of hL
 have hl:=h.Starts.1
 have:=ZgO (f := Xq d L) d.Starts (fun x s=>(VS d x,s)) hs.sta s (fun self s i x hx hi mem=>by
  have hm:=ZoZ (fun v:Xw=>v.Routine) (fun x=>by cases x; simp; omega) mem
  have hx2:SizeOf.sizeOf x.Args < SizeOf.sizeOf x:=by cases x; simp; omega
  have ha:=ZH x.Args
  rw [Xq]
  simp only [Zj,Zd,cond_true,cond_false,Zg,Zz,Za,Zm,condC,Zi,Zh,Zl,ZI,ZR,ZA,hi,hx,Zwt L d h hs.rou x (h.Starts.2 x mem) (by omega),wrap_succ hi (by omega)]) (fun self s=>by rw [Xq]; simp only [Zj,Zd,cond_true,cond_false,Zg,Zz,Za,Zm,condC,Zi,Zh,Zl,ZI,ZR,ZA])
 rw [SG] at this
 exact this
theorem Bv {σ:Type}(P:Int×σ)(r:List (σ→Int×σ)){X:Option (Int×σ×PUnit)}(h:X=some ((Dx r P.2).1,(Dx r P.2).2,()))(f:σ→Int×σ)(s:σ)(hP:f s=P):(bif P.1 != 0 then some (P.1,P.2,()) else X)=some ((Dx (f :: r) s).1,(Dx (f :: r) s).2,()):=by
 subst h; subst hP
 rw [Dx]
 by_cases c:(f s).1=0 <;> simp [c,ZA]
theorem ZyO (L:Nat)(h1:100≤L)(d:Ze)(h:ZG d)(hL:SizeOf.sizeOf d≤L):Iy L (d,())=some (ZhK d):=by
 have hz:=Jq d
 have e0:=fun s=>G8 32 (fun v:VM=>Yy v.Name (LC v)) d.Vars s (ZxT L d h hL s)
 have e1:=fun s=>G8 32 (fun v:Zv=>Yy v.Name (Zo9 d v)) d.Resources s (Z0n L h1 d h hL s)
 have e2:=fun s=>G8 32 (fun v:Yx=>Yy v.Name (Lt v)) d.Stores s (Z0q L d h hL s)
 have e3:=fun s=>G8 32 (fun v:Wh=>Yy v.Name (Zbs v)) d.Belts s (Z0l L d h hL s)
 have e4:=fun s=>G8 32 YA d.Queues s (Zqr L d h.Queues (by omega) s)
 have e5:=fun s:Seen=>G8 32 YA d.Streams s (show Zt (EX d L) L (0,s,())=_ from Zqr L { d with Queues:=d.Streams } h.Streams (show SizeOf.sizeOf d.Streams≤L by omega) s)
 have e6:=fun s:Seen=>G8 32 YA d.Tallies s (show Zt (EY d L) L (0,s,())=_ from Zqr L { d with Queues:=d.Tallies } h.Tallies (show SizeOf.sizeOf d.Tallies≤L by omega) s)
 have e7:=fun s:Seen=>G8 32 YA d.Levels s (show Zt (EZ d L) L (0,s,())=_ from Zqr L { d with Queues:=d.Levels } h.Levels (show SizeOf.sizeOf d.Levels≤L by omega) s)
 have e8:=fun s:Seen=>G8 32 YA d.Counts s (show Zt (Aa d L) L (0,s,())=_ from Zqr L { d with Queues:=d.Counts } h.Counts (show SizeOf.sizeOf d.Counts≤L by omega) s)
 have e9:=fun s=>G8 16 (fun v:ZU=>Yy v.Name (X3 v)) d.Routines s (Z0o L h1 d h hL s)
 have ea:∀ s:Seen,(bif decide ((d.Starts.length:Int) > 32) then some (6,s,()) else Zt (Xq d L) L (0,s,()))=some (NG 32 (VS d) d.Starts,s,()):=fun s=>by
  rw [Z0p L d h hL s]; unfold NG; by_cases c:32 < (d.Starts.length:Int) <;> simp [c]
 rw [Zjm]
 simp only [e0,e1,e2,e3,e4,e5,e6,e7,e8,e9,ea,Zz,ZyK L d h hL]
 have fin:∀ s:Seen,(bif DU d != 0 then some (DU d,s,()) else some (0,s,()))=some ((Dx [fun s:Seen=>(DU d,s)] s).1,(Dx [fun s:Seen=>(DU d,s)] s).2,()):=fun s=>by
  rw [Dx,Dx,ZA]; by_cases c:DU d=0 <;> simp [c]
 have key:=Bv _ _ (Bv _ _ (Bv _ _ (Bv _ _ (Bv _ _ (Bv _ _ (Bv _ _ (Bv _ _ (Bv _ _ (Bv _ _ (Bv (NG 32 (VS d) d.Starts,_) _ (fin _) (fun s=>(NG 32 (VS d) d.Starts,s)) _ rfl) (Xa 16 (fun v:ZU=>Yy v.Name (X3 v)) d.Routines) _ rfl) (Xa 32 YA d.Counts) _ rfl) (Xa 32 YA d.Levels) _ rfl) (Xa 32 YA d.Tallies) _ rfl) (Xa 32 YA d.Streams) _ rfl) (Xa 32 YA d.Queues) _ rfl) (Xa 32 (fun v:Wh=>Yy v.Name (Zbs v)) d.Belts) _ rfl) (Xa 32 (fun v:Yx=>Yy v.Name (Lt v)) d.Stores) _ rfl) (Xa 32 (fun v:Zv=>Yy v.Name (Zo9 d v)) d.Resources) _ rfl) (Xa 32 (fun v:VM=>Yy v.Name (LC v)) d.Vars) ([]:Seen) rfl
 exact (congrArg (fun o:Option (Int×Seen×PUnit)=>bT o fun y=>some y.1) key).trans rfl
end Go.Proofs.YtgjcjbhhhlelnaaGreatDoor
end
section
namespace Go.Proofs.YtgjcjbhhhlelnaaGreatDoor
open Go Go.Proofs.YtgjcjbhhhlelnaaGreatDoor.Abs Go.Proofs.YtgjcjbhhhlelnaaGreatDoor.Tl
set_option maxRecDepth 100000
def M1 (n:List UInt8)(d:Ze):Int:=if decide (V9 n≠0)=true then V9 n else (Yy d.Name (ZhK d) []).1
theorem one1 {α:Type}(a:α):ZL [a] 0=some a∧decide ((0:Int) < (([a].length:Nat):Int))=true∧decide ((1:Int) < (([a].length:Nat):Int))=false∧decide ((([a].length:Nat):Int) > 16)=false∧decide ((([a].length:Nat):Int)=0)=false∧decide ((([a].length:Nat):Int) > 0)=true∧decide ((([a].length:Nat):Int)≤16)=true :=
 ⟨Zg [a] 0,by simp,by simp,by simp,by simp,by simp,by simp⟩
theorem ZwY (α:Type):decide ((0:Int) < ((([]:List α).length:Nat):Int))=false∧decide (((([]:List α).length:Nat):Int) > 32)=false∧decide (((([]:List α).length:Nat):Int)≤32)=true:=⟨rfl,rfl,rfl⟩
theorem Zt2 (L:Nat)(h1:100≤L)(n:List UInt8)(hn:n.length≤140737488351232)(hnL:n.length < L)(d:Ze)(h:ZG d)(hL:SizeOf.sizeOf d≤L):KX L (⟨n,[],[d],[]⟩,())=some (M1 n d):=by
 have hs:=Sh.of hL
 have e1:=QD L n (by unfold Len; omega) hnL
 have e2:=QD L d.Name (by have:=h.Name; unfold Len; omega) hs.nm
 have e3:KY L (⟨n,[],[d],[]⟩,())=some 0:=by
  rw [Zhq,ZeN _ (show 2 < L by omega)]
  simp only [PO,ZwY,cond_false,Zz]
 have e4:Zt (IQ ⟨n,[],[d],[]⟩ L) L (0,[],())=some (0,[],()):=by
  rw [ZeN _ (show 2 < L by omega)]
  simp only [IQ,ZwY,cond_false]
 rw [Zho]
 simp only [ZeN (IR ⟨n,[],[d],[]⟩ L) (show 2 < L by omega),IR,one1,ZwY,w01,e1,e2,e3,e4,KD,Zz,cond_true,cond_false,ZA,ZI,ZyO L h1 d h hL]
 simp only [M1,Yy]
 by_cases a:V9 n=0 <;> by_cases b:(YA d.Name []).1=0 <;> by_cases c:ZhK d=0 <;> simp [a,b,c,Zz]
theorem Uz (L:Nat)(a b c:Int):ZO L (a,b,c,())=some (btw a b c):=Zjt L a b c
theorem JP (L:Nat)(a b:Int):Z9 L (a,b,())=some (YY a b):=by
 simp only [Zj,Zd,cond_true,cond_false,Zg,Zz,Za,Zm,condC,Zi,Zh,Zl,ZI,ZR,ZA,Zlv,YY]; simp only [Yu,Xp,if_true,if_false,Bool.false_eq_true,ne_eq,decide_not,gt_iff_lt,ge_iff_le]
theorem XR (L:Nat)(a:Bool)(b:Int):Zo L (a,b,())=some (Y5 a b):=by
 simp only [Zj,Zd,cond_true,cond_false,Zg,Zz,Za,Zm,condC,Zi,Zh,Zl,ZI,ZR,ZA,Zjs,Y5]; simp only [Yu,Xp,if_true,if_false,Bool.false_eq_true,ne_eq,decide_not,gt_iff_lt,ge_iff_le]
theorem ZqT (L:Nat)(t:Int):Hy L (t,())=some (ZjY t):=Zlu L t
theorem Zu4 (L:Nat)(t n:Int):OD L (t,n,())=some (fitsT t n):=by
 simp only [Zj,Zd,cond_true,cond_false,Zg,Zz,Za,Zm,condC,Zi,Zh,Zl,ZI,ZR,ZA,Zoz,Zwp,Uz,fitsT]; simp only [Yu,Xp,if_true,if_false,Bool.false_eq_true,ne_eq,decide_not,gt_iff_lt,ge_iff_le]
theorem ZmJ (s:List UInt8)(l:List (List UInt8)):decide (GG (fun k=>decide (k=s)) l 0 < 0)=!(l.contains s):=by
 have:=ZcZ (fun x:List UInt8=>x) s l
 rw [List.map_id'] at this
 rw [← this,show decide (GG (fun k=>decide (k=s)) l 0 < 0)=!decide (GG (fun k=>decide (k=s)) l 0 ≥ 0) by rw [← decide_not]; congr 1; exact propext Int.not_le.symm]
theorem ZbJ (L:Nat)(h1:100≤L)(s:List UInt8)(seen:Seen)(hs:Len s)(hsL:s.length < L)(hl:Len seen)(hL:seen.length < L):VH L (s,seen,())=some (ZaH s seen):=by
 simp only [Zj,Zd,cond_true,cond_false,Zg,Zz,Za,Zm,condC,Zi,Zh,Zl,ZI,ZR,ZA,Zlx,JQ L s hs hsL h1,ZiT L seen s hl hL,XR,JP,ZmJ,ZaH]
theorem apS {l:List (List UInt8)}{a:List UInt8}(h:l.length≤8000000000000):apT 16 l [a]=some (l ++ [a]):=by unfold apT; rw [if_pos (by simp only [List.length_cons,List.length_nil]; omega)]
theorem Zq1 {α τ ρ:Type}{f:(τ→Option ρ)→τ→Option ρ}(l:List α)(nm:α→List UInt8)(pk:List (List UInt8)→Int→τ)(o:Option ρ){m:Nat}(hm:l.length < m)
  (h1:∀ self s (i:Nat) x,l[i]? = some x→i < l.length→s.length≤i→f self (pk s i)=self (pk (s ++ [nm x]) ((i:Int) + 1)))
  (h2:∀ self,f self (pk (l.map nm) (l.length:Nat))=o):Zt f m (pk [] 0)=o:=by
 have key:∀ (m i:Nat),i≤l.length→l.length - i < m→Zt f m (pk ((l.take i).map nm) i)=o:=by
  intro m
  induction m with
  | zero=>intro i _ h; exact absurd h (Nat.not_lt_zero _)
  | succ m ih =>
   intro i hi hm
   show f (Zt f m) _=_
   rcases Nat.lt_or_ge i l.length with hlt | hge
   ·have hx:=List.getElem?_eq_getElem hlt
    rw [h1 _ _ i _ hx hlt (by rw [List.length_map,List.length_take]; omega),← ih (i + 1) hlt (by omega)]
    rw [List.take_succ,hx,List.map_append]; rfl
   ·have:i=l.length:=by omega
    subst this
    rw [List.take_length,h2]
 exact key m 0 (Nat.zero_le _) (by omega)
theorem ZkR (L:Nat)(d:Ze)(h:ZG d)(hs:Sh L d):JZ L (d,())=some ((Vs d).map (·.2)):=by
 have a1:=h.Vars.1; have a2:=h.Resources.1; have a3:=h.Stores.1; have a4:=h.Belts.1; have a5:=h.Routines.1
 rw [Zlt]
 refine Zq1 d.Vars (·.Name) (fun s i=>(i,s,[],[],[],[],[],[],[],[],[],())) _ hs.vars (fun self s i x hx hi hsl=>by
  rw [Bf]; simp only [Zj,Zd,cond_true,cond_false,Zg,Zz,Za,Zm,condC,Zi,Zh,Zl,ZI,ZR,ZA,hi,hx,wrap_succ hi (by omega),apS (show s.length≤8000000000000 by omega)]) (fun self=>?_)
 rw [Bf]; simp only [Zj,Zd,cond_true,cond_false,Zg,Zz,Za,Zm,condC,Zi,Zh,Zl,ZI,ZR,ZA]
 refine Zq1 d.Resources (·.Name) (fun s i=>(i,_,s,[],[],[],[],[],[],[],[],())) _ hs.res (fun self s i x hx hi hsl=>by
  rw [Be]; simp only [Zj,Zd,cond_true,cond_false,Zg,Zz,Za,Zm,condC,Zi,Zh,Zl,ZI,ZR,ZA,hi,hx,wrap_succ hi (by omega),apS (show s.length≤8000000000000 by omega)]) (fun self=>?_)
 rw [Be]; simp only [Zj,Zd,cond_true,cond_false,Zg,Zz,Za,Zm,condC,Zi,Zh,Zl,ZI,ZR,ZA]
 refine Zq1 d.Stores (·.Name) (fun s i=>(i,_,_,s,[],[],[],[],[],[],[],())) _ hs.sto (fun self s i x hx hi hsl=>by
  rw [Bd]; simp only [Zj,Zd,cond_true,cond_false,Zg,Zz,Za,Zm,condC,Zi,Zh,Zl,ZI,ZR,ZA,hi,hx,wrap_succ hi (by omega),apS (show s.length≤8000000000000 by omega)]) (fun self=>?_)
 rw [Bd]; simp only [Zj,Zd,cond_true,cond_false,Zg,Zz,Za,Zm,condC,Zi,Zh,Zl,ZI,ZR,ZA]
 refine Zq1 d.Belts (·.Name) (fun s i=>(i,_,_,_,s,[],[],[],[],[],[],())) _ hs.bel (fun self s i x hx hi hsl=>by
  rw [Bc]; simp only [Zj,Zd,cond_true,cond_false,Zg,Zz,Za,Zm,condC,Zi,Zh,Zl,ZI,ZR,ZA,hi,hx,wrap_succ hi (by omega),apS (show s.length≤8000000000000 by omega)]) (fun self=>?_)
 rw [Bc]; simp only [Zj,Zd,cond_true,cond_false,Zg,Zz,Za,Zm,condC,Zi,Zh,Zl,ZI,ZR,ZA]
 refine Zq1 d.Routines (·.Name) (fun s i=>(i,_,_,_,_,_,_,_,_,_,s,())) _ hs.rou (fun self s i x hx hi hsl=>by
  rw [Ba]; simp only [Zj,Zd,cond_true,cond_false,Zg,Zz,Za,Zm,condC,Zi,Zh,Zl,ZI,ZR,ZA,hi,hx,wrap_succ hi (by omega),apS (show s.length≤8000000000000 by omega)]) (fun self=>?_)
 rw [Ba]; simp only [Zj,Zd,cond_true,cond_false,Zg,Zz,Za,Zm,condC,Zi,Zh,Zl,ZI,ZR,ZA]
 rfl
end Go.Proofs.YtgjcjbhhhlelnaaGreatDoor
end
section
namespace Go.Proofs.YtgjcjbhhhlelnaaGreatDoor
open Go Go.Proofs.YtgjcjbhhhlelnaaGreatDoor.Abs Go.Proofs.YtgjcjbhhhlelnaaGreatDoor.Tl
set_option maxRecDepth 100000
theorem ZiE (L:Nat)(d:Ze)(h:ZG d)(hs:Sh L d):∀ p ∈ Vs d,Len p.2∧p.2.length < L:=by
 have a1:=h.Vars.1; have a2:=h.Resources.1; have a3:=h.Stores.1; have a4:=h.Belts.1; have a5:=h.Routines.1
 have b1:=h.Queues.1; have b2:=h.Streams.1; have b3:=h.Tallies.1; have b4:=h.Levels.1; have b5:=h.Counts.1
 obtain ⟨c1,c2,c3,c4,c5,c6,c7,c8,c9,c10,c11,c12,c13⟩:=hs
 intro p hp
 simp only [Vs,List.mem_cons,List.not_mem_nil,or_false] at hp
 unfold Len
 rcases hp with rfl | rfl | rfl | rfl | rfl | rfl | rfl | rfl | rfl | rfl <;> simp only [List.length_map] <;> omega
theorem Zvs (s:List UInt8)(l:List (List UInt8)):decide (GG (fun k=>decide (k=s)) l 0 ≥ 0)=l.contains s:=by
 have:=ZcZ (fun x:List UInt8=>x) s l
 rwa [List.map_id'] at this
theorem ZyB (L:Nat)(d:Ze)(h:ZG d)(hs:Sh L d)(hL:100≤L)(s:List UInt8):QM L (d,s,())=some (Ou s (Vs d)):=by
 rw [Zo0,ZkR L d h hs,Zz]
 have lp:=ZeO (f := Tq s L ((Vs d).map (·.2))) ((Vs d).map (·.2)) ((Vs d).map (·.1)) (by simp) (fun l l'=>some (Ou s (l'.zip l))) (m := L) (show 10 < L by omega) (fun self i x y r r' hx hy hi mem e=>by
  have hi2:i < 10:=hi
  obtain ⟨p,hp,rfl⟩:=List.mem_map.1 mem
  have hk:=ZiE L d h hs p hp
  have hy':[[118,97,114],[114,101,115,111,117,114,99,101],[115,116,111,114,101],[98,101,108,116],[113,117,101,117,101],[115,116,114,101,97,109],[116,97,108,108,121],[108,101,118,101,108],[99,111,117,110,116],[114,111,117,116,105,110,101]][i]? = some y:=hy
  rw [Tq]
  simp only [Zj,Zd,cond_true,cond_false,Zg,Zz,Za,Zm,condC,Zi,Zh,Zl,ZI,ZR,ZA,hi,hx,ZiT L p.2 s hk.1 hk.2,Zvs]
  rw [wrap_in (by omega) (by omega),e]
  simp only [hy',Zz,Zl,List.zip_cons_cons,Ou]; simp only [Yu,Xp,if_true,if_false,Bool.false_eq_true,ne_eq,decide_not,gt_iff_lt,ge_iff_le]) (fun self=>by rw [Tq]; simp only [Zj,Zd,cond_true,cond_false,Zg,Zz,Za,Zm,condC,Zi,Zh,Zl,ZI,ZR,ZA,List.zip_nil_right,Ou])
 rw [lp]
 congr 2
theorem C9 (d:Ze)(h:(Dx ((Xv d).map stepD) []).1=0)(nm:List UInt8)(p:List UInt8×List (List UInt8))(hp:p ∈ Vs d):decide (Ou nm (Vs d)=p.1)=p.2.contains nm:=by
 have key:Ou nm (Vs d)=p.1↔nm ∈ p.2:=by
  refine ZfB nm (Vs d) ?_ ?_ ?_ p hp
  ·have:=(ZuA _ _ h).1
   have h2:((Xv d).map Zbz).Pairwise (fun a b=>∀ x ∈ a,x ∉ b):=List.pairwise_map.2 this
   rw [← ZmM] at h2
   exact List.pairwise_map.1 h2
  ·simp only [Vs,List.map_cons,List.map_nil]; decide
  ·simp only [Vs,List.map_cons,List.map_nil]; decide
 rw [← List.contains_iff_mem] at key
 by_cases c:Ou nm (Vs d)=p.1
 ·rw [key.1 c]; simp [c]
 ·have:p.2.contains nm=false:=by
   rw [← Bool.not_eq_true]; exact fun e=>c (key.2 e)
  rw [this]; simp [c]
theorem ZtW (t:IY)(b:Bool):YY (YY (Y5 true 1) (Y5 b 5)) (Y5 (btw t.Coef (-1000) 1000 && !decide (t.Coef=0)) 2)=Zfg t b:=by
 unfold Zfg
 rcases Bool.eq_false_or_eq_true (btw t.Coef (-1000) 1000) with h3 | h3 <;> by_cases c:t.Coef=0 <;> cases b <;> simp [YY,Y5,c,h3]
theorem Zws (L:Nat)(d:Ze)(h:ZG d)(hs:Sh L d)(hL:100≤L)(hd:(Dx ((Xv d).map stepD) []).1=0)(t:IY):DF L (d,t,())=some (Zff d t):=by
 have hR:=C9 d hd t.Name ([114,111,117,116,105,110,101],d.Routines.map (·.Name)) (by simp [Vs])
 have hS:=C9 d hd t.Name ([115,116,111,114,101],d.Stores.map (·.Name)) (by simp [Vs])
 have hQ:=C9 d hd t.Name ([99,111,117,110,116],d.Counts) (by simp [Vs])
 simp only at hR hS hQ
 have z:∀ x,YY (YY (Y5 false 1) x)=fun _=>1:=fun x=>by funext y; simp [YY,Y5]
 simp only [Zj,Zd,cond_true,cond_false,Zg,Zz,Za,Zm,condC,Zi,Zh,Zl,ZI,ZR,ZA,Zo2,XR,JP,ZyB L d h hs hL,Uz,hR,hS,hQ,reduceCtorEq,decide_false,decide_true,Bool.not_false,Bool.not_true,ZtW,z,Zff]
 simp only [Yu,Xp,if_true,if_false,Bool.false_eq_true,ne_eq,decide_not,gt_iff_lt,ge_iff_le]
theorem ZmB (a b c:Int):YY (YY a b) c=YY a (YY b c):=by
 unfold YY
 by_cases h:a=0 <;> by_cases h2:b=0 <;> simp [h,h2]
theorem Zsx {α:Type}(f:α→Int)(x:α)(r:List α):YY (f x) (Yk f r)=Yk f (x :: r):=by
 unfold YY; rw [Yk]
theorem Zsy (a:Int):YY a 0=a:=by unfold YY; by_cases h:a=0 <;> simp [h]
theorem Z05 (L:Nat)(d:Ze)(h:ZG d)(hs:Sh L d)(hL:100≤L)(hd:(Dx ((Xv d).map stepD) []).1=0)(l:Ze8)(ok:Zpb l)(hl:l.Terms.length < L)(hn:l.Name.length < L)(seen:Seen)(h1:Len seen)(h2:seen.length < L):F7 L (d,l,seen,())=some (Yy l.Name (ZrM d l) seen).1:=by
 have ht:=ok.t
 have lp:=fun n=>CE (f := Du d l L) l.Terms (fun r n=>some (YY (YY n (Yk (Zff d) r)) (Y5 (inB l.Total) 2))) hl n (fun self n i x r hx hi mem e=>by
  rw [Du]; simp only [Zj,Zd,cond_true,cond_false,Zg,Zz,Za,Zm,condC,Zi,Zh,Zl,ZI,ZR,ZA,hi,hx,Zws L d h hs hL hd x,JP,wrap_succ hi (by omega),e,ZmB,← Zsx]) (fun self n=>by
  rw [Du]; simp only [Zj,Zd,cond_true,cond_false,Zg,Zz,Za,Zm,condC,Zi,Zh,Zl,ZI,ZR,ZA,Zwp,XR,JP,Yk,Zsy])
 simp only [Zj,Zd,cond_true,cond_false,Zg,Zz,Za,Zm,condC,Zi,Zh,Zl,ZI,ZR,ZA,Zrn,ZbJ L hL l.Name seen (by have:=ok.Name; unfold Len; omega) hn h1 h2,XR,JP,lp]
 rw [Ze2]
 simp only [ZmB]
 congr 2
 unfold ZrM NG
 by_cases a:l.Terms=[] <;> by_cases b:8 < (l.Terms.length:Int) <;> by_cases c:Yk (Zff d) l.Terms=0 <;> rcases Bool.eq_false_or_eq_true (inB l.Total) with g | g <;> simp [a,b,c,g,YY,Y5]
theorem ZmI {α:Type}(nm:α→List UInt8)(s:List UInt8):∀ (l:List α) (i:Int),GG (fun k=>decide (k=s)) (l.map nm) i=GG (fun x=>decide (nm x=s)) l i
 | [],_=>rfl
 | x :: l,i=>by simp only [List.map_cons,GG,ZmI nm s l]
theorem Zok (L:Nat)(d:Ze)(h:ZG d)(hs:Sh L d)(s:List UInt8):Gg L (d,s,())=some (GG (fun r:ZU=>decide (r.Name=s)) d.Routines 0):=by
 have hk:=ZiE L d h hs ([114,111,117,116,105,110,101],d.Routines.map (·.Name)) (by simp [Vs])
 rw [Zhv,ZkR L d h hs,Zz,show ZL ((Vs d).map (·.2)) 9=some (d.Routines.map (·.Name)) from Zg _ 9,Zz,ZiT L _ s hk.1 hk.2,Zz,ZmI]
theorem Zo8 (L:Nat)(s:Xw)(r:ZU)(hp:r.Params.length≤4611686018427387)(he:r.Params.length=s.Args.length)(hL:r.Params.length < L):Zt (Ik s L r) L (0,())=some (LJ (ZaY s) r.Params s.Args):=by
 refine ZeO r.Params s.Args he (fun p a=>some (LJ (ZaY s) p a)) hL (fun self i x y q q' hx hy hi _ e=>?_) (fun self=>?_)
 ·rw [Ik]; simp only [Zj,Zd,cond_true,cond_false,Zg,Zz,Za,Zm,condC,Zi,Zh,Zl,ZI,ZR,ZA,hi,hx,hy,Zu4,wrap_succ hi (by omega),e,LJ]; simp only [Yu,Xp,if_true,if_false,Bool.false_eq_true,ne_eq,decide_not,gt_iff_lt,ge_iff_le]
 ·rw [Ik,← ZrB]; simp only [Zj,Zd,cond_true,cond_false,Zg,Zz,Za,Zm,condC,Zi,Zh,Zl,ZI,ZR,ZA,Uz,XR,LJ,Zmg]; simp only [Yu,Xp,if_true,if_false,Bool.false_eq_true,ne_eq,decide_not,gt_iff_lt,ge_iff_le]
theorem Zt4 (L:Nat)(d:Ze)(h:ZG d)(hs:Sh L d)(s:Xw)(hs':Nl s)(hsL:s.Args.length < L):MJ L (d,s,())=some (VS d s):=by
 rw [Zly,Zok L d h hs s.Routine,Zz,VS]
 rcases ZbG (fun r:ZU=>decide (r.Name=s.Routine)) d.Routines 0 with ⟨a,b⟩ | ⟨k,r,a,b,c⟩
 ·rw [a,b]; rfl
 ·have ok:=h.Routines.2 r (List.mem_of_getElem? c)
  rw [a,b,Int.zero_add,show decide ((k:Int) < 0)=false by simp only [decide_eq_false_iff_not]; omega,cond_false,Zg,c,Zz]
  simp only
  rcases ZwV s.Args r.Params with ⟨e1,e2⟩ | ⟨e1,e2⟩
  ·rw [Zo8 L s r ok.p.1 e1.symm (by omega),ZA,e2]; simp only [Yu,Xp,if_true,if_false,Bool.false_eq_true,ne_eq,decide_not,gt_iff_lt,ge_iff_le,e2,Bool.not_true,cond_false]
  ·rw [ZA,e2]; simp only [Yu,Xp,if_true,if_false,Bool.false_eq_true,ne_eq,decide_not,gt_iff_lt,ge_iff_le,e2,Bool.not_false,cond_true]
theorem ZvC {α τ:Type}{f:(τ→Option Int)→τ→Option Int}(pk:Seen→Int→τ)(l:List α)(step:α→Seen→Int×Seen)(c:Nat)(e:Seen→Option Int){m:Nat}(hm:l.length < m)
  (hst:∀ x s,(step x s).2.length≤s.length + 1)
  (h1:∀ self s (i:Nat) x,l[i]? = some x→i < l.length→x ∈ l→s.length≤c + i→f self (pk s i)=bif !decide ((step x s).1=0) then some (step x s).1 else self (pk (step x s).2 ((i:Int) + 1)))
  (h2:∀ self s,s.length≤c + l.length→f self (pk s (l.length:Nat))=e s) (s:Seen) (hs:s.length≤c):Zt f m (pk s 0)=if decide ((YL step l s).1≠0)=true then some (YL step l s).1 else e (YL step l s).2:=by
 have key:∀ (m i:Nat) (s:Seen),i≤l.length→l.length - i < m→s.length≤c + i→Zt f m (pk s i)=if decide ((YL step (l.drop i) s).1≠0)=true then some (YL step (l.drop i) s).1 else e (YL step (l.drop i) s).2:=by
  intro m
  induction m with
  | zero=>intro i s _ h; exact absurd h (Nat.not_lt_zero _)
  | succ m ih =>
   intro i s hi hm hsl
   show f (Zt f m) _=_
   rcases Nat.lt_or_ge i l.length with hlt | hge
   ·have hx:=List.getElem?_eq_getElem hlt
    have:=ih (i + 1) (step l[i] s).2 hlt (by omega) (by have:=hst l[i] s; omega)
    rw [h1 _ s i _ hx hlt (List.getElem_mem hlt) hsl,List.drop_eq_getElem_cons hlt,YL,show ((i:Int) + 1)=((i + 1:Nat):Int) from rfl,this]
    by_cases z:(step l[i] s).1=0 <;> simp [z]
   ·have:i=l.length:=by omega
    subst this
    rw [List.drop_length,h2 _ s hsl]; rfl
 exact key m 0 s (Nat.zero_le _) (by omega) (by omega)
theorem Ze3 (s:List UInt8)(r:Int)(seen:Seen):(Yy s r seen).2.length≤seen.length + 1:=by
 have h:(YA s seen).2.length≤seen.length + 1:=by
  unfold YA
  split
  ·exact Nat.le_succ _
  ·split
   ·exact Nat.le_succ _
   ·simp
 unfold Yy
 split <;> exact h
end Go.Proofs.YtgjcjbhhhlelnaaGreatDoor
end
section
namespace Go.Proofs.YtgjcjbhhhlelnaaGreatDoor
open Go Go.Proofs.YtgjcjbhhhlelnaaGreatDoor.Abs Go.Proofs.YtgjcjbhhhlelnaaGreatDoor.Tl
set_option maxRecDepth 100000
theorem Ze4 {s:List UInt8}{r:Int}{seen:Seen}(h:(Yy s r seen).1=0):(Yy s r seen).2=seen ++ [s]:=(ZrJ h).1
theorem Zom (L:Nat)(h1:100≤L)(r:ZU)(h:IX r)(hL:SizeOf.sizeOf r≤L):Gh L (r,())=some (X3 r):=by
 have hz:=ZuE r
 have hp:=h.p
 have hw:IntKind.i64.wrap ((r.Params.length:Int) + (r.Locals.length:Int))=(r.Params.length:Int) + (r.Locals.length:Int):=wrap_in (by omega) (by omega)
 rw [Zhw,hw,X3]
 by_cases hc:6 < (r.Params.length:Int)∨16 < (r.Params.length:Int) + (r.Locals.length:Int)
 ·rw [if_pos (by simpa using hc),show (decide ((r.Params.length:Int) > 6) || decide ((r.Params.length:Int) + (r.Locals.length:Int) > 16))=true by simpa using hc]; rfl
 ·have hf:(decide ((r.Params.length:Int) > 6) || decide ((r.Params.length:Int) + (r.Locals.length:Int) > 16))=false:=by
   simp only [Bool.or_eq_false_iff,decide_eq_false_iff_not]; omega
  have hf':¬ ((decide (6 < (r.Params.length:Int)) || decide (16 < (r.Params.length:Int) + (r.Locals.length:Int)))=true):=by simpa using hc
  have hlen:(r.Params ++ r.Locals).length≤16:=by rw [List.length_append]; omega
  have p1:apT 24 [] r.Params=some r.Params:=by unfold apT; rw [if_pos (by simp only [List.length_nil]; omega)]; rfl
  have p2:apT 24 r.Params r.Locals=some (r.Params ++ r.Locals):=by unfold apT; rw [if_pos (by omega)]
  rw [if_neg hf',hf,cond_false,p1,Zz,p2,Zz]
  rw [ZvC (f := Ui r L (r.Params ++ r.Locals)) (fun s i=>(s,i,())) (r.Params ++ r.Locals) (fun f:WJ=>Yy f.Name (ZcR f)) 0 (fun _=>some (ZaF r.Body)) (by omega) (fun x s=>Ze3 _ _ _) (fun self s i x hx hi mem hsl=>by
   have ok:ZbV x∧x.Name.length < L:=by
    rcases List.mem_append.1 mem with m | m
    ·exact ⟨h.Params.2 x m,by have:=Zz5 m; omega⟩
    ·exact ⟨h.Locals.2 x m,by have:=Zz5 m; omega⟩
   have hn:=ZbJ L h1 x.Name s (by have:=ok.1.Name; unfold Len; omega) ok.2 (by unfold Len; omega) (by omega)
   rw [Ui]
   simp only [Zj,Zd,cond_true,cond_false,Zg,Zz,Za,Zm,condC,Zi,Zh,Zl,ZI,ZR,ZA,hi,hx,hn,ZqT,XR,JP,Zx5,apS (show s.length≤8000000000000 by omega),wrap_succ hi (by omega)]
   rw [← Ze2]
   by_cases c:(Yy x.Name (ZcR x) s).1=0
   ·rw [Ze4 c]
   ·simp [c]) (fun self s hsl=>by
   rw [Ui]; simp only [Zj,Zd,cond_true,cond_false,Zg,Zz,Za,Zm,condC,Zi,Zh,Zl,ZI,ZR,ZA,Zrb L h1 r.Body h.p.2.2 (by omega)]) [] (Nat.le_refl _)]
  rw [Xp]; rfl
theorem ZlH (L:Nat)(d:Zv)(h:Wu d)(hL:d.Shift.length < L)(hc:IntKind.i64.wrap (d.Cycle - 1)=d.Cycle - 1):Zt (XD d L) L (0,())=some (ZrS d.Cycle none d.Shift):=by
 have hl:=h.s
 refine Zdg (f := XD d L) d.Shift.length (fun i=>(i,())) (fun i=>some (ZrS d.Cycle (Zhk d.Shift i) (d.Shift.drop i))) (fun self i hi e=>?_) (fun self=>?_) L 0 (Nat.zero_le _) (by omega)
 ·have hx:=List.getElem?_eq_getElem hi
  rw [List.drop_eq_getElem_cons hi,ZrS]
  rw [show Zhk d.Shift (i + 1)=some (d.Shift[i].At_) by rw [Zhk,hx]; rfl] at e
  rw [XD]
  simp only [Zj,Zd,cond_true,cond_false,Zg,Zz,Za,Zm,condC,Zi,Zh,Zl,ZI,ZR,ZA,hi,hx,Uz,wrap_succ hi (by omega),e,hc,Zrj _ _ _ hi hl]; simp only [Yu,Xp,if_true,if_false,Bool.false_eq_true,ne_eq,decide_not,gt_iff_lt,ge_iff_le]
 ·rw [XD]; simp only [Zj,Zd,cond_true,cond_false,Zg,Zz,Za,Zm,condC,Zi,Zh,Zl,ZI,ZR,ZA,List.drop_length,ZrS]
theorem ZkT (L:Nat)(d:Zv)(h:Wu d)(hL:d.Shift.length < L):Ul L (d,())=some (ZrR d):=by
 simp only [Zj,Zd,cond_true,cond_false,Zg,Zz,Za,Zm,condC,Zi,Zh,Zl,ZI,ZR,ZA,ZeU,Uz,XR,ZrR]
 by_cases hc:btw d.Cycle 1 1000000000=true
 ·have:=ZlH L d h hL (by simp only [btw,Bool.and_eq_true,decide_eq_true_eq] at hc; exact wrap_in (by omega) (by omega))
  rw [this]; simp only [Yu,Xp,if_true,if_false,Bool.false_eq_true,ne_eq,decide_not,gt_iff_lt,ge_iff_le,Y5]
  by_cases a:d.Cycle=0 <;> simp [a]
 ·rw [Bool.not_eq_true] at hc
  simp only [Yu,Xp,if_true,if_false,Bool.false_eq_true,ne_eq,decide_not,gt_iff_lt,ge_iff_le,hc,Bool.not_false,Y5]
  by_cases a:d.Cycle=0 <;> simp [a]
theorem Zol (L:Nat)(h1:100≤L)(d:Ze)(h:ZG d)(hs:Sh L d)(x:Zv)(ok:Wu x)(hx:SizeOf.sizeOf x≤L):Um L (d,x,())=some (Zo9 d x):=by
 have hx2:SizeOf.sizeOf x.Fault < SizeOf.sizeOf x∧SizeOf.sizeOf x.Shift < SizeOf.sizeOf x∧SizeOf.sizeOf x.Fault.Up < SizeOf.sizeOf x.Fault∧SizeOf.sizeOf x.Fault.Down < SizeOf.sizeOf x.Fault:=by
  obtain ⟨a,b,c,d,⟨e,f,g⟩⟩:=x; simp; omega
 have hsh:=ZH x.Shift
 have hst:=h.st
 rw [← Zw7]
 simp only [Zj,Zd,cond_true,cond_false,Zg,Zz,Za,Zm,condC,Zi,Zh,Zl,ZI,ZR,ZA,ZeV,Uz,XR,JP,ZkT L x ok (by omega),ZbI L x.Fault.Up _ ok.Fault.Up (by omega),ZbI L x.Fault.Down _ ok.Fault.Down (by omega),Gm,ZiT L d.Streams x.Fault.Stream (by unfold Len; omega) hs.str,Dq L x.Fault.Up ok.Fault.Up (by omega),Dq L x.Fault.Down ok.Fault.Down (by omega),ZmJ,Z0D]; simp only [Yu,Xp,if_true,if_false,Bool.false_eq_true,ne_eq,decide_not,gt_iff_lt,ge_iff_le]
theorem ZyD (L:Nat)(d:Ze)(j:Nat)(x:VM)(hx:d.Vars[j]? = some x):YN L (d,0,(j:Int),())=some (LC x):=by
 rw [Xr]; simp only [Zj,Zd,cond_true,cond_false,Zg,Zz,Za,Zm,condC,Zi,Zh,Zl,ZI,ZR,ZA,hx,Int.reduceEq,decide_true,decide_false,ZqT,XR,Zu4,JP,valueR]
theorem ZyE (L:Nat)(h1:100≤L)(d:Ze)(h:ZG d)(hL:SizeOf.sizeOf d≤L)(j:Nat)(x:Zv)(hx:d.Resources[j]? = some x):YN L (d,1,(j:Int),())=some (Zo9 d x):=by
 have hz:=Jq d
 have mem:=List.mem_of_getElem? hx
 have hm:=List.sizeOf_lt_of_mem mem
 rw [Xr]; simp only [Zj,Zd,cond_true,cond_false,Zg,Zz,Za,Zm,condC,Zi,Zh,Zl,ZI,ZR,ZA,hx,Int.reduceEq,decide_true,decide_false,Zol L h1 d h (Sh.of hL) x (h.Resources.2 x mem) (by omega)]
theorem ZyF (L:Nat)(d:Ze)(j:Nat)(x:Yx)(hx:d.Stores[j]? = some x):YN L (d,2,(j:Int),())=some (Lt x):=by
 rw [Xr]; simp only [Zj,Zd,cond_true,cond_false,Zg,Zz,Za,Zm,condC,Zi,Zh,Zl,ZI,ZR,ZA,hx,Int.reduceEq,decide_true,decide_false,Uz,XR,JP,ge_iff_le,Zzo]
theorem ZyG (L:Nat)(d:Ze)(j:Nat)(x:Wh)(hx:d.Belts[j]? = some x):YN L (d,3,(j:Int),())=some (Zbs x):=by
 rw [Xr]; simp only [Zj,Zd,cond_true,cond_false,Zg,Zz,Za,Zm,condC,Zi,Zh,Zl,ZI,ZR,ZA,hx,Int.reduceEq,decide_true,decide_false,Uz,XR,ZzL]
theorem ZyH (L:Nat)(h1:100≤L)(d:Ze)(h:ZG d)(hL:SizeOf.sizeOf d≤L)(j:Nat)(x:ZU)(hx:d.Routines[j]? = some x):YN L (d,9,(j:Int),())=some (X3 x):=by
 have hz:=Jq d
 have mem:=List.mem_of_getElem? hx
 have hm:=List.sizeOf_lt_of_mem mem
 have e:=Zom L h1 x (h.Routines.2 x mem) (by omega)
 generalize X3 x=z at e ⊢
 rw [Xr,show ((9:Int) == 0)=false from rfl,show ((9:Int) == 1)=false from rfl,show ((9:Int) == 2)=false from rfl,show ((9:Int) == 3)=false from rfl,show ((9:Int) == 9)=true from rfl,cond_false,cond_false,cond_false,cond_false,cond_true,Zg,hx,Zz,e,Zz]
theorem ZiV (L:Nat)(d:Ze)(k j:Int)(h:k=4∨k=5∨k=6∨k=7∨k=8):YN L (d,k,j,())=some 0:=by
 rw [Xr]; rcases h with rfl | rfl | rfl | rfl | rfl <;> simp only [Zj,Zd,cond_true,cond_false,Zg,Zz,Za,Zm,condC,Zi,Zh,Zl,ZI,ZR,ZA,Int.reduceEq,decide_true,decide_false]
end Go.Proofs.YtgjcjbhhhlelnaaGreatDoor
end
section
namespace Go.Proofs.YtgjcjbhhhlelnaaGreatDoor
open Go Go.Proofs.YtgjcjbhhhlelnaaGreatDoor.Abs Go.Proofs.YtgjcjbhhhlelnaaGreatDoor.Tl
set_option maxRecDepth 100000
theorem Zoi (L:Nat)(h1:100≤L)(d:Ze)(h:ZG d)(hL:SizeOf.sizeOf d≤L)(k:Nat)(p:Int×List (List UInt8×Int))(hp:(Xv d)[k]? = some p)(j:Nat)(q:List UInt8×Int)(hq:p.2[j]? = some q):YN L (d,(k:Int),(j:Int),())=some q.2:=by
 rcases k with _ | _ | _ | _ | _ | _ | _ | _ | _ | _ | k
 ·obtain rfl:=Option.some.inj hp; obtain ⟨x,hx,rfl⟩:=IP hq; exact ZyD L d j x hx
 ·obtain rfl:=Option.some.inj hp; obtain ⟨x,hx,rfl⟩:=IP hq; exact ZyE L h1 d h hL j x hx
 ·obtain rfl:=Option.some.inj hp; obtain ⟨x,hx,rfl⟩:=IP hq; exact ZyF L d j x hx
 ·obtain rfl:=Option.some.inj hp; obtain ⟨x,hx,rfl⟩:=IP hq; exact ZyG L d j x hx
 ·obtain rfl:=Option.some.inj hp; obtain ⟨x,hx,rfl⟩:=IP hq; exact ZiV L d 4 j (by simp)
 ·obtain rfl:=Option.some.inj hp; obtain ⟨x,hx,rfl⟩:=IP hq; exact ZiV L d 5 j (by simp)
 ·obtain rfl:=Option.some.inj hp; obtain ⟨x,hx,rfl⟩:=IP hq; exact ZiV L d 6 j (by simp)
 ·obtain rfl:=Option.some.inj hp; obtain ⟨x,hx,rfl⟩:=IP hq; exact ZiV L d 7 j (by simp)
 ·obtain rfl:=Option.some.inj hp; obtain ⟨x,hx,rfl⟩:=IP hq; exact ZiV L d 8 j (by simp)
 ·obtain rfl:=Option.some.inj hp; obtain ⟨x,hx,rfl⟩:=IP hq; exact ZyH L h1 d h hL j x hx
 ·exact absurd hp (by simp [Xv])
theorem ZnR (L:Nat)(d:Ze)(h:ZG d)(hL:SizeOf.sizeOf d≤L):∀ p ∈ Xv d,∀ q ∈ p.2,Len q.1∧q.1.length < L:=by
 have hz:=Jq d
 intro p hp q hq
 simp only [Xv,List.mem_cons,List.not_mem_nil,or_false] at hp
 unfold Len
 rcases hp with rfl | rfl | rfl | rfl | rfl | rfl | rfl | rfl | rfl | rfl <;> obtain ⟨x,mem,rfl⟩:=List.mem_map.1 hq
 ·have:=ZoZ (fun v:VM=>v.Name) (fun x=>by cases x; simp; omega) mem; have:=(h.Vars.2 x mem).Name; simp only; omega
 ·have:=ZoZ (fun v:Zv=>v.Name) (fun x=>by cases x; simp; omega) mem; have:=(h.Resources.2 x mem).Name; simp only; omega
 ·have:=ZoZ (fun v:Yx=>v.Name) (fun x=>by cases x; simp; omega) mem; have:=(h.Stores.2 x mem).Name; simp only; omega
 ·have:=ZoZ (fun v:Wh=>v.Name) (fun x=>by cases x; simp; omega) mem; have:=(h.Belts.2 x mem).Name; simp only; omega
 ·have:=List.sizeOf_lt_of_mem mem; have:=ZH x; have:=h.Queues.2 x mem; simp only; omega
 ·have:=List.sizeOf_lt_of_mem mem; have:=ZH x; have:=h.Streams.2 x mem; simp only; omega
 ·have:=List.sizeOf_lt_of_mem mem; have:=ZH x; have:=h.Tallies.2 x mem; simp only; omega
 ·have:=List.sizeOf_lt_of_mem mem; have:=ZH x; have:=h.Levels.2 x mem; simp only; omega
 ·have:=List.sizeOf_lt_of_mem mem; have:=ZH x; have:=h.Counts.2 x mem; simp only; omega
 ·have:=ZoZ (fun v:ZU=>v.Name) (fun x=>by cases x; simp; omega) mem; have:=(h.Routines.2 x mem).Name; simp only; omega
theorem inner (L:Nat)(h1:1000≤L)(d:Ze)(h:ZG d)(hL:SizeOf.sizeOf d≤L)(k:Nat)(p:Int×List (List UInt8×Int))(hp:(Xv d)[k]? = some p)(hl:p.2.length≤32)(hk:k < 10)(self:Int×List (List UInt8)×Int×PUnit→Option Int)(s0 s:Seen)(hs:s.length≤32 * k) :
  Zt (GL d L ((Xv d).map Zbz) self (0,s0,(k:Int),())) L (0,s,0,())=if decide ((YL Ha p.2 s).1≠0)=true then some (YL Ha p.2 s).1 else self (0,(YL Ha p.2 s).2,(k:Int) + 1,()):=by
 have hg:ZL ((Xv d).map Zbz) (k:Int)=some (Zbz p):=by rw [Zg,List.getElem?_map,hp]; rfl
 have hlen:(Zbz p).length=p.2.length:=by simp [Zbz]
 refine ZvC (f := GL d L ((Xv d).map Zbz) self (0,s0,(k:Int),())) (fun s i=>(0,s,i,())) p.2 Ha (32 * k) (fun s=>self (0,s,(k:Int) + 1,())) (by omega) (fun x s=>Ze3 _ _ _) (fun self1 s i x hx hi mem hsl=>?_) (fun self1 s hsl=>?_) s hs
 ·have hq:(Zbz p)[i]? = some x.1:=by unfold Zbz; rw [List.getElem?_map,hx]; rfl
  have hi':i < (Zbz p).length:=by omega
  have hnl:=ZnR L d h hL p (List.mem_of_getElem? hp) x mem
  have hn:=ZbJ L (by omega) x.1 s hnl.1 hnl.2 (by unfold Len; omega) (by omega)
  have hd:=Zoi L (by omega) d h hL k p hp i x hx
  rw [GL]
  simp only [hg,Zz]
  simp only [Zj,Zd,cond_true,cond_false,Zg,Zz,Za,Zm,condC,Zi,Zh,Zl,ZI,ZR,ZA,hi',hq,hn,hd,JP,apS (show s.length≤8000000000000 by omega),wrap_in (show -9223372036854775808≤(i:Int) + 1 by omega) (by omega)]
  rw [← Ze2]
  show _=bif !decide ((Yy x.1 x.2 s).1=0) then some (Yy x.1 x.2 s).1 else self1 (0,(Yy x.1 x.2 s).2,(i:Int) + 1,())
  by_cases c:(Yy x.1 x.2 s).1=0
  ·rw [Ze4 c]
  ·simp [c]
 ·rw [GL,← hlen]
  simp only [hg,Zz]
  simp only [Zj,Zd,cond_true,cond_false,Zg,Zz,Za,Zm,condC,Zi,Zh,Zl,ZI,ZR,ZA,wrap_in (show -9223372036854775808≤(k:Int) + 1 by omega) (by omega)]
theorem outer (L:Nat)(h1:1000≤L)(d:Ze)(h:ZG d)(hL:SizeOf.sizeOf d≤L)(E:Option Int)(hE:(bif decide ((d.Starts.length:Int) > 32) then some (6:Int) else Zt (GM d L) L (0,0,()))=E):∀ (m k:Nat) (s:Seen),k≤10→10 - k < m→s.length≤32 * k →
  Zt (JS d L ((Xv d).map Zbz)) m (0,s,(k:Int),())=if decide ((Dx (((Xv d).drop k).map stepD) s).1≠0)=true then some (Dx (((Xv d).drop k).map stepD) s).1 else E
 | 0,_,_,_,h,_=>absurd h (Nat.not_lt_zero _)
 | m + 1,k,s,hk,hm,hs=>by
  show JS d L ((Xv d).map Zbz) (Zt (JS d L ((Xv d).map Zbz)) m) (0,s,(k:Int),())=_
  have hlen:(Xv d).length=10:=rfl
  have hlm:((Xv d).map Zbz).length=10:=by rw [List.length_map,hlen]
  rcases Nat.lt_or_ge k 10 with hlt | hge
  ·have hp:=List.getElem?_eq_getElem (show k < (Xv d).length by omega)
   generalize (Xv d)[k]=p at hp
   have hg:ZL ((Xv d).map Zbz) (k:Int)=some (Zbz p):=by rw [Zg,List.getElem?_map,hp]; rfl
   have hnl:(Zbz p).length=p.2.length:=by simp [Zbz]
   have hmost:=ZnQ d k p hp
   have hdrop:(Xv d).drop k=p :: (Xv d).drop (k + 1):=by
    rw [List.drop_eq_getElem_cons (show k < (Xv d).length by omega)]
    congr 1
    exact Option.some.inj ((List.getElem?_eq_getElem (show k < (Xv d).length by omega)).symm.trans hp)
   have hguard:(decide ((p.2.length:Int) > 32) || (decide ((k:Int)=9) && decide ((p.2.length:Int) > 16)))=decide (p.1 < (p.2.length:Int)):=by
    rw [hmost]
    by_cases c:k=9
    ·subst c; simp; omega
    ·rw [if_neg c,show decide ((k:Int)=9)=false by simp only [decide_eq_false_iff_not]; omega]; simp
   rw [JS,hdrop,List.map_cons,Dx]
   simp only [hlm,show decide ((k:Int) < ((10:Nat):Int))=true by simp only [decide_eq_true_eq]; omega,cond_true,hg,Zz,hnl]
   simp only [Zj,Zd,cond_true,cond_false,Zg,Zz,Za,Zm,condC,Zi,Zh,Zl,ZI,ZR,ZA,hguard]
   by_cases c:p.1 < (p.2.length:Int)
   ·have e:stepD p s=(6,s):=by unfold stepD Xa; rw [if_pos (by simpa using c)]
    simp [c,e]
   ·have e:stepD p s=YL Ha p.2 s:=by unfold stepD Xa; rw [if_neg (by simpa using c)]
    have hpl:p.2.length≤32:=by rw [hmost] at c; split at c <;> omega
    rw [show decide (p.1 < (p.2.length:Int))=false by simpa using c,cond_false,inner L h1 d h hL k p hp hpl hlt,e]
    have hsl:(YL Ha p.2 s).2.length≤32 * (k + 1):=by have:=Znx p.2 s; omega
    have ih:=outer L h1 d h hL E hE m (k + 1) (YL Ha p.2 s).2 hlt (by omega) hsl
    by_cases z:(YL Ha p.2 s).1=0
    ·simp only [z,ne_eq,not_true_eq_false,decide_false,Bool.false_eq_true,if_false]
     exact ih
    ·simp [z]
    exact hs
  ·have:k=10:=by omega
   subst this
   rw [JS,hlm,show (Xv d).drop 10=[] from rfl]
   simp only [Zj,Zd,cond_true,cond_false,Zg,Zz,Za,Zm,condC,Zi,Zh,Zl,ZI,ZR,ZA,show decide (((10:Nat):Int) < ((10:Nat):Int))=false from rfl,hE]
   simp [Dx]
theorem Zqs (L:Nat)(h1:1000≤L)(d:Ze)(h:ZG d)(hL:SizeOf.sizeOf d≤L)(hd:(Dx ((Xv d).map stepD) []).1=0)(hl:d.Laws.length≤32):Zt (JR d L) L ([],0,())=some (YL (fun l:Ze8=>Yy l.Name (ZrM d l)) d.Laws []).1:=by
 have hs:=Sh.of hL
 have hz:=Jq d
 rw [ZvC (f := JR d L) (fun s i=>(s,i,())) d.Laws (fun l:Ze8=>Yy l.Name (ZrM d l)) 0 (fun _=>some 0) hs.law (fun x s=>Ze3 _ _ _) (fun self s i x hx hi mem hsl=>by
  have hm:=Z1e mem
  have e:=Z05 L d h hs (by omega) hd x (h.Laws.2 x mem) (by omega) (by omega) s (by unfold Len; omega) (by omega)
  rw [JR]
  simp only [Zj,Zd,cond_true,cond_false,Zg,Zz,Za,Zm,condC,Zi,Zh,Zl,ZI,ZR,ZA,hi,hx,e,apS (show s.length≤8000000000000 by omega),wrap_succ hi (by omega)]
  by_cases c:(Yy x.Name (ZrM d x) s).1=0
  ·rw [Ze4 c]
  ·simp [c]) (fun self s hsl=>by rw [JR]; simp only [Zj,Zd,cond_true,cond_false,Zg,Zz,Za,Zm,condC,Zi,Zh,Zl,ZI,ZR,ZA]) [] (Nat.le_refl _)]
 by_cases c:(YL (fun l:Ze8=>Yy l.Name (ZrM d l)) d.Laws []).1=0 <;> simp [c]
theorem Zwr (L:Nat)(h1:1000≤L)(d:Ze)(h:ZG d)(hL:SizeOf.sizeOf d≤L):DD L (d,())=some (ZhK d):=by
 have hs:=Sh.of hL
 have hz:=Jq d
 rw [Zo1,ZkR L d h hs,Zz,ZmM,ZwC]
 have o:=outer L h1 d h hL _ rfl L 0 [] (Nat.zero_le _) (by omega) (Nat.le_refl _)
 rw [List.drop_zero] at o
 rw [show ((0:Int))=((0:Nat):Int) from rfl]
 refine o.trans ?_
 unfold Zzn
 by_cases hd:(Dx ((Xv d).map stepD) []).1=0
 ·rw [if_neg (by simp [hd]),if_neg (by simp [hd])]
  have st:Zt (GM d L) L (0,0,())=some (if decide (Yk (VS d) d.Starts≠0)=true then Yk (VS d) d.Starts else DU d):=by
   have hl:=h.Starts.1
   have lw:(bif decide ((d.Laws.length:Int) > 32) then some (6:Int) else Zt (JR d L) L ([],0,()))=some (DU d):=by
    unfold DU Xa
    by_cases c:32 < (d.Laws.length:Int)
    ·simp [c]
    ·rw [Zqs L h1 d h hL hd (by omega)]; simp [c]
   refine CE d.Starts (fun l _=>some (if decide (Yk (VS d) l≠0)=true then Yk (VS d) l else DU d)) hs.sta 0 (fun self n i x r hx hi mem e=>?_) (fun self n=>?_)
   ·have hm:=ZoZ (fun v:Xw=>v.Routine) (fun x=>by cases x; simp; omega) mem
    have hx2:SizeOf.sizeOf x.Args < SizeOf.sizeOf x:=by cases x; simp; omega
    have ha:=ZH x.Args
    rw [GM]
    simp only [Zj,Zd,cond_true,cond_false,Zg,Zz,Za,Zm,condC,Zi,Zh,Zl,ZI,ZR,ZA,hi,hx,Zt4 L d h hs x (h.Starts.2 x mem) (by omega),wrap_succ hi (by omega),e,Yk]
    by_cases c:VS d x=0 <;> simp [c]
   ·rw [GM]; simp only [Zj,Zd,cond_true,cond_false,Zg,Zz,Za,Zm,condC,Zi,Zh,Zl,ZI,ZR,ZA,lw,Yk]; rfl
  rw [st]
  unfold ZbS NG
  by_cases c:32 < (d.Starts.length:Int) <;> simp [c]
 ·rw [if_pos (by simp [hd]),if_pos (by simp [hd])]
theorem ZqY (L:Nat)(h1:1000≤L)(n:List UInt8)(hn:n.length≤140737488351232)(hnL:n.length < L)(d:Ze)(h:ZG d)(hL:SizeOf.sizeOf d≤L):MH L (⟨n,[],[d],[]⟩,())=some (M1 n d):=by
 have hs:=Sh.of hL
 have e1:=JQ L n (by unfold Len; omega) hnL (by omega)
 have e2:=ZbJ L (by omega) d.Name [] (by have:=h.Name; unfold Len; omega) hs.nm (by simp [Len]) (by simp; omega)
 have e3:MI L (⟨n,[],[d],[]⟩,())=some 0:=by
  rw [Zlw,ZeN _ (show 2 < L by omega)]
  simp only [ZaR,ZwY,cond_false]
 have e5:Zt (RY ⟨n,[],[d],[]⟩ L) L ([],0,())=some (Yy d.Name (ZhK d) []).1:=by
  rw [ZeN _ (show 2 < L by omega)]
  simp only [RY,one1,w01,e2,e3,Zz,Za,cond_true,cond_false,Zwr L h1 d h hL,JP,apS (show ([]:List (List UInt8)).length≤8000000000000 by simp),ZA]
  rw [← Ze2]
  by_cases c:(Yy d.Name (ZhK d) []).1=0 <;> simp [c]
 have e4:Zt (RZ ⟨n,[],[d],[]⟩ L) L (0,[],0,())=some (Yy d.Name (ZhK d) []).1:=by
  rw [ZeN _ (show 2 < L by omega)]
  simp only [RZ,ZwY,one1,cond_false,XR,JP,Zz,Za,ZA,Y5,if_true,YY,e5]
  rfl
 rw [Zls,e1,e4]
 simp only [Zz,Za,XR,JP,ZwY,Y5,if_true,YY,ZA,M1]
 by_cases a:V9 n=0 <;> simp [a]
end Go.Proofs.YtgjcjbhhhlelnaaGreatDoor
end
section
namespace Go.Proofs.YtgjcjbhhhlelnaaGreatDoor
open Go Go.Proofs.YtgjcjbhhhlelnaaGreatDoor.Abs Go.Proofs.YtgjcjbhhhlelnaaGreatDoor.Tl
set_option maxRecDepth 100000
mutual
theorem Zno (L:Nat):∀ (m:Nat) (a b:Zu),Yi a→2 * SizeOf.sizeOf a≤m→m≤L→MR L m (a,b,())=some (A8 a b)
 | 0,e,_,h,hs,_=>absurd hs (by have:=PW e; omega)
 | m + 1,e,b,h,hs,hm=>by
  have hz:=ZrE e
  have ih:=ZkW L m e.Kids b.Kids h.k (fun x hx=>h.Kids.2 x hx) (by omega) (by omega)
  simp only [Zj,Zd,cond_true,cond_false,Zg,Zz,Za,Zm,condC,Zi,Zh,Zl,ZI,ZR,ZA,Zou,ih,ZbQ,Zk1]; simp only [Yu,Xp,if_true,if_false,Bool.false_eq_true,ne_eq,decide_not,gt_iff_lt,ge_iff_le]
  by_cases h1:e.Op=b.Op <;> by_cases h2:e.Name=b.Name <;> by_cases h3:e.N=b.N <;> simp [h1,h2,h3]
theorem ZkW (L:Nat):∀ (m:Nat) (a b:List Zu),a.length≤4611686018427387→(∀ x ∈ a,Yi x)→2 * SizeOf.sizeOf a + 1≤m→m≤L→IW L m (a,b,())=some (if (!decide ((a.length:Int)=(b.length:Int)))=true then false else all2 A8 a b)
 | 0,e,_,h,_,hs,_=>absurd hs (by omega)
 | m + 1,a,b,h,ho,hs,hm=>by
  have hk:=ZH a
  rcases ZwV a b with ⟨hl1,hl2⟩ | ⟨hl1,hl2⟩
  ·have lp:Zt (Uh m a b L) L (0,())=some (all2 A8 a b):=by
    refine ZeO a b hl1 (fun l l'=>some (all2 A8 l l')) (by omega) (fun self i x y r r' hx hy hi mem e'=>?_) (fun self=>?_)
    ·have ih:=Zno L m x y (ho x mem) (by have:=List.sizeOf_lt_of_mem mem; omega) (by omega)
     rw [Uh]; simp only [Zj,Zd,cond_true,cond_false,Zg,Zz,Za,Zm,condC,Zi,Zh,Zl,ZI,ZR,ZA,hi,hx,hy,ih,wrap_succ hi (by omega),e',all2]; simp only [Yu,Xp,if_true,if_false,Bool.false_eq_true,ne_eq,decide_not,gt_iff_lt,ge_iff_le]
    ·rw [Uh]; simp only [Zj,Zd,cond_true,cond_false,Zg,Zz,Za,Zm,condC,Zi,Zh,Zl,ZI,ZR,ZA,all2]
   simp only [Zj,Zd,cond_true,cond_false,Zg,Zz,Za,Zm,condC,Zi,Zh,Zl,ZI,ZR,ZA,Ak,lp,hl2,Bool.not_true]; simp only [Yu,Xp,if_true,if_false,Bool.false_eq_true,ne_eq,decide_not,gt_iff_lt,ge_iff_le]
  ·simp only [Zj,Zd,cond_true,cond_false,Zg,Zz,Za,Zm,condC,Zi,Zh,Zl,ZI,ZR,ZA,Ak,hl2,Bool.not_false]; simp only [Yu,Xp,if_true,if_false,Bool.false_eq_true,ne_eq,decide_not,gt_iff_lt,ge_iff_le]
end
theorem Zrc (L:Nat)(e:Zu)(h:Yi e)(hL:2 * SizeOf.sizeOf e≤L):OB L (e,⟨0,[],0,[]⟩,())=some (F9 e):=by
 rw [show OB L (e,⟨0,[],0,[]⟩,())=_ from Zno L L e _ h hL (Nat.le_refl _),Zab]
mutual
def ZhS (hd:Zu→Bool):Zu→Bool
 | ⟨o,a,n,ks⟩=>hd ⟨o,a,n,ks⟩ && DJ hd ks
def DJ (hd:Zu→Bool):List Zu→Bool
 | []=>true
 | x :: r=>ZhS hd x && DJ hd r
end
theorem Zpf (hd:Zu→Bool)(e:Zu):ZhS hd e=(hd e && DJ hd e.Kids):=by cases e; rw [ZhS]
def hdA (d:Ze)(c:Wi)(e:Zu):Bool :=
 if decide (e.Op=25)=true then decide (0≤e.N) && decide (e.N < c.Slots) else if decide (e.Op=26)=true then decide (0≤e.N) && decide (e.N < (d.Vars.length:Int)) else if decide (e.Op=22)=true then decide (0≤e.N) && decide (e.N < (d.Resources.length:Int)) else if decide (e.Op=23)=true then decide (0≤e.N) && decide (e.N < (d.Stores.length:Int))
 else if decide (e.Op=24)=true then decide (e.N < IntKind.i64.wrap ((d.Resources.length:Int) + (d.Queues.length:Int))) else true
def hdB (d:Ze)(c:Wi)(e:Zu):Bool :=
 if (decide (e.Op=25) && decide (c.Slots≤e.N))=true then false else if (decide (e.Op=26) && decide ((d.Vars.length:Int)≤e.N))=true then false else if (decide (e.Op=22) && decide ((d.Resources.length:Int)≤e.N))=true then false else if (decide (e.Op=23) && decide ((d.Stores.length:Int)≤e.N))=true then false
 else if (decide (e.Op=24) && decide (IntKind.i64.wrap ((d.Resources.length:Int) + (d.Queues.length:Int))≤e.N))=true then false else true
theorem ZzX (d:Ze)(c:Wi)(e:Zu)(h:Zb0 true e=0):hdA d c e=hdB d c e:=by
 have key:(e.Op=25∨e.Op=26∨e.Op=22∨e.Op=23)→0≤e.N:=by
  intro ho
  rcases ho with ho | ho | ho | ho <;> simp [Zb0,ho,ZrN,ZqC,Zdd,ZiD,ZfJ] at h <;> grind
 unfold hdA hdB
 by_cases h1:e.Op=25
 ·have:=key (.inl h1); simp [h1,this]; (first | omega | (rw [← decide_not]; exact decide_eq_decide.2 (by omega)) | (split <;> simp_all <;> omega) | grind)
 by_cases h2:e.Op=26
 ·have:=key (.inr (.inl h2)); simp [h2,this]; (first | omega | (rw [← decide_not]; exact decide_eq_decide.2 (by omega)) | (split <;> simp_all <;> omega) | grind)
 by_cases h3:e.Op=22
 ·have:=key (.inr (.inr (.inl h3))); simp [h3,this]; (first | omega | (rw [← decide_not]; exact decide_eq_decide.2 (by omega)) | (split <;> simp_all <;> omega) | grind)
 by_cases h4:e.Op=23
 ·have:=key (.inr (.inr (.inr h4))); simp [h4,this]; (first | omega | (rw [← decide_not]; exact decide_eq_decide.2 (by omega)) | (split <;> simp_all <;> omega) | grind)
 by_cases h5:e.Op=24
 ·simp [h5]; (first | omega | (rw [← decide_not]; exact decide_eq_decide.2 (by omega)) | (split <;> simp_all <;> omega) | grind)
 simp [h1,h2,h3,h4,h5]
theorem ZmC {α:Type}(f:α→Int):∀ l:List α,Yk f l=0→∀ x ∈ l,f x=0
 | [],_,x,hx=>by cases hx
 | y :: l,h,x,hx=>by
  rw [Yk] at h
  by_cases c:f y=0
  ·simp [c] at h
   rcases List.mem_cons.1 hx with rfl | hx
   ·exact c
   ·exact ZmC f l h x hx
  ·simp [c] at h
mutual
theorem Zuh (d:Ze) (c:Wi):∀ e:Zu,JE true e=0→ZhS (hdA d c) e=ZhS (hdB d c) e
 | ⟨o,a,n,ks⟩,h=>by
  rw [Zdl] at h
  by_cases z:Zb0 true ⟨o,a,n,ks⟩=0
  ·simp [z] at h
   rw [ZhS,ZhS,ZzX d c _ z,Zph d c ks (ZmC _ ks h)]
  ·simp [z] at h
theorem Zph (d:Ze) (c:Wi):∀ l:List Zu,(∀ x ∈ l,JE true x=0)→DJ (hdA d c) l=DJ (hdB d c) l
 | [],_=>by rw [DJ,DJ]
 | x :: l,h=>by rw [DJ,DJ,Zuh d c x (h x (List.mem_cons_self ..)),Zph d c l fun y hy=>h y (List.mem_cons_of_mem _ hy)]
end
theorem Zrg (L:Nat)(p:Zk)(si:Int)(sc:ZN)(hs:ZL p.Sites si=some sc)(c:Wi):∀ (m:Nat) (e:Zu),Yi e→SizeOf.sizeOf e≤m→m≤L→MV L m (p,si,c,e,())=some (ZhS (hdB sc.Decl c) e)
 | 0,e,h,hsz,_=>absurd hsz (by have:=PW e; omega)
 | m + 1,e,h,hsz,hm=>by
  have hk:=ZH e.Kids; have hz:=ZrE e; have hl:=h.k
  have lp:Zt (Tu m p si c e L) L (0,())=some (DJ (hdB sc.Decl c) e.Kids):=by
   refine CB e.Kids (fun l=>some (DJ (hdB sc.Decl c) l)) (by omega) (fun self i x r hx hi mem e'=>?_) (fun self=>?_)
   ·have ih:=Zrg L p si sc hs c m x (h.Kids.2 x mem) (by have:=ES mem; omega) (by omega)
    rw [Tu]; simp only [Zj,Zd,cond_true,cond_false,Zg,Zz,Za,Zm,condC,Zi,Zh,Zl,ZI,ZR,ZA,hi,hx,ih,wrap_succ hi (by omega),e',DJ]
    cases ZhS (hdB sc.Decl c) x <;> rfl
   ·rw [Tu]; simp only [Zj,Zd,cond_true,cond_false,Zg,Zz,Za,Zm,condC,Zi,Zh,Zl,ZI,ZR,ZA,DJ]
  rw [Zo4,hs,Zz,lp,Zpf]
  simp only [Zj,Zd,cond_true,cond_false,Zg,Zz,Za,Zm,condC,Zi,Zh,Zl,ZI,ZR,ZA,hdB]; simp only [Yu,Xp,if_true,if_false,Bool.false_eq_true,ne_eq,decide_not,gt_iff_lt,ge_iff_le]
  (repeat' split) <;> simp_all
theorem Zpg (hd:Zu→Bool):∀ l:List Zu,(!(l.any fun y=>!(ZhS hd y)))=DJ hd l
 | []=>by rw [DJ]; rfl
 | x :: l=>by rw [List.any_cons,DJ,← Zpg hd l]; cases ZhS hd x <;> simp
theorem Zrh (L:Nat)(p:Zk)(si:Int)(sc:ZN)(hs:ZL p.Sites si=some sc)(c:Wi):∀ (m:Nat) (e:Zu),Yi e→SizeOf.sizeOf e≤m→m≤L→Yg L m (⟨p,si,c⟩,e,())=some (ZhS (hdA sc.Decl c) e)
 | 0,e,h,hsz,_=>absurd hsz (by have:=PW e; omega)
 | m + 1,e,h,hsz,hm=>by
  have hk:=ZH e.Kids; have hz:=ZrE e; have hl:=h.k
  have lp:Zt (Ye m ⟨p,si,c⟩ e L) L (0,())=some (GG (fun y=>!(ZhS (hdA sc.Decl c) y)) e.Kids 0):=by
   refine ZkA e.Kids (fun l i=>some (GG (fun y=>!(ZhS (hdA sc.Decl c) y)) l i)) (by omega) (fun self i x r hx hi mem e'=>?_) (fun self=>?_)
   ·have ih:=Zrh L p si sc hs c m x (h.Kids.2 x mem) (by have:=ES mem; omega) (by omega)
    rw [Ye]; simp only [Zj,Zd,cond_true,cond_false,Zg,Zz,Za,Zm,condC,Zi,Zh,Zl,ZI,ZR,ZA,hi,hx,ih,wrap_succ hi (by omega),e',GG]; simp only [Yu,Xp,if_true,if_false,Bool.false_eq_true,ne_eq,decide_not,gt_iff_lt,ge_iff_le]
   ·rw [Ye]; simp only [Zj,Zd,cond_true,cond_false,Zg,Zz,Za,Zm,condC,Zi,Zh,Zl,ZI,ZR,ZA,GG]
  have hge:decide (GG (fun y=>!(ZhS (hdA sc.Decl c) y)) e.Kids 0 ≥ 0)=e.Kids.any fun y=>!(ZhS (hdA sc.Decl c) y):=Ci _ _ 0 (Int.le_refl _)
  have hmost:∀ w o,Y2 L (⟨p,si,c⟩,w,o,())=_:=fun w o=>VA L ⟨p,si,c⟩ w o
  rw [NW,show UO=Ye from rfl,show UQ=Ye from rfl,show UR=Ye from rfl,show UT=Ye from rfl,show UU=Ye from rfl,lp,Zpf]
  simp only [Zj,Zd,cond_true,cond_false,Zg,Zz,Za,Zm,condC,Zi,Zh,Zl,ZI,ZR,ZA,Jk,hmost,hs,hge,Zpg,hdA,Int.reduceEq,decide_true,decide_false]; simp only [Yu,Xp,if_true,if_false,Bool.false_eq_true,ne_eq,decide_not,gt_iff_lt,ge_iff_le,Bool.true_and]
  (repeat' split) <;> simp_all
end Go.Proofs.YtgjcjbhhhlelnaaGreatDoor
end
section
namespace Go.Proofs.YtgjcjbhhhlelnaaGreatDoor
open Go Go.Proofs.YtgjcjbhhhlelnaaGreatDoor.Abs Go.Proofs.YtgjcjbhhhlelnaaGreatDoor.Tl
set_option maxRecDepth 100000
def ZwP (p:Zk)(a b:Int):Int×Bool×PUnit:=match p.Links.find? (fun l=>decide (l.From=a) && decide (l.To=b)) with
 | some l=>(l.Delay,true,())
 | none=>(0,false,())
theorem ZyC (L:Nat)(p:Zk)(a b:Int)(h:p.Links.length≤4611686018427387)(hL:p.Links.length < L):D7 L (p,a,b,())=some (ZwP p a b):=by
 rw [Zor,ZkA p.Links (fun l i=>some (GG (fun l:UF=>decide (l.From=a) && decide (l.To=b)) l i)) hL (fun self i x r hx hi _ e=>by
  rw [N9]; simp only [Zj,Zd,cond_true,cond_false,Zg,Zz,Za,Zm,condC,Zi,Zh,Zl,ZI,ZR,ZA,hi,hx,wrap_succ hi (by omega),e,GG]; simp only [Yu,Xp,if_true,if_false,Bool.false_eq_true,ne_eq,decide_not,gt_iff_lt,ge_iff_le]) (fun self=>by rw [N9]; simp only [Zj,Zd,cond_true,cond_false,Zg,Zz,Za,Zm,condC,Zi,Zh,Zl,ZI,ZR,ZA,GG]),Zz,ZwP]
 rcases ZbG (fun l:UF=>decide (l.From=a) && decide (l.To=b)) p.Links 0 with ⟨e1,e2⟩ | ⟨k,r,e1,e2,e3⟩
 ·rw [e1,e2]; rfl
 ·rw [e1,e2,Int.zero_add,show decide ((k:Int) < 0)=false by simp only [decide_eq_false_iff_not]; omega,cond_false,Zg,e3]; rfl
theorem ZyN (L:Nat)(p:Zk)(a b:Int)(h:p.Links.length≤4611686018427387)(hL:p.Links.length < L):F8 L (p,a,b,())=some (ZwP p a b):=by
 rw [Zro,ZwP]
 refine CB p.Links (fun l=>some (match l.find? (fun l=>decide (l.From=a) && decide (l.To=b)) with | some l=>(l.Delay,true,()) | none=>(0,false,()))) hL (fun self i x r hx hi _ e=>?_) (fun self=>?_)
 ·rw [CU]; simp only [Zj,Zd,cond_true,cond_false,Zg,Zz,Za,Zm,condC,Zi,Zh,Zl,ZI,ZR,ZA,hi,hx,wrap_succ hi (by omega),e,List.find?_cons]
  cases decide (x.From=a) <;> cases decide (x.To=b) <;> rfl
 ·rw [CU]; simp only [Zj,Zd,cond_true,cond_false,Zg,Zz,Za,Zm,condC,Zi,Zh,Zl,ZI,ZR,ZA,List.find?_nil]
def Zta (p:Zk)(d:Ze)(c:Wi)(k:Int):Int :=
 if decide (k=1)=true then c.Slots else if decide (k=2)=true then (d.Vars.length:Int) else if decide (k=3)=true then (d.Streams.length:Int) else if decide (k=4)=true then (c.Instrs.length:Int) else if decide (k=5)=true then (d.Resources.length:Int) else if decide (k=6)=true then (d.Stores.length:Int) else if decide (k=7)=true then (d.Belts.length:Int) else if decide (k=8)=true then (d.Queues.length:Int) else if decide (k=9)=true then (p.Sites.length:Int) else if decide (k=11)=true then (d.Tallies.length:Int) else if decide (k=12)=true then (d.Levels.length:Int) else if decide (k=13)=true then (d.Counts.length:Int) else 1
def ZsD (p:Zk)(d:Ze)(c:Wi)(k x:Int):Bool:=decide (0≤x) && decide (x < Zta p d c k)
theorem ZyJ (L:Nat)(p:Zk)(si:Int)(sc:ZN)(hs:ZL p.Sites si=some sc)(c:Wi)(k x o:Int)(hk:k≠10):ZW L (⟨p,si,c⟩,k,x,o,())=some (ZsD p sc.Decl c k x):=by
 have h10:decide (k=10)=false:=by simp [hk]
 have hmost:Y2 L (⟨p,si,c⟩,k,o,())=some (Zta p sc.Decl c k):=by
  rw [VA]; simp only [Zj,Zd,cond_true,cond_false,Zg,Zz,Za,Zm,condC,Zi,Zh,Zl,ZI,ZR,ZA,hs,h10,Zta]; simp only [Yu,Xp,if_true,if_false,Bool.false_eq_true,ne_eq,decide_not,gt_iff_lt,ge_iff_le]
 simp only [Zj,Zd,cond_true,cond_false,Zg,Zz,Za,Zm,condC,Zi,Zh,Zl,ZI,ZR,ZA,Jk,hmost,ZsD]
theorem ZqW (L:Nat)(p:Zk)(si:Int)(sc:ZN)(hs:ZL p.Sites si=some sc)(c:Wi)(x o:Int)(so:ZN)(ho:ZL p.Sites o=some so):ZW L (⟨p,si,c⟩,10,x,o,())=some (decide (0≤x) && decide (x < (so.Routines.length:Int))):=by
 have hmost:Y2 L (⟨p,si,c⟩,10,o,())=some (so.Routines.length:Int):=by
  rw [VA]; simp only [Zj,Zd,cond_true,cond_false,Zg,Zz,Za,Zm,condC,Zi,Zh,Zl,ZI,ZR,ZA,hs,ho,Int.reduceEq,decide_true,decide_false]
 simp only [Zj,Zd,cond_true,cond_false,Zg,Zz,Za,Zm,condC,Zi,Zh,Zl,ZI,ZR,ZA,Jk,hmost]
def Zz1 (w:List UInt8):Int:=if w=[115,108,111,116] then 1 else if w=[118,97,114] then 2 else if w=[115,116,114,101,97,109] then 3 else if w=[105,110,115,116,114] then 4 else if w=[114,101,115,111,117,114,99,101] then 5 else if w=[115,116,111,114,101] then 6 else if w=[98,101,108,116] then 7 else if w=[113,117,101,117,101] then 8 else if w=[115,105,116,101] then 9 else if w=[116,97,108,108,121] then 11 else if w=[108,101,118,101,108] then 12 else if w=[99,111,117,110,116] then 13 else 0
def Zn5:List (List UInt8):=[[],[115,108,111,116],[118,97,114],[115,116,114,101,97,109],[105,110,115,116,114],[114,101,115,111,117,114,99,101],[115,116,111,114,101],[98,101,108,116],[113,117,101,117,101],[115,105,116,101],[116,97,108,108,121],[108,101,118,101,108],[99,111,117,110,116]]
theorem Znd (L:Nat)(p:Zk)(si:Int)(sc:ZN)(hs:ZL p.Sites si=some sc)(c:Wi)(w:List UInt8)(hw:w ∈ Zn5)(x:Int):UC L (p,si,c,w,x,())=some (decide (Zz1 w=0) || ZsD p sc.Decl c (Zz1 w) x):=by
 simp only [Zn5,List.mem_cons,List.not_mem_nil,or_false] at hw
 rcases hw with rfl | rfl | rfl | rfl | rfl | rfl | rfl | rfl | rfl | rfl | rfl | rfl | rfl <;> (rw [Zju,Zl3,hs,show decide (x ≥ 0)=decide (0≤x) from rfl]; unfold ZsD; generalize decide (0≤x)=b; cases b <;> rfl)
structure Rel (op:Int)(f:IM)(g:V5):Prop where
 rc:g.C=f.c
 re:g.E=f.e
 rf:g.F=f.f
 rargs:g.Args=f.args
 rflag:g.Flag=f.preempt
 rdist:f.dist=decide (op=3)
 rgdist:g.Dist=f.dist
 wa:g.A ∈ Zn5
 na:Zz1 g.A=f.a
 wa0:decide (g.A=[])=decide (f.a=0)
 na10:f.a≠10
 wb0:decide (g.B=[])=decide (f.b=0)
 wb:op≠14→op≠15→g.B ∈ Zn5∧Zz1 g.B=f.b∧f.b≠10
 f14:op=14→f.a=9
 f15:op=15→f.a=0
theorem ZpS (L:Nat)(op:Int)(h:1≤op∧op≤19):∃ f g gs,ZL Ig op=some f∧XJ L ()=some gs∧ZL gs op=some g∧Rel op f g:=by
 have:op=1∨op=2∨op=3∨op=4∨op=5∨op=6∨op=7∨op=8∨op=9∨op=10∨op=11∨op=12∨op=13∨op=14∨op=15∨op=16∨op=17∨op=18∨op=19:=by omega
 rcases this with rfl | rfl | rfl | rfl | rfl | rfl | rfl | rfl | rfl | rfl | rfl | rfl | rfl | rfl | rfl | rfl | rfl | rfl | rfl <;>
  exact ⟨_,_,_,rfl,Zl1 L,rfl,⟨rfl,rfl,rfl,rfl,rfl,rfl,rfl,by decide,by decide,by decide,by decide,by decide,by decide,by decide,by decide⟩⟩
end Go.Proofs.YtgjcjbhhhlelnaaGreatDoor
end
section
namespace Go.Proofs.YtgjcjbhhhlelnaaGreatDoor
open Go Go.Proofs.YtgjcjbhhhlelnaaGreatDoor.Abs Go.Proofs.YtgjcjbhhhlelnaaGreatDoor.Tl
set_option maxRecDepth 100000
theorem Zxx (c x:Bool):(bif c then false else x)=(!c && x):=by cases c <;> rfl
theorem ZjW (i:YH):SizeOf.sizeOf i.E < SizeOf.sizeOf i∧SizeOf.sizeOf i.F < SizeOf.sizeOf i∧SizeOf.sizeOf i.Args < SizeOf.sizeOf i∧SizeOf.sizeOf i.Dist < SizeOf.sizeOf i:=by cases i; simp; omega
def Ziv (f:IM)(i:YH):Bool:=(!decide (f.a=0) || decide (i.A=0)) && (!decide (f.b=0) || decide (i.B=0)) && (f.c || decide (i.C=0)) && (f.e || F9 i.E) && (f.f || F9 i.F) && (f.args || decide ((i.Args.length:Int)=0)) && (f.dist || Nk i.Dist) && (f.preempt || !i.Flag)
theorem Zwj (L:Nat)(i:YH)(h:IG i)(hL:2 * SizeOf.sizeOf i≤L)(f:IM)(hf:ZL Ig i.Op=some f):Iu L (i,())=some (Ziv f i):=by
 have hz:=ZjW i
 have z:=fun e (he:Yi e) (hl:SizeOf.sizeOf e≤L)=>show Ht L (e,())=some (F9 e) by simp only [Zj,Zd,cond_true,cond_false,Zg,Zz,Za,Zm,condC,Zi,Zh,Zl,ZI,ZR,ZA,Zlc,ZqV L e _ he hl,Zab]
 rw [Zje,hf]
 simp only [Zj,Zd,cond_true,cond_false,Zg,Zz,Za,Zm,condC,Zi,Zh,Zl,ZI,ZR,ZA,z i.E h.E (by omega),z i.F h.F (by omega),Zhd L i.Dist _ h.Dist (by omega),Gm,Ziv]
theorem Zux (n:Nat):(!decide ((n:Int) > 0))=decide ((n:Int)=0):=by rw [← decide_not]; exact decide_eq_decide.2 (by omega)
theorem Zwo (L:Nat)(i:YH)(h:IG i)(hL:2 * SizeOf.sizeOf i≤L)(f:IM)(g:V5)(gs:List V5)(hg:XJ L ()=some gs)(hg':ZL gs i.Op=some g)(r:Rel i.Op f g):MN L (i,())=some (Ziv f i):=by
 have hz:=ZjW i
 rw [Zl6,hg,Za,Zz,hg',Zz]
 simp only [Zj,Zd,cond_true,cond_false,Zg,Zz,Za,Zm,condC,Zi,Zh,Zl,ZI,ZR,ZA,Zrc L i.E h.E (by omega),Zrc L i.F h.F (by omega),ZbI L i.Dist _ h.Dist (by omega),Gm,r.wa0,r.wb0,r.rc,r.re,r.rf,r.rargs,r.rflag,r.rgdist,Zxx,Bool.not_and,Bool.not_not,Zux,Ziv]
 congr 1
 ac_rfl
def Ziz (f:IM)(i:YH):List Zu:=(bif f.e then [i.E] else []) ++ ((bif f.f then [i.F] else []) ++ (bif f.args then i.Args else []))
theorem apE (l m:List Zu)(h:(l.length + m.length) * 56≤140737488355328):apT 56 l m=some (l ++ m):=by unfold apT; rw [if_pos h]
theorem Z0U (i:YH)(ha:i.Args.length * 56≤140737488351232):apT 56 [] [i.E]=some [i.E]∧apT 56 [] [i.F]=some [i.F]∧apT 56 [i.E] [i.F]=some ([i.E] ++ [i.F])∧apT 56 [] i.Args=some i.Args∧apT 56 [i.E] i.Args=some ([i.E] ++ i.Args)∧apT 56 [i.F] i.Args=some ([i.F] ++ i.Args)∧apT 56 ([i.E] ++ [i.F]) i.Args=some ([i.E] ++ [i.F] ++ i.Args) :=
 ⟨apE [] [i.E] (by simp),apE [] [i.F] (by simp),apE _ _ (by simp),apE [] i.Args (by simp only [List.length_nil]; omega),apE _ _ (by simp only [List.length_cons,List.length_nil]; omega),apE _ _ (by simp only [List.length_cons,List.length_nil]; omega),apE _ _ (by simp only [List.cons_append,List.nil_append,List.length_cons,List.length_nil]; omega)⟩
theorem ZiW (L:Nat)(n:Int):U8 L (n,())=some (btw n 1 19):=Zjf L n
theorem ZfR (L:Nat)(n:Int):Hz L (n,())=some (btw n 1 19):=Zl5 L n
theorem Ztz (L:Nat)(i:YH)(h:IG i)(hk:btw i.Op 1 19=true)(f:IM)(hf:ZL Ig i.Op=some f):WN L (i,())=some (Ziz f i):=by
 have ha:=h.Args.1
 simp only [Zj,Zd,cond_true,cond_false,Zg,Zz,Za,Zm,condC,Zi,Zh,Zl,ZI,ZR,ZA,Aj,ZiW,hk,hf,Bool.not_true]
 unfold Ziz
 obtain ⟨a0,a1,a2,a3,a4,a5,a6⟩:=Z0U i ha
 cases f.e <;> cases f.f <;> cases f.args <;> simp only [cond_true,cond_false,a0,a1,a2,a3,a4,a5,a6,Zz,List.nil_append,List.append_nil,List.append_assoc]
theorem Zt3 (L:Nat)(i:YH)(h:IG i)(hk:btw i.Op 1 19=true)(f:IM)(g:V5)(gs:List V5)(hg:XJ L ()=some gs)(hg':ZL gs i.Op=some g)(r:Rel i.Op f g):ML L (i,())=some (Ziz f i):=by
 have ha:=h.Args.1
 simp only [Zj,Zd,cond_true,cond_false,Zg,Zz,Za,Zm,condC,Zi,Zh,Zl,ZI,ZR,ZA,Zl0,ZfR,hk,hg,hg',r.re,r.rf,r.rargs,Bool.not_true]
 unfold Ziz
 obtain ⟨a0,a1,a2,a3,a4,a5,a6⟩:=Z0U i ha
 cases f.e <;> cases f.f <;> cases f.args <;> simp only [cond_true,cond_false,a0,a1,a2,a3,a4,a5,a6,Zz,List.nil_append,List.append_nil,List.append_assoc]
theorem Zx1 (f:IM)(i:YH)(h:IG i):(Ziz f i).length≤4611686018427387∧(Ziz f i).length≤2 + i.Args.length∧∀ x ∈ Ziz f i,Yi x∧SizeOf.sizeOf x < SizeOf.sizeOf i:=by
 have hz:=ZjW i
 have ha:=h.Args.1
 have hl:(Ziz f i).length≤2 + i.Args.length:=by
  unfold Ziz; cases f.e <;> cases f.f <;> cases f.args <;> simp <;> omega
 refine ⟨by omega,hl,fun x hx=>?_⟩
 unfold Ziz at hx
 rcases List.mem_append.1 hx with hx | hx
 ·cases he:f.e <;> rw [he] at hx
  ·cases hx
  ·rw [List.mem_singleton.1 hx]; exact ⟨h.E,by omega⟩
 rcases List.mem_append.1 hx with hx | hx
 ·cases he:f.f <;> rw [he] at hx
  ·cases hx
  ·rw [List.mem_singleton.1 hx]; exact ⟨h.F,by omega⟩
 ·cases he:f.args <;> rw [he] at hx
  ·cases hx
  ·have hx:x ∈ i.Args:=hx
   exact ⟨h.Args.2 x hx,by have:=List.sizeOf_lt_of_mem hx; omega⟩
def esR (d:Ze)(c:Wi)(t:Int):List Zu→Int
 | []=>t
 | x :: r=>if decide (Qp true x≠0)=true then Qp true x else if (!(ZhS (hdA d c) x))=true then 2 else esR d c t r
theorem lpA (L:Nat)(h1:1000≤L)(p:Zk)(si:Int)(sc:ZN)(hs:ZL p.Sites si=some sc)(c:Wi)(i:YH)(h:IG i)(hL:2 * SizeOf.sizeOf i≤L)(f:IM)(op:f.dist=decide (i.Op=3)):Zt (YI ⟨p,si,c⟩ i L f (Ziz f i)) L (0,())=some (esR sc.Decl c (if decide (i.Op=3)=true then LM i.Dist else 0) (Ziz f i)):=by
 obtain ⟨e1,e2,e3⟩:=Zx1 f i h
 have hz:=ZjW i; have hk:=ZH i.Args
 refine CB (Ziz f i) (fun l=>some (esR sc.Decl c (if decide (i.Op=3)=true then LM i.Dist else 0) l)) (by omega) (fun self j x r hx hi mem e=>?_) (fun self=>?_)
 ·obtain ⟨o1,o2⟩:=e3 x mem
  rw [YI]
  simp only [Zj,Zd,cond_true,cond_false,Zg,Zz,Za,Zm,condC,Zi,Zh,Zl,ZI,ZR,ZA,hi,hx,ZkQ L x o1 (by omega),show Qb L (⟨p,si,c⟩,x,())=_ from Zrh L p si sc hs c L x o1 (by omega) (Nat.le_refl _),wrap_succ hi (by omega),e,esR]; simp only [Yu,Xp,if_true,if_false,Bool.false_eq_true,ne_eq,decide_not,gt_iff_lt,ge_iff_le]
 ·rw [YI]; simp only [Zj,Zd,cond_true,cond_false,Zg,Zz,Za,Zm,condC,Zi,Zh,Zl,ZI,ZR,ZA,op,Tj L i.Dist h.Dist (by omega) (by omega),esR]; simp only [Yu,Xp,if_true,if_false,Bool.false_eq_true,ne_eq,decide_not,gt_iff_lt,ge_iff_le]
theorem Zit (x:Zu)(h:Qp true x=0):JE true x=0:=by
 unfold Qp at h
 by_cases a:60 < ZpA x
 ·simp [a] at h
 by_cases b:12 < ZoW x
 ·simp [a,b] at h
 simpa [a,b] using h
theorem lpB (L:Nat)(h1:1000≤L)(p:Zk)(si:Int)(sc:ZN)(hs:ZL p.Sites si=some sc)(c:Wi)(i:YH)(h:IG i)(hL:2 * SizeOf.sizeOf i≤L)(f:IM):Zt (Il p si c i L (Ziz f i)) L (0,())=some (esR sc.Decl c (if decide (i.Op=3)=true then LM i.Dist else 0) (Ziz f i)):=by
 obtain ⟨e1,e2,e3⟩:=Zx1 f i h
 have hz:=ZjW i; have hk:=ZH i.Args
 refine CB (Ziz f i) (fun l=>some (esR sc.Decl c (if decide (i.Op=3)=true then LM i.Dist else 0) l)) (by omega) (fun self j x r hx hi mem e=>?_) (fun self=>?_)
 ·obtain ⟨o1,o2⟩:=e3 x mem
  rw [Il]
  simp only [Zj,Zd,cond_true,cond_false,Zg,Zz,Za,Zm,condC,Zi,Zh,Zl,ZI,ZR,ZA,hi,hx,ZiY L (by omega) x o1 (by omega),show Zap L (p,si,c,x,())=_ from Zrg L p si sc hs c L x o1 (by omega) (Nat.le_refl _),wrap_succ hi (by omega),e,esR]
  by_cases z:Qp true x=0
  ·rw [Zuh sc.Decl c x (Zit x z)]
   cases ZhS (hdB sc.Decl c) x <;> simp [z]
  ·simp [z]
 ·rw [Il]; simp only [Zj,Zd,cond_true,cond_false,Zg,Zz,Za,Zm,condC,Zi,Zh,Zl,ZI,ZR,ZA,Dq L i.Dist h.Dist (by omega),esR]; simp only [Yu,Xp,if_true,if_false,Bool.false_eq_true,ne_eq,decide_not,gt_iff_lt,ge_iff_le]
end Go.Proofs.YtgjcjbhhhlelnaaGreatDoor
end
section
namespace Go.Proofs.YtgjcjbhhhlelnaaGreatDoor
open Go Go.Proofs.YtgjcjbhhhlelnaaGreatDoor.Abs Go.Proofs.YtgjcjbhhhlelnaaGreatDoor.Tl
set_option maxRecDepth 100000
theorem ZpW {α:Type}(l:List α)(n:Int)(h0:0≤n)(h:n < l.length):∃ x,ZL l n=some x∧x ∈ l:=by
 have hn:n.toNat < l.length:=by omega
 refine ⟨l[n.toNat],?_,List.getElem_mem hn⟩
 unfold ZL; rw [if_pos h0]; exact List.getElem?_eq_getElem hn
theorem Zf0 (L:Nat)(p:Zk)(o:Int)(so:ZN)(ho:ZL p.Sites o=some so)(i:YH) :
  ((decide (0≤i.B) && decide (i.B < (so.Routines.length:Int)))=false∧Ua L (p,o,i,())=some 2) ∨
  ((decide (0≤i.B) && decide (i.B < (so.Routines.length:Int)))=true∧∃ cd,ZL so.Routines i.B=some cd∧Ua L (p,o,i,())=some (bif !decide ((i.Args.length:Int)=cd.Params) then 8 else 0)):=by
 rw [Zl2,ho,Zz]
 by_cases h:0≤i.B∧i.B < (so.Routines.length:Int)
 ·refine .inr ⟨by simp [h.1,h.2],?_⟩
  obtain ⟨cd,hc,_⟩:=ZpW so.Routines i.B h.1 h.2
  refine ⟨cd,hc,?_⟩
  rw [show (decide (i.B < 0) || decide (i.B ≥ (so.Routines.length:Int)))=false by simp only [Bool.or_eq_false_iff,decide_eq_false_iff_not]; omega,hc]
  simp only [Zj,Zd,cond_true,cond_false,Zg,Zz,Za,Zm,condC,Zi,Zh,Zl,ZI,ZR,ZA]
 ·refine .inl ⟨by simp only [Bool.and_eq_false_iff,decide_eq_false_iff_not]; omega,?_⟩
  rw [show (decide (i.B < 0) || decide (i.B ≥ (so.Routines.length:Int)))=true by simp only [Bool.or_eq_true,decide_eq_true_eq]; omega]
  rfl
theorem orN (a b:Bool):(!b && !a)=!(a || b):=by cases a <;> cases b <;> rfl
theorem ZnX (L:Nat)(h1:1000≤L)(p:Zk)(hp:p.Links.length≤4611686018427387)(hpL:p.Links.length < L)(si:Int)(sc:ZN)(hs:ZL p.Sites si=some sc)(c:Wi)(i:YH)(h:IG i)(hL:2 * SizeOf.sizeOf i≤L) :
  ∃ v,YW L (⟨p,si,c⟩,i,())=some v∧XK L (p,si,c,i,())=some v:=by
 rw [DV,Zl4,show Uo=YI from rfl,show Ur=YI from rfl,ZiW,ZfR]
 by_cases hk:btw i.Op 1 19=true
 ·obtain ⟨f,g,gs,hf,hg,hg',r⟩:=ZpS L i.Op (by simpa [btw] using hk)
  rw [Zwj L i h hL f hf,Zwo L i h hL f g gs hg hg' r,hf,Ztz L i h hk f hf,Zt3 L i h hk f g gs hg hg' r]
  have la:=lpA L h1 p si sc hs c i h hL f r.rdist
  have lb:=lpB L h1 p si sc hs c i h hL f
  generalize esR sc.Decl c (if decide (i.Op=3)=true then LM i.Dist else 0) (Ziz f i)=V at la lb
  cases hcl:Ziv f i
  ·exact ⟨1,by simp only [Zj,Zd,cond_true,cond_false,Zg,Zz,Za,Zm,condC,Zi,Zh,Zl,ZI,ZR,ZA,hk,Bool.not_true,Bool.not_false,Bool.or_true,Bool.false_or],by simp only [Zj,Zd,cond_true,cond_false,Zg,Zz,Za,Zm,condC,Zi,Zh,Zl,ZI,ZR,ZA,hk,Bool.not_true,Bool.not_false,Bool.or_true,Bool.false_or]⟩
  simp only [Zhx,hg,Zz,hg',ZyJ L p si sc hs c f.a i.A 0 r.na10]
  have iA:=Znd L p si sc hs c g.A r.wa i.A
  rw [r.na] at iA
  by_cases hA:(decide (f.a=0) || ZsD p sc.Decl c f.a i.A)=true
  ·have hA':(!(ZsD p sc.Decl c f.a i.A) && !decide (f.a=0))=false:=by rw [orN,hA]; rfl
   rw [hA] at iA
   by_cases h14:i.Op=14
   ·
    have ha9:=r.f14 h14
    rw [ha9] at hA
    have hA2:0≤i.A∧i.A < (p.Sites.length:Int):=by simpa [ZsD,Zta] using hA
    obtain ⟨so,ho,_⟩:=ZpW p.Sites i.A hA2.1 hA2.2
    have e14:decide (i.Op=14)=true:=by simp [h14]
    have e15:decide (i.Op=15)=false:=by simp [h14]
    have hb10:=ZqW L p si sc hs c i.B i.A so ho
    simp only [ZI,ZA,e14,e15,cond_true,cond_false,Zz]
    simp only [hA',hk,iA,cond_true,cond_false,Zz,Bool.not_true,Bool.or_false,ZyC L p si i.A hp hpL,ZyN L p si i.A hp hpL]
    simp only [Zh,hb10,ho,Zz,Za,cond_false,Bool.not_true,la,lb]
    cases hq:(!(ZwP p si i.A).2.1 || !decide ((ZwP p si i.A).1=i.C))
    ·rcases Zf0 L p i.A so ho i with ⟨b1,b2⟩ | ⟨b1,cd,b2,b3⟩
     ·exact ⟨2,by simp only [cond_true,cond_false,Zz,Za,Zm,condC,Zi,Zh,Zl,ZI,ZA,Bool.not_true,Bool.not_false,b1,Bool.not_false] <;> rfl,by simp only [cond_true,cond_false,Zz,Za,Zm,condC,Zi,Zh,Zl,ZI,ZA,Bool.not_true,Bool.not_false,b2] <;> rfl⟩
     ·cases hz:decide ((i.Args.length:Int)=cd.Params)
      ·exact ⟨8,by simp only [cond_true,cond_false,Zz,Za,Zm,condC,Zi,Zh,Zl,ZI,ZA,Bool.not_true,Bool.not_false,b1,b2,hz,Bool.not_true,Bool.not_false] <;> rfl,by simp only [cond_true,cond_false,Zz,Za,Zm,condC,Zi,Zh,Zl,ZI,ZA,Bool.not_true,Bool.not_false,b3,hz,Bool.not_true,Bool.not_false] <;> rfl⟩
      ·exact ⟨V,by simp only [cond_true,cond_false,Zz,Za,Zm,condC,Zi,Zh,Zl,ZI,ZA,Bool.not_true,Bool.not_false,b1,b2,hz,Bool.not_true,Bool.not_false] <;> rfl,by simp only [cond_true,cond_false,Zz,Za,Zm,condC,Zi,Zh,Zl,ZI,ZA,Bool.not_true,Bool.not_false,b3,hz,Bool.not_true,Bool.not_false] <;> rfl⟩
    ·exact ⟨16,by simp only [cond_true,cond_false,Zz,Za,Zm,condC,Zi,Zh,Zl,ZI,ZA,Bool.not_true,Bool.not_false] <;> rfl,by simp only [cond_true,cond_false,Zz,Za,Zm,condC,Zi,Zh,Zl,ZI,ZA,Bool.not_true,Bool.not_false] <;> rfl⟩
   ·by_cases h15:i.Op=15
    ·have e14:decide (i.Op=14)=false:=by simp [h15]
     have e15:decide (i.Op=15)=true:=by simp [h15]
     have hb10:=ZqW L p si sc hs c i.B si sc hs
     simp only [ZI,ZA,e14,e15,cond_true,cond_false,Zz]
     simp only [hA',hk,iA,cond_true,cond_false,Zz,Bool.not_true,Bool.or_false]
     simp only [Zh,hb10,hs,Zz,Za,cond_false,Bool.not_true,la,lb]
     rcases Zf0 L p si sc hs i with ⟨b1,b2⟩ | ⟨b1,cd,b2,b3⟩
     ·exact ⟨2,by simp only [cond_true,cond_false,Zz,Za,Zm,condC,Zi,Zh,Zl,ZI,ZA,Bool.not_true,Bool.not_false,b1,Bool.not_false] <;> rfl,by simp only [cond_true,cond_false,Zz,Za,Zm,condC,Zi,Zh,Zl,ZI,ZA,Bool.not_true,Bool.not_false,b2] <;> rfl⟩
     ·cases hz:decide ((i.Args.length:Int)=cd.Params)
      ·exact ⟨8,by simp only [cond_true,cond_false,Zz,Za,Zm,condC,Zi,Zh,Zl,ZI,ZA,Bool.not_true,Bool.not_false,b1,b2,hz,Bool.not_true,Bool.not_false] <;> rfl,by simp only [cond_true,cond_false,Zz,Za,Zm,condC,Zi,Zh,Zl,ZI,ZA,Bool.not_true,Bool.not_false,b3,hz,Bool.not_true,Bool.not_false] <;> rfl⟩
      ·exact ⟨V,by simp only [cond_true,cond_false,Zz,Za,Zm,condC,Zi,Zh,Zl,ZI,ZA,Bool.not_true,Bool.not_false,b1,b2,hz,Bool.not_true,Bool.not_false] <;> rfl,by simp only [cond_true,cond_false,Zz,Za,Zm,condC,Zi,Zh,Zl,ZI,ZA,Bool.not_true,Bool.not_false,b3,hz,Bool.not_true,Bool.not_false] <;> rfl⟩
    ·obtain ⟨w1,w2,w3⟩:=r.wb h14 h15
     have e14:decide (i.Op=14)=false:=by simp [h14]
     have e15:decide (i.Op=15)=false:=by simp [h15]
     have iB:=Znd L p si sc hs c g.B w1 i.B
     rw [w2] at iB
     simp only [cond_true,cond_false,Zz,Za,Zm,condC,Zi,Zh,Zl,ZI,ZA,Bool.not_true,Bool.not_false,hk,hA',iA,iB,e14,e15,Bool.not_true,Bool.or_false,ZyJ L p si sc hs c f.b i.B 0 w3,la,lb]
     cases decide (f.b=0) <;> cases ZsD p sc.Decl c f.b i.B
     ·exact ⟨2,rfl,rfl⟩
     ·exact ⟨V,rfl,rfl⟩
     ·exact ⟨V,rfl,rfl⟩
     ·exact ⟨V,rfl,rfl⟩
  ·rw [Bool.not_eq_true] at hA
   have hA':(!(ZsD p sc.Decl c f.a i.A) && !decide (f.a=0))=true:=by rw [orN,hA]; rfl
   rw [hA] at iA
   exact ⟨2,by simp only [cond_true,cond_false,Zz,Za,Zm,condC,Zi,Zh,Zl,ZI,ZA,Bool.not_true,Bool.not_false,hk,hA',Bool.not_true,Bool.or_false] <;> rfl,by simp only [cond_true,cond_false,Zz,Za,Zm,condC,Zi,Zh,Zl,ZI,ZA,Bool.not_true,Bool.not_false,hk,iA,Bool.not_true,Bool.not_false,Bool.or_false] <;> rfl⟩
 ·rw [Bool.not_eq_true] at hk
  exact ⟨1,by simp only [cond_true,cond_false,Zz,Za,Zm,condC,Zi,Zh,Zl,ZI,ZA,Bool.not_true,Bool.not_false,hk,Bool.not_false,Bool.true_or] <;> rfl,by simp only [cond_true,cond_false,Zz,Za,Zm,condC,Zi,Zh,Zl,ZI,ZA,Bool.not_true,Bool.not_false,hk,Bool.not_false,Bool.true_or] <;> rfl⟩
end Go.Proofs.YtgjcjbhhhlelnaaGreatDoor
end
section
namespace Go.Proofs.YtgjcjbhhhlelnaaGreatDoor
open Go Go.Proofs.YtgjcjbhhhlelnaaGreatDoor.Abs Go.Proofs.YtgjcjbhhhlelnaaGreatDoor.Tl
set_option maxRecDepth 100000
theorem ZwE (c:Wi):SizeOf.sizeOf c.Name < SizeOf.sizeOf c∧SizeOf.sizeOf c.Instrs < SizeOf.sizeOf c:=by cases c; simp; omega
theorem Zyb {α:Type}{f:(Int×PUnit→Option Int)→Int×PUnit→Option Int}(l:List α)(V:α→Int)(T:Option Int){m:Nat}(hm:l.length < m)
  (h1:∀ self (i:Nat) x,l[i]? = some x→i < l.length→x ∈ l→f self ((i:Int),())=bif !decide (V x=0) then some (V x) else self ((i:Int) + 1,()))
  (h2:∀ self,f self ((l.length:Int),())=T):Zt f m (0,())=if decide (Yk V l≠0)=true then some (Yk V l) else T :=
 CB l (fun l=>if decide (Yk V l≠0)=true then some (Yk V l) else T) hm (fun self i x r hx hi mem e=>by
  rw [h1 self i x hx hi mem,e,Yk]
  by_cases c:V x=0 <;> simp [c]) (fun self=>by rw [h2]; rfl)
theorem ZaT (L:Nat)(h1:1000≤L)(p:Zk)(hp:p.Links.length≤4611686018427387)(hpL:p.Links.length < L)(si:Int)(sc:ZN)(hs:ZL p.Sites si=some sc)(c:Wi)(h:Zpa c)(hL:2 * SizeOf.sizeOf c≤L) :
  ∃ v,Y3 L (p,si,c,())=some v∧YU L (p,si,c,())=some v:=by
 have hz:=ZwE c
 have hk:=ZH c.Instrs; have hl:=h.Instrs.1
 have hn1:=QD L c.Name (by have:=h.Name; unfold Len; omega) (by have:=ZH c.Name; omega)
 have hn2:=JQ L c.Name (by have:=h.Name; unfold Len; omega) (by have:=ZH c.Name; omega) (by omega)
 have hV:∀ i ∈ c.Instrs,YW L (⟨p,si,c⟩,i,())=some ((XK L (p,si,c,i,())).getD 0)∧XK L (p,si,c,i,())=some ((XK L (p,si,c,i,())).getD 0):=fun i mem=>by
  have:=List.sizeOf_lt_of_mem mem
  obtain ⟨v,e1,e2⟩:=ZnX L h1 p hp hpL si sc hs c i (h.Instrs.2 i mem) (by omega)
  rw [e1,e2]; exact ⟨rfl,rfl⟩
 obtain ⟨V,hV'⟩:∃ V:YH→Int,∀ i ∈ c.Instrs,YW L (⟨p,si,c⟩,i,())=some (V i)∧XK L (p,si,c,i,())=some (V i):=⟨_,hV⟩
 by_cases ge:c.Instrs=[]
 ·have e0:decide ((c.Instrs.length:Int)=0)=true:=by rw [ge]; rfl
  refine ⟨_,by rw [PQ]; simp only [hn1,Zz,ZI,ZA,e0,cond_true,Zl]; rfl,?_⟩
  rw [Am]; simp only [hn2,Zz,ZI,ZA,e0,cond_true,Zl]
 ·have hpos:0 < c.Instrs.length:=List.length_pos_iff.2 ge
  have hw:IntKind.i64.wrap ((c.Instrs.length:Int) - 1)=((c.Instrs.length - 1:Nat):Int):=by rw [wrap_in (by omega) (by omega)]; omega
  have hx:=List.getElem?_eq_getElem (show c.Instrs.length - 1 < c.Instrs.length by omega)
  generalize c.Instrs[c.Instrs.length - 1]=x at hx
  have la:=Zyb (f := Jf p si c L) c.Instrs V (some (bif !decide (x.Op=19) && !decide (x.Op=4) then 8 else 0)) (m := L) (by omega) (fun self i y hy hi mem=>by
   rw [Jf]; simp only [Zj hi,cond_true,Zg,hy,Zz,(hV' y mem).1,ZA,wrap_succ hi (by omega)]) (fun self=>by
   rw [Jf]; simp only [Zd,cond_false,hw,Zg,hx,Zz,ZA,Zl])
  have lb:=Zyb (f := Uj p si c L) c.Instrs V (some (bif !decide (x.Op=19) && !decide (x.Op=4) then 8 else 0)) (m := L) (by omega) (fun self i y hy hi mem=>by
   rw [Uj]; simp only [Zj hi,cond_true,Zg,hy,Zz,Za,(hV' y mem).2,ZA,wrap_succ hi (by omega)]) (fun self=>by
   rw [Uj]; simp only [Zd,cond_false,hw,Zg,hx,Zz,ZA,Zl])
  rw [Xp] at la lb
  refine ⟨_,by rw [PQ]; simp only [la,hn1,Zz,ZI,ZA,Zl]; rfl,?_⟩
  rw [Am]; simp only [lb,hn2,Zz,ZI,ZA,Zl]
end Go.Proofs.YtgjcjbhhhlelnaaGreatDoor
end
section
namespace Go.Proofs.YtgjcjbhhhlelnaaGreatDoor
open Go Go.Proofs.YtgjcjbhhhlelnaaGreatDoor.Abs Go.Proofs.YtgjcjbhhhlelnaaGreatDoor.Tl
set_option maxRecDepth 100000
def agL:List Wi→List ZU→Bool
 | c :: l,r :: m=>if (!(decide (c.Name=r.Name) && decide (c.Params=(r.Params.length:Int)) && decide ((r.Body.length:Int)=0)))=true then false else agL l m
 | _,_=>true
def agB (s:ZN):Bool:=decide ((s.Routines.length:Int)=(s.Decl.Routines.length:Int)) && agL s.Routines s.Decl.Routines
theorem Zty (L:Nat)(s:ZN)(h:s.Routines.length≤4611686018427387)(hL:s.Routines.length < L):KU L (s,())=some (agB s):=by
 rcases ZwV s.Routines s.Decl.Routines with ⟨e1,e2⟩ | ⟨e1,e2⟩
 ·have lp:=ZeO (f := Ud s L) s.Routines s.Decl.Routines e1 (fun l m=>some (agL l m)) hL (fun self i x y r r' hx hy hi _ e=>by
   rw [Ud]; simp only [Zj,Zd,cond_true,cond_false,Zg,Zz,Za,Zm,condC,Zi,Zh,Zl,ZI,ZR,ZA,hi,hx,hy,Zd0,wrap_succ hi (by omega),e,agL]; simp only [Yu,Xp,if_true,if_false,Bool.false_eq_true,ne_eq,decide_not,gt_iff_lt,ge_iff_le]) (fun self=>by rw [Ud]; simp only [Zj,Zd,cond_true,cond_false,Zg,Zz,Za,Zm,condC,Zi,Zh,Zl,ZI,ZR,ZA,agL])
  rw [Ai,lp,agB,ZA,e2]; rfl
 ·rw [Ai,agB,ZA,e2]; rfl
theorem Zt0 (L:Nat)(s:ZN)(h:s.Routines.length≤4611686018427387)(hL:s.Routines.length < L):OG L (s,())=some (agB s):=by
 rcases ZwV s.Routines s.Decl.Routines with ⟨e1,e2⟩ | ⟨e1,e2⟩
 ·have lp:=ZeO (f := Tt s) s.Routines s.Decl.Routines e1 (fun l m=>some (agL l m)) hL (fun self i x y r r' hx hy hi _ e=>by
   rw [Tt]; simp only [Zj,Zd,cond_true,cond_false,Zg,Zz,Za,Zm,condC,Zi,Zh,Zl,ZI,ZR,ZA,hi,hx,hy,wrap_succ hi (by omega),e,agL]
   rw [show decide ((y.Body.length:Int) > 0)=!decide ((y.Body.length:Int)=0) by rw [← Zux,Bool.not_not],decide_eq_decide.2 (⟨Eq.symm,Eq.symm⟩:y.Name=x.Name↔x.Name=y.Name),decide_eq_decide.2 (⟨Eq.symm,Eq.symm⟩:(y.Params.length:Int)=x.Params↔x.Params=(y.Params.length:Int))]
   cases decide ((y.Body.length:Int)=0) <;> cases decide (x.Name=y.Name) <;> cases decide (x.Params=(y.Params.length:Int)) <;> rfl) (fun self=>by rw [Tt]; simp only [Zj,Zd,cond_true,cond_false,Zg,Zz,Za,Zm,condC,Zi,Zh,Zl,ZI,ZR,ZA,agL])
  rw [ZfT,lp,agB,ZA,e2]; rfl
 ·rw [ZfT,agB,ZA,e2]; rfl
def NT (l:UF):Int×Int:=(l.From,l.To)
def Nw (p:Zk):List (Int×Int)→List UF→Int
 | _,[]=>0
 | seen,x :: r=>if (decide (x.From < 0) || decide (x.From ≥ (p.Sites.length:Int)) || decide (x.To < 0) || decide (x.To ≥ (p.Sites.length:Int)) || decide (x.From=x.To) || decide (x.Delay < 1) || decide (x.Delay > 1000000000))=true then 2
  else if seen.contains (NT x)=true then 4 else Nw p (seen ++ [NT x]) r
theorem ZiC (l:List (Int×Int))(s:Int×Int):hasK (MK.pint IntKind.i64) l s=l.contains s:=by
 induction l with
 | nil=>rfl
 | cons x l ih =>
  rw [List.contains_cons,← ih]
  show (BEq.beq s.1 x.1 && BEq.beq s.2 x.2 || hasK (MK.pint IntKind.i64) l s)=_
  congr 1
theorem Zpe (l:List (Int×Int))(s:Int×Int)(h:l.contains s=false):ZaB (MK.pint IntKind.i64) l s=l ++ [s]:=by
 unfold ZaB; rw [ZiC,h]; rfl
theorem Zpj (x:UF)(n:Int):(decide ((if x.To < x.From then x.To else x.From) < 0) || decide ((if x.To > x.From then x.To else x.From) ≥ n) || decide (x.From=x.To))=(decide (x.From < 0) || decide (x.From ≥ n) || decide (x.To < 0) || decide (x.To ≥ n) || decide (x.From=x.To)):=by
 rw [Bool.eq_iff_iff]
 simp only [Bool.or_eq_true,decide_eq_true_eq]
 split <;> split <;> omega
theorem ZqU (L:Nat)(p:Zk)(h:p.Links.length≤4611686018427387)(hL:p.Links.length < L):Hr L (p,())=some (if decide (32 < (p.Links.length:Int))=true then 6 else Nw p [] p.Links):=by
 have lp:=ZiH (f := Uw p) p.Links (fun (s:List (Int×Int)) i=>(i,s,())) (fun l s=>some (Nw p s l)) (fun self s i x r hx hi mem e=>by
  rw [Uw]
  simp only [Zj,Zd,cond_true,cond_false,Zg,Zz,Za,Zm,condC,Zi,Zh,Zl,ZI,ZR,ZA,hi,hx,Zpj,wrap_succ hi (by omega),e,ZiC,Nw]
  generalize (decide (x.From < 0) || decide (x.From ≥ (p.Sites.length:Int)) || decide (x.To < 0) || decide (x.To ≥ (p.Sites.length:Int)) || decide (x.From=x.To))=a
  show _=some (if (a || decide (x.Delay < 1) || decide (x.Delay > 1000000000))=true then 2 else if s.contains (x.From,x.To)=true then 4 else Nw p (s ++ [(x.From,x.To)]) r)
  cases hc:s.contains (x.From,x.To)
  ·rw [Zpe _ _ hc,e]; cases a <;> cases decide (x.Delay < 1) <;> cases decide (x.Delay > 1000000000) <;> rfl
  ·cases a <;> cases decide (x.Delay < 1) <;> cases decide (x.Delay > 1000000000) <;> rfl) (fun self s=>by rw [Uw]; simp only [Zj,Zd,cond_true,cond_false,Zg,Zz,Za,Zm,condC,Zi,Zh,Zl,ZI,ZR,ZA,Nw]) L 0 [] (Nat.zero_le _) (by omega)
 rw [List.drop_zero] at lp
 rw [Zlb,show Zt (Uw p) L (0,[],())=_ from lp]
 simp only [Yu,Xp,if_true,if_false,Bool.false_eq_true,ne_eq,decide_not,gt_iff_lt,ge_iff_le]
end Go.Proofs.YtgjcjbhhhlelnaaGreatDoor
end
section
namespace Go.Proofs.YtgjcjbhhhlelnaaGreatDoor
open Go Go.Proofs.YtgjcjbhhhlelnaaGreatDoor.Abs Go.Proofs.YtgjcjbhhhlelnaaGreatDoor.Tl
set_option maxRecDepth 100000
theorem Zn8 (L:Nat)(p:Zk)(h:p.Links.length≤4611686018427387)(self:Int×Int×PUnit→Option Int)(i:Nat)(hi:i≤p.Links.length)(hL:p.Links.length < L)(y:UF) :
  Zt (GN p self (0,(i:Int),()) y) L (0,0,())=if ((p.Links.take i).map NT).contains (NT y)=true then some 4 else self (0,IntKind.i64.wrap ((i:Int) + 1),()):=by
 have hlen:(p.Links.take i).length=i:=by rw [List.length_take]; omega
 have:=Zdg (f := GN p self (0,(i:Int),()) y) i (fun j=>(0,j,())) (fun j=>if (((p.Links.take i).drop j).map NT).contains (NT y)=true then some 4 else self (0,IntKind.i64.wrap ((i:Int) + 1),())) (fun self1 j hj e=>by
  have hjl:j < p.Links.length:=by omega
  have hx:=List.getElem?_eq_getElem hjl
  have hd:(p.Links.take i).drop j=p.Links[j] :: (p.Links.take i).drop (j + 1):=by
   rw [List.drop_eq_getElem_cons (show j < (p.Links.take i).length by omega),List.getElem_take]
  rw [hd,GN]
  simp only [show decide ((j:Int) < (i:Int))=true by simp only [decide_eq_true_eq]; omega,cond_true,Zg,hx,Zz,ZI,Zm,wrap_in (show -9223372036854775808≤(j:Int) + 1 by omega) (by omega),e,List.map_cons,List.contains_cons]
  generalize p.Links[j]=x
  have hb:(NT y == NT x)=(decide (x.From=y.From) && decide (x.To=y.To)):=by
   show (BEq.beq y.From x.From && BEq.beq y.To x.To)=_
   rw [ZI,ZI,decide_eq_decide.2 (⟨Eq.symm,Eq.symm⟩:y.From=x.From↔x.From=y.From),decide_eq_decide.2 (⟨Eq.symm,Eq.symm⟩:y.To=x.To↔x.To=y.To)]
  rw [hb]
  cases decide (x.From=y.From) <;> cases decide (x.To=y.To) <;> rfl) (fun self1=>by
  rw [GN]
  simp only [Zd,cond_false]
  rw [List.drop_eq_nil_of_le (by omega)]; rfl) L 0 (Nat.zero_le _) (by omega)
 rw [List.drop_zero] at this
 exact this
theorem Zwq (L:Nat)(p:Zk)(h:p.Links.length≤4611686018427387)(hL:p.Links.length < L):OE L (p,())=some (if decide (32 < (p.Links.length:Int))=true then 6 else Nw p [] p.Links):=by
 have lp:=Zdg (f := GU p L) p.Links.length (fun i=>(0,i,())) (fun i=>some (Nw p ((p.Links.take i).map NT) (p.Links.drop i))) (fun self i hi e=>by
  have hx:=List.getElem?_eq_getElem hi
  have ht:(p.Links.take (i + 1)).map NT=(p.Links.take i).map NT ++ [NT p.Links[i]]:=by
   rw [List.take_succ,hx,List.map_append]; rfl
  rw [List.drop_eq_getElem_cons hi,Nw]
  rw [ht] at e
  rw [GU]
  simp only [Zj hi,cond_true,Zg,hx,Zz,ZI,Zn8 L p h self i (Nat.le_of_lt hi) hL,wrap_succ hi (by omega),e]
  rw [Yu]
  split
  ·rfl
  ·split <;> rfl) (fun self=>by
  rw [GU,List.drop_length]; simp only [Zd,cond_false,Nw]) L 0 (Nat.zero_le _) (by omega)
 rw [List.drop_zero] at lp
 rw [Zo3,show Zt (GU p L) L (0,0,())=_ from lp]
 simp only [Yu,Xp,if_true,if_false,Bool.false_eq_true,ne_eq,decide_not,gt_iff_lt,ge_iff_le]
 rfl
end Go.Proofs.YtgjcjbhhhlelnaaGreatDoor
end
section
namespace Go.Proofs.YtgjcjbhhhlelnaaGreatDoor
open Go Go.Proofs.YtgjcjbhhhlelnaaGreatDoor.Abs Go.Proofs.YtgjcjbhhhlelnaaGreatDoor.Tl
set_option maxRecDepth 100000
def Ku (n:List UInt8):Seen→List ZN→Int
 | _,[]=>0
 | seen,x :: r=>if decide (M1 n x.Decl≠0)=true then M1 n x.Decl else if seen.contains x.Decl.Name=true then 4 else if (!(agB x))=true then 8 else Ku n (seen ++ [x.Decl.Name]) r
theorem Zxe (p:Zk){s:ZN}(h:s ∈ p.Sites):SizeOf.sizeOf s.Decl < SizeOf.sizeOf p∧SizeOf.sizeOf s.Routines < SizeOf.sizeOf p∧SizeOf.sizeOf p.Name < SizeOf.sizeOf p∧p.Sites.length < SizeOf.sizeOf p∧p.Links.length < SizeOf.sizeOf p:=by
 have h1:=List.sizeOf_lt_of_mem h
 have h2:SizeOf.sizeOf s.Decl < SizeOf.sizeOf s∧SizeOf.sizeOf s.Routines < SizeOf.sizeOf s:=by cases s; simp; omega
 have h3:SizeOf.sizeOf p.Sites < SizeOf.sizeOf p∧SizeOf.sizeOf p.Name < SizeOf.sizeOf p∧SizeOf.sizeOf p.Links < SizeOf.sizeOf p:=by cases p; simp; omega
 have h4:=ZH p.Sites; have h5:=ZH p.Links
 omega
theorem Zp1 (L:Nat)(h1:1000≤L)(p:Zk)(h:Gt p)(hL:2 * SizeOf.sizeOf p≤L)(hne:p.Sites.length < L)(T:Int)(hT:∀ seen:Seen,(bT (Hr L (p,())) fun (y:Int)=>bif y != (0:Int) then some y else Zt (XN p L) L (0,0,seen,()))=some T) :
  Zt (Je p L) L (0,0,[],())=some (if decide (Ku p.Name [] p.Sites≠0)=true then Ku p.Name [] p.Sites else T):=by
 have hl:=h.Sites.1
 have:=ZiH (f := Je p L) p.Sites (fun (s:Seen) i=>(0,i,s,())) (fun l s=>some (if decide (Ku p.Name s l≠0)=true then Ku p.Name s l else T)) (fun self s i x r hx hi mem e=>by
  have hz:=Zxe p mem
  have ok:=h.Sites.2 x mem
  have hr:=ok.Routines.1
  have e1:=Zt2 L (by omega) p.Name h.Name (by have:=ZH p.Name; omega) x.Decl ok.Decl (by omega)
  have e2:=Zty L x (by omega) (by have:=ZH x.Routines; omega)
  rw [Je]
  simp only [Zj hi,cond_true,Zg,hx,Zz,e1,e2,ZA,ZgF,wrap_succ hi (by omega),e,Ku]
  by_cases a:M1 p.Name x.Decl=0
  ·rcases Bool.eq_false_or_eq_true (s.contains x.Decl.Name) with b | b
   ·have b':x.Decl.Name ∈ s:=List.contains_iff_mem.1 b
    simp [a,b']
   ·have b':¬ x.Decl.Name ∈ s:=fun hm=>by rw [List.contains_iff_mem.2 hm] at b; cases b
    rw [Zmq _ _ b,e]
    rcases Bool.eq_false_or_eq_true (agB x) with g | g <;> simp [a,b',g]
  ·simp [a]) (fun self s=>by rw [Je]; simp only [Zd,cond_false,hT,Ku]; rfl) L 0 [] (Nat.zero_le _) (by omega)
 rw [List.drop_zero] at this
 exact this
end Go.Proofs.YtgjcjbhhhlelnaaGreatDoor
end
section
namespace Go.Proofs.YtgjcjbhhhlelnaaGreatDoor
open Go Go.Proofs.YtgjcjbhhhlelnaaGreatDoor.Abs Go.Proofs.YtgjcjbhhhlelnaaGreatDoor.Tl
set_option maxRecDepth 100000
theorem ZwA (L:Nat)(p:Zk)(h:p.Sites.length≤4611686018427387)(self:Int×Int×PUnit→Option Int)(i:Nat)(y:ZN)(hy:p.Sites[i]? = some y)(hi:i < p.Sites.length)(hL:p.Sites.length < L)(hf:OG L (y,())=some (agB y)) :
  Zt (U1 p L self (0,(i:Int),())) L (0,0,())=if ((p.Sites.take i).map fun s=>s.Decl.Name).contains y.Decl.Name=true then some 4 else bif !(agB y) then some 8 else self (0,IntKind.i64.wrap ((i:Int) + 1),()):=by
 have hlen:(p.Sites.take i).length=i:=by rw [List.length_take]; omega
 have:=Zdg (f := U1 p L self (0,(i:Int),())) i (fun j=>(0,j,())) (fun j=>if (((p.Sites.take i).drop j).map fun s=>s.Decl.Name).contains y.Decl.Name=true then some 4 else bif !(agB y) then some 8 else self (0,IntKind.i64.wrap ((i:Int) + 1),())) (fun self1 j hj e=>by
  have hjl:j < p.Sites.length:=by omega
  have hx:=List.getElem?_eq_getElem hjl
  have hd:(p.Sites.take i).drop j=p.Sites[j] :: (p.Sites.take i).drop (j + 1):=by
   rw [List.drop_eq_getElem_cons (show j < (p.Sites.take i).length by omega),List.getElem_take]
  rw [hd,U1]
  simp only [show decide ((j:Int) < (i:Int))=true by simp only [decide_eq_true_eq]; omega,cond_true,Zg,hx,hy,Zz,ZR,wrap_in (show -9223372036854775808≤(j:Int) + 1 by omega) (by omega),e,List.map_cons,List.contains_cons]
  generalize p.Sites[j]=x
  rw [decide_eq_decide.2 (⟨Eq.symm,Eq.symm⟩:y.Decl.Name=x.Decl.Name↔x.Decl.Name=y.Decl.Name)]
  cases decide (x.Decl.Name=y.Decl.Name) <;> rfl) (fun self1=>by
  rw [U1]
  simp only [Zd,cond_false,Zg,hy,Zz,hf]
  rw [List.drop_eq_nil_of_le (by omega)]; rfl) L 0 (Nat.zero_le _) (by omega)
 rw [List.drop_zero] at this
 exact this
theorem Zw4 (L:Nat)(h1:1000≤L)(p:Zk)(h:Gt p)(hL:2 * SizeOf.sizeOf p≤L)(hne:p.Sites.length < L)(T:Int)(hT:(bT (OE L (p,())) fun (y:Int)=>Zt (QV p L) L (y,0,()))=some T) :
  Zt (U3 p L) L (0,0,())=some (if decide (Ku p.Name [] p.Sites≠0)=true then Ku p.Name [] p.Sites else T):=by
 have hl:=h.Sites.1
 have:=Zdg (f := U3 p L) p.Sites.length (fun i=>(0,i,())) (fun i=>some (if decide (Ku p.Name ((p.Sites.take i).map fun s=>s.Decl.Name) (p.Sites.drop i)≠0)=true then Ku p.Name ((p.Sites.take i).map fun s=>s.Decl.Name) (p.Sites.drop i) else T)) (fun self i hi e=>by
  have hx:=List.getElem?_eq_getElem hi
  have ht:((p.Sites.take (i + 1)).map fun s=>s.Decl.Name)=((p.Sites.take i).map fun s=>s.Decl.Name) ++ [p.Sites[i].Decl.Name]:=by
   rw [List.take_succ,hx,List.map_append]; rfl
  have mem:=List.getElem_mem hi
  rw [List.drop_eq_getElem_cons hi,Ku]
  rw [ht] at e
  generalize p.Sites[i]=x at hx e mem
  have hz:=Zxe p mem
  have ok:=h.Sites.2 x mem
  have hr:=ok.Routines.1
  have e1:=ZqY L h1 p.Name h.Name (by have:=ZH p.Name; omega) x.Decl ok.Decl (by omega)
  have e2:=Zt0 L x (by omega) (by have:=ZH x.Routines; omega)
  rw [U3]
  simp only [Zj hi,cond_true,Zg,hx,Zz,Za,e1,ZA,ZwA L p (by omega) self i x hx hi hne e2,wrap_succ hi (by omega),e]
  by_cases a:M1 p.Name x.Decl=0
  ·by_cases b:x.Decl.Name ∈ (p.Sites.take i).map fun s=>s.Decl.Name
   ·rw [List.contains_iff_mem.2 b]
    simp only [a,ne_eq,not_true_eq_false,decide_false,decide_true,Bool.not_true,Bool.not_false,Bool.false_eq_true,if_false,if_true,cond_true,cond_false] <;> rfl
   ·have b':((p.Sites.take i).map fun s=>s.Decl.Name).contains x.Decl.Name=false:=by rw [← Bool.not_eq_true,List.contains_iff_mem]; exact b
    rw [b']
    rcases Bool.eq_false_or_eq_true (agB x) with g | g <;> simp only [a,g,ne_eq,not_true_eq_false,decide_false,decide_true,Bool.not_true,Bool.not_false,Bool.false_eq_true,if_false,if_true,cond_true,cond_false] <;> rfl
  ·simp [a]) (fun self=>by
  rw [U3,List.drop_length]; simp only [Zd,cond_false,hT,Ku]; rfl) L 0 (Nat.zero_le _) (by omega)
 rw [List.drop_zero] at this
 exact this
end Go.Proofs.YtgjcjbhhhlelnaaGreatDoor
end
section
namespace Go.Proofs.YtgjcjbhhhlelnaaGreatDoor
open Go Go.Proofs.YtgjcjbhhhlelnaaGreatDoor.Abs Go.Proofs.YtgjcjbhhhlelnaaGreatDoor.Tl
set_option maxRecDepth 100000
def rX (V:Int→Wi→Int):Int→List ZN→Int
 | _,[]=>0
 | i,x :: r=>if decide (Yk (V i) x.Routines≠0)=true then Yk (V i) x.Routines else rX V (i + 1) r
theorem Zsi (L:Nat)(p:Zk)(V:Int→Wi→Int)(self:Int×Int×List (List UInt8)×PUnit→Option Int)(i:Nat)(seen s0:Seen)(y:ZN)(hl:y.Routines.length≤4611686018427387)(hL:y.Routines.length < L)(hV:∀ c ∈ y.Routines,Y3 L (p,(i:Int),c,())=some (V i c)) :
  Zt (Jd p L self (0,(i:Int),s0,()) y) L (0,0,seen,())=if decide (Yk (V i) y.Routines≠0)=true then some (Yk (V i) y.Routines) else self (0,IntKind.i64.wrap ((i:Int) + 1),seen,()):=by
 have:=ZiH (f := Jd p L self (0,(i:Int),s0,()) y) y.Routines (fun (_:Unit) j=>(0,j,seen,())) (fun l _=>if decide (Yk (V i) l≠0)=true then some (Yk (V i) l) else self (0,IntKind.i64.wrap ((i:Int) + 1),seen,())) (fun self1 s j x r hx hi mem e=>by
  rw [Jd]
  simp only [Zj hi,cond_true,Zg,hx,Zz,hV x mem,ZA,wrap_succ hi (by omega),e (),Yk]
  by_cases a:V i x=0 <;> simp [a]) (fun self1 s=>by rw [Jd]; simp only [Zd,cond_false,Yk]; rfl) L 0 () (Nat.zero_le _) (by omega)
 rw [List.drop_zero] at this
 exact this
theorem Zxt (L:Nat)(p:Zk)(V:Int→Wi→Int)(h:p.Sites.length≤4611686018427387)(hL:p.Sites.length < L)(hr:∀ y ∈ p.Sites,y.Routines.length≤4611686018427387∧y.Routines.length < L)(hV:∀ (i:Nat) y,p.Sites[i]? = some y→∀ c ∈ y.Routines,Y3 L (p,(i:Int),c,())=some (V i c))(seen:Seen) :
  Zt (XN p L) L (0,0,seen,())=some (rX V 0 p.Sites):=by
 have:=Zdg (f := XN p L) p.Sites.length (fun i=>(0,i,seen,())) (fun i=>some (rX V i (p.Sites.drop i))) (fun self i hi e=>by
  have hx:=List.getElem?_eq_getElem hi
  have mem:=List.getElem_mem hi
  rw [List.drop_eq_getElem_cons hi,rX]
  generalize p.Sites[i]=y at hx mem
  rw [XN]
  simp only [Zj hi,cond_true,Zg,hx,Zz,Zsi L p V self i seen seen y (hr y mem).1 (hr y mem).2 (hV i y hx),wrap_succ hi (by omega),e]
  by_cases a:Yk (V i) y.Routines=0 <;> simp [a]) (fun self=>by rw [XN,List.drop_length]; simp only [Zd,cond_false,rX]) L 0 (Nat.zero_le _) (by omega)
 rw [List.drop_zero] at this
 exact this
theorem ZtJ (L:Nat)(p:Zk)(V:Int→Wi→Int)(self:Int×Int×PUnit→Option Int)(i:Nat)(e0 n:Int)(y:ZN)(hy:p.Sites[i]? = some y)(hl:y.Routines.length≤4611686018427387)(hL:y.Routines.length < L)(hV:∀ c ∈ y.Routines,YU L (p,(i:Int),c,())=some (V i c)) :
  Zt (U2 p L self (e0,(i:Int),())) L (n,0,())=self (if decide (n=0)=true then Yk (V i) y.Routines else n,IntKind.i64.wrap ((i:Int) + 1),()):=by
 refine CE (f := U2 p L self (e0,(i:Int),())) y.Routines (fun l n=>self (if decide (n=0)=true then Yk (V i) l else n,IntKind.i64.wrap ((i:Int) + 1),())) hL n (fun self1 n j x r hx hi mem e=>?_) (fun self1 n=>?_)
 ·rw [U2]
  simp only [Zg,hy,Zz,Za,Zj hi,cond_true,hx,hV x mem,ZI,wrap_succ hi (by omega),e,Yk]
  by_cases a:n=0
  ·by_cases b:V i x=0 <;> simp [a,b]
  ·simp [a]
 ·rw [U2]
  simp only [Zg,hy,Zz,Zd,cond_false,Yk]
  by_cases a:n=0 <;> simp [a]
theorem Z0C (L:Nat)(p:Zk)(V:Int→Wi→Int)(h:p.Sites.length≤4611686018427387)(hL:p.Sites.length < L)(hr:∀ y ∈ p.Sites,y.Routines.length≤4611686018427387∧y.Routines.length < L)(hV:∀ (i:Nat) y,p.Sites[i]? = some y→∀ c ∈ y.Routines,YU L (p,(i:Int),c,())=some (V i c))(n:Int) :
  Zt (QV p L) L (n,0,())=some (if decide (n=0)=true then rX V 0 p.Sites else n):=by
 have key:∀ (m i:Nat) (n:Int),i≤p.Sites.length→p.Sites.length - i < m→Zt (QV p L) m (n,(i:Int),())=some (if decide (n=0)=true then rX V i (p.Sites.drop i) else n):=by
  intro m
  induction m with
  | zero=>intro i n _ h; exact absurd h (Nat.not_lt_zero _)
  | succ m ih =>
   intro i n hi hm
   show QV p L (Zt (QV p L) m) (n,(i:Int),())=_
   rcases Nat.lt_or_ge i p.Sites.length with hlt | hge
   ·have hx:=List.getElem?_eq_getElem hlt
    have mem:=List.getElem_mem hlt
    rw [List.drop_eq_getElem_cons hlt,rX]
    generalize p.Sites[i]=y at hx mem
    rw [QV]
    simp only [Zj hlt,cond_true,ZtJ L p V _ i n n y hx (hr y mem).1 (hr y mem).2 (hV i y hx),wrap_succ hlt (by omega)]
    rw [show ((i:Int) + 1)=((i + 1:Nat):Int) from rfl,ih (i + 1) _ hlt (by omega)]
    by_cases a:n=0
    ·by_cases b:Yk (V i) y.Routines=0 <;> simp [a,b]
    ·simp [a]
   ·have:i=p.Sites.length:=by omega
    subst this
    rw [QV,List.drop_length]; simp only [Zd,cond_false,rX]
    by_cases a:n=0 <;> simp [a]
 have:=key L 0 n (Nat.zero_le _) (by omega)
 rw [List.drop_zero] at this
 exact this
end Go.Proofs.YtgjcjbhhhlelnaaGreatDoor
end
section
namespace Go.Proofs.YtgjcjbhhhlelnaaGreatDoor
open Go Go.Proofs.YtgjcjbhhhlelnaaGreatDoor.Abs Go.Proofs.YtgjcjbhhhlelnaaGreatDoor.Tl
set_option maxRecDepth 100000
theorem ZnN (L:Nat)(h1:1000≤L)(p:Zk)(h:Gt p)(hL:2 * SizeOf.sizeOf p≤L):∃ v,WH L (p,())=some v∧VI L (p,())=some v:=by
 have h3:SizeOf.sizeOf p.Sites < SizeOf.sizeOf p∧SizeOf.sizeOf p.Name < SizeOf.sizeOf p∧SizeOf.sizeOf p.Links < SizeOf.sizeOf p:=by cases p; simp; omega
 have h4:=ZH p.Sites; have h5:=ZH p.Links; have h6:=ZH p.Name
 have hs:=h.Sites.1; have hl:=h.Links.1
 have hn1:=QD L p.Name (by have:=h.Name; unfold Len; omega) (by omega)
 have hn2:=JQ L p.Name (by have:=h.Name; unfold Len; omega) (by omega) (by omega)
 have hr:∀ y ∈ p.Sites,y.Routines.length≤4611686018427387∧y.Routines.length < L:=fun y mem=>by
  have hz:=Zxe p mem
  have:=(h.Sites.2 y mem).Routines.1
  have:=ZH y.Routines
  omega
 have hV:∀ (i:Nat) y,p.Sites[i]? = some y→∀ c ∈ y.Routines,Y3 L (p,(i:Int),c,())=some ((YU L (p,(i:Int),c,())).getD 0)∧YU L (p,(i:Int),c,())=some ((YU L (p,(i:Int),c,())).getD 0):=fun i y hy c hc=>by
  have mem:=List.mem_of_getElem? hy
  have hz:=Zxe p mem
  have:=List.sizeOf_lt_of_mem hc
  obtain ⟨v,e1,e2⟩:=ZaT L h1 p (by omega) (by omega) (i:Int) y (by rw [Zg]; exact hy) c ((h.Sites.2 y mem).Routines.2 c hc) (by omega)
  rw [e1,e2]; exact ⟨rfl,rfl⟩
 obtain ⟨V,hV'⟩:∃ V:Int→Wi→Int,∀ (i:Nat) y,p.Sites[i]? = some y→∀ c ∈ y.Routines,Y3 L (p,(i:Int),c,())=some (V i c)∧YU L (p,(i:Int),c,())=some (V i c):=⟨fun i c=>(YU L (p,i,c,())).getD 0,hV⟩
 have ca:=ZqU L p (by omega) (by omega)
 have ra:=Zwq L p (by omega) (by omega)
 generalize (if decide (32 < (p.Links.length:Int))=true then 6 else Nw p [] p.Links)=A at ca ra
 have c1:=Zp1 L h1 p h hL (by omega) (if decide (A=0)=true then rX V 0 p.Sites else A) (fun seen=>by
  rw [ca,Zz,Zxt L p V (by omega) (by omega) hr (fun i y hy c hc=>(hV' i y hy c hc).1) seen,ZA]
  by_cases a:A=0 <;> simp [a])
 have r1:=Zw4 L h1 p h hL (by omega) (if decide (A=0)=true then rX V 0 p.Sites else A) (by
  rw [ra,Zz,Z0C L p V (by omega) (by omega) hr (fun i y hy c hc=>(hV' i y hy c hc).2) A])
 refine ⟨_,by rw [ZaJ]; simp only [c1,hn1,Zz,ZI,ZA,Zl]; rfl,?_⟩
 rw [Zlz]; simp only [r1,hn2,Zz,ZI,ZA,Zl]
end Go.Proofs.YtgjcjbhhhlelnaaGreatDoor
end
section
namespace Go.Proofs.YtgjcjbhhhlelnaaGreatDoor
open Go Go.Proofs.YtgjcjbhhhlelnaaGreatDoor.Abs Go.Proofs.YtgjcjbhhhlelnaaGreatDoor.Tl
set_option maxRecDepth 100000
theorem Zi4 {α:Type}(V:α→Int):∀ l:List α,Yk V l=0→∀ c ∈ l,V c=0
 | [],_,c,h=>by cases h
 | x :: l,h,c,hc=>by
  rw [Yk] at h
  by_cases a:V x=0
  ·simp [a] at h
   rcases List.mem_cons.1 hc with rfl | hc
   ·exact a
   ·exact Zi4 V l h c hc
  ·simp [a] at h
theorem ZyU (V:Int→Wi→Int):∀ (l:List ZN) (i:Nat),rX V i l=0→∀ (k:Nat) y,l[k]? = some y→∀ c ∈ y.Routines,V ((i + k:Nat):Int) c=0
 | [],_,_,k,y,h=>by simp at h
 | x :: l,i,h,k,y,hy=>by
  rw [rX] at h
  split at h
  ·rename_i a; simp only [decide_eq_true_eq] at a; exact absurd h a
  ·rename_i a
   have a:Yk (V i) x.Routines=0:=by simpa using a
   cases k with
   | zero=>simp at hy; subst hy; exact Zi4 (V i) _ a
   | succ k =>
    have:=ZyU V l (i + 1) h k y (by simpa using hy)
    intro c hc
    have e:=this c hc
    rw [show i + (k + 1)=i + 1 + k by omega]; exact e
theorem Zmz (L:Nat)(h1:1000≤L)(p:Zk)(h:Gt p)(hL:2 * SizeOf.sizeOf p≤L)(e:WH L (p,())=some 0) :
  (1≤p.Sites.length∧p.Sites.length≤16)∧(p.Links.length≤32∧Nw p [] p.Links=0)∧∀ (i:Nat) y,p.Sites[i]? = some y→∀ c ∈ y.Routines,Y3 L (p,(i:Int),c,())=some 0:=by
 have h3:SizeOf.sizeOf p.Sites < SizeOf.sizeOf p∧SizeOf.sizeOf p.Name < SizeOf.sizeOf p∧SizeOf.sizeOf p.Links < SizeOf.sizeOf p:=by cases p; simp; omega
 have h4:=ZH p.Sites; have h5:=ZH p.Links; have h6:=ZH p.Name
 have hs:=h.Sites.1; have hl:=h.Links.1
 have hn1:=QD L p.Name (by have:=h.Name; unfold Len; omega) (by omega)
 have hr:∀ y ∈ p.Sites,y.Routines.length≤4611686018427387∧y.Routines.length < L:=fun y mem=>by
  have hz:=Zxe p mem
  have:=(h.Sites.2 y mem).Routines.1
  have:=ZH y.Routines
  omega
 obtain ⟨V,hV⟩:∃ V:Int→Wi→Int,∀ (i:Nat) y,p.Sites[i]? = some y→∀ c ∈ y.Routines,Y3 L (p,(i:Int),c,())=some (V i c):=⟨fun i c=>(Y3 L (p,i,c,())).getD 0,fun i y hy c hc=>by
  have mem:=List.mem_of_getElem? hy
  have hz:=Zxe p mem
  have:=List.sizeOf_lt_of_mem hc
  obtain ⟨v,e1,e2⟩:=ZaT L h1 p (by omega) (by omega) (i:Int) y (by rw [Zg]; exact hy) c ((h.Sites.2 y mem).Routines.2 c hc) (by omega)
  show _=some ((Y3 L (p,(i:Int),c,())).getD 0)
  rw [e1]; rfl⟩
 have ca:=ZqU L p (by omega) (by omega)
 generalize hA:(if decide (32 < (p.Links.length:Int))=true then 6 else Nw p [] p.Links)=A at ca
 have c1:=Zp1 L h1 p h hL (by omega) (if decide (A=0)=true then rX V 0 p.Sites else A) (fun seen=>by
  rw [ca,Zz,Zxt L p V (by omega) (by omega) hr hV seen,ZA]
  by_cases a:A=0 <;> simp [a])
 rw [ZaJ,hn1,Zz,c1] at e
 by_cases a1:V9 p.Name=0
 rotate_left
 ·rw [ZA,decide_eq_false a1] at e; exact absurd (Option.some.inj e) a1
 by_cases a2:(p.Sites.length:Int)=0
 ·simp [a1,a2] at e
 by_cases a3:(p.Sites.length:Int) > 16
 ·have a3':decide ((p.Sites.length:Int) > 16)=true:=by simpa using a3
  rw [a3',ZA,a1,ZI,decide_eq_false a2] at e; cases e
 have a3':decide ((p.Sites.length:Int) > 16)=false:=by simpa using a3
 rw [a3',ZA,a1,ZI,decide_eq_false a2] at e
 replace e:(if decide (Ku p.Name [] p.Sites≠0)=true then Ku p.Name [] p.Sites else if decide (A=0)=true then rX V 0 p.Sites else A)=0:=Option.some.inj e
 split at e
 ·rename_i b; simp only [decide_eq_true_eq] at b; exact absurd e b
 rename_i b
 have b:Ku p.Name [] p.Sites=0:=by simpa using b
 split at e
 rotate_left
 ·rename_i d; exact absurd e (by simpa using d)
 rename_i d
 have d:A=0:=by simpa using d
 rw [d] at hA
 refine ⟨⟨by omega,by omega⟩,?_,fun i y hy c hc=>?_⟩
 ·split at hA
  ·cases hA
  ·rename_i g; exact ⟨by simp at g; omega,hA⟩
 ·have:=ZyU V p.Sites 0 e i y hy c hc
  rw [Nat.zero_add] at this
  rw [hV i y hy c hc,this]
theorem Zkn (p:Zk):∀ (l:List UF) (s:List (Int×Int)),Nw p s l=0→∀ x ∈ l,(0≤x.From∧x.From < p.Sites.length∧0≤x.To∧x.To < p.Sites.length∧x.From≠x.To∧1≤x.Delay∧x.Delay≤1000000000)∧NT x ∉ s∧l.find? (fun y=>decide (y.From=x.From) && decide (y.To=x.To))=some x
 | [],_,_,x,h=>by cases h
 | y :: l,s,h,x,hx=>by
  rw [Nw] at h
  split at h
  ·cases h
  rename_i a
  split at h
  ·cases h
  rename_i b
  have a':0≤y.From∧y.From < p.Sites.length∧0≤y.To∧y.To < p.Sites.length∧y.From≠y.To∧1≤y.Delay∧y.Delay≤1000000000:=by
   simp only [Bool.or_eq_true,decide_eq_true_eq,not_or] at a; omega
  have b':NT y ∉ s:=fun m=>b (List.contains_iff_mem.2 m)
  rcases List.mem_cons.1 hx with rfl | hx
  ·exact ⟨a',b',by simp [List.find?_cons]⟩
  ·obtain ⟨c1,c2,c3⟩:=Zkn p l _ h x hx
   refine ⟨c1,fun m=>c2 (List.mem_append_left _ m),?_⟩
   have:(decide (y.From=x.From) && decide (y.To=x.To))=false:=by
    rw [← Bool.not_eq_true,Bool.and_eq_true,decide_eq_true_eq,decide_eq_true_eq]
    rintro ⟨d1,d2⟩
    exact c2 (List.mem_append_right _ (by simp [NT,d1,d2]))
   rw [List.find?_cons,this]; exact c3
end Go.Proofs.YtgjcjbhhhlelnaaGreatDoor
end
section
namespace Go.Proofs.YtgjcjbhhhlelnaaGreatDoor
open Go Go.Proofs.YtgjcjbhhhlelnaaGreatDoor.Abs Go.Proofs.YtgjcjbhhhlelnaaGreatDoor.Tl
set_option maxRecDepth 100000
def at_ (l:List Int)(i:Int):Int:=l.getD i.toNat 0
theorem ZpV (l:List Int)(i:Int)(h0:0≤i)(h1:i < l.length):ZL l i=some (at_ l i):=by
 rw [ZL,if_pos h0,at_,List.getD_eq_getElem?_getD,List.getElem?_eq_getElem (by omega)]; rfl
def ZpE (l:List Int)(m:List UF):List UF:=m.filter fun a=>at_ l a.From != at_ l a.To
def VL (m:List UF)(n:Nat):Prop:=∀ a ∈ m,0≤a.From∧a.From < n∧0≤a.To∧a.To < n
theorem Zsr (l:List Int)(m:List UF)(i:Nat)(x:UF)(h:m[i]? = some x):ZpE l (m.take (i + 1))=ZpE l (m.take i) ++ (if (at_ l x.From != at_ l x.To)=true then [x] else []):=by
 rw [ZpE,List.take_add_one,h,List.filter_append]; exact congrArg _ (List.filter_cons ..)
theorem ZpF (l:List Int)(m:List UF):(ZpE l m).length≤m.length:=List.length_filter_le _ _
theorem Zm3 (f:Zk→List Int→(List UF×Int×PUnit→Option (List UF))→List UF×Int×PUnit→Option (List UF))(hf:f=Qk)(L:Nat)(p:Zk)(l:List Int)(h:VL p.Links l.length)(hm:p.Links.length≤40)(hL:1000≤L) :
  Zt (f p l) L ([],0,())=some (ZpE l p.Links):=by
 subst hf
 have:=Zdg (f := Qk p l) p.Links.length (fun i=>(ZpE l (p.Links.take i.toNat),i,())) (fun _=>some (ZpE l p.Links)) (fun self i hi e=>by
  have hx:=List.getElem?_eq_getElem hi
  generalize p.Links[i]=x at hx
  obtain ⟨a1,a2,a3,a4⟩:=h x (List.mem_of_getElem? hx)
  have e1:(ZpE l (p.Links.take i)).length≤40:=Nat.le_trans (ZpF _ _) (by rw [List.length_take]; omega)
  have e2:apT 24 (ZpE l (p.Links.take i)) [x]=some (ZpE l (p.Links.take i) ++ [x]):=by rw [apT,if_pos (by simp only [List.length_singleton]; omega)]
  have ht:=Zsr l p.Links i x hx
  rw [show ((i:Int) + 1).toNat=i + 1 by omega,ht] at e
  rw [Qk]
  simp only [Int.toNat_natCast]
  simp only [Zj,Zd,cond_true,cond_false,Zg,Zz,Za,Zm,condC,Zi,Zh,Zl,ZI,ZR,ZA,hi,hx,ZpV l _ a1 a2,ZpV l _ a3 a4,e2,wrap_succ hi (by omega)]
  rw [ZA] at e
  by_cases c:at_ l x.From=at_ l x.To
  ·simp only [c,decide_true,Bool.not_true,cond_false,Bool.false_eq_true,if_false,List.append_nil] at e ⊢; exact e
  ·simp only [c,decide_false,Bool.not_false,cond_true,if_true] at e ⊢; exact e) (fun self=>by
  rw [Qk]; simp only [Int.toNat_natCast,List.take_length]; simp only [Zj,Zd,cond_true,cond_false,Zg,Zz,Za,Zm,condC,Zi,Zh,Zl,ZI,ZR,ZA]) L 0 (Nat.zero_le _) (by omega)
 exact this
def mnA:List UF→Int→Int
 | [],d=>d
 | x :: r,d=>mnA r (if x.Delay < d then x.Delay else d)
def Zuu:List UF→Int×Bool×PUnit
 | []=>(0,false,())
 | a :: r=>(mnA (a :: r) a.Delay,true,())
theorem ZfH (L:Nat)(c:List UF)(hc:c.length≤40)(hL:1000≤L)(d:Int):Zt (Qs c) L (d,0,())=some (mnA c d,true,()):=by
 refine CE (f := Qs c) c (fun l s=>some (mnA l s,true,())) (by omega) d (fun self s i x r hx hi mem e=>?_) (fun self s=>?_)
 ·rw [Qs]; simp only [Zj,Zd,cond_true,cond_false,Zg,Zz,Za,Zm,condC,Zi,Zh,Zl,ZI,ZR,ZA,hi,hx,wrap_succ hi (by omega),e,mnA]
 ·rw [Qs]; simp only [Zj,Zd,cond_true,cond_false,Zg,Zz,Za,Zm,condC,Zi,Zh,Zl,ZI,ZR,ZA,mnA]
theorem Zoh (L:Nat)(c:List UF)(hc:c.length≤40)(hL:1000≤L):Un L (c,c,())=some true:=by
 rw [ZeW,CB (f := Jm c c) c (fun _=>some true) (by omega) (fun self i x r hx hi mem e=>by
  rw [Jm]; simp only [Zj,Zd,cond_true,cond_false,Zg,Zz,Za,Zm,condC,Zi,Zh,Zl,ZI,ZR,ZA,hi,hx,wrap_succ hi (by omega),e]; simp) (fun self=>by rw [Jm]; simp only [Zj,Zd,cond_true,cond_false,Zg,Zz,Za,Zm,condC,Zi,Zh,Zl,ZI,ZR,ZA])]
 simp
theorem Zkl (v:Int)(a b:Nat)(r:Int):Vo v a b r=0↔v=0∧a=b∧r=0:=by
 unfold Vo
 by_cases h1:v=0
 ·by_cases h2:a=b
  ·simp [h1,h2]
  ·have:¬ (a:Int)=b:=by omega
   simp [h1,h2,this]
 ·simp [h1]
section
variable (L:Nat)(h1:1000≤L)(p:Zk)(h:Gt p)(hL:2 * SizeOf.sizeOf p≤L)
include h1 h hL
theorem Zoo:∃ v,WH L (p,())=some v∧∀ l:List Int,l.length≤40→QK L (p,l,())=some (Vo v l.length p.Sites.length (pcA l WB 0))∧H5 L (p,l,())=some (Vo v l.length p.Sites.length (pcA l WB 0)):=by
 obtain ⟨v,e1,e2⟩:=ZnN L h1 p h hL
 refine ⟨v,e1,fun l hl=>⟨?_,?_⟩⟩
 ·show bT (WH L (p,())) _=_
  rw [e1,Zz]
  exact if_pos ⟨by show l.length < L; omega,by show l.length < 4611686018427387904; omega⟩
 ·show bT (VI L (p,())) _=_
  rw [e2,Zz]
  refine (if_pos ⟨by show l.length < L; omega,by show l.length < 4611686018427387904; omega⟩).trans (congrArg some ?_)
  show Vo v l.length p.Sites.length (rcA l WB 0)=_
  by_cases hv:v=0
  ·subst hv
   by_cases hn:l.length=p.Sites.length
   ·rw [Ziu l]
    rintro rfl
    have:=(Zmz L h1 p h hL e1).1
    simp at hn
    omega
   ·have:¬ (l.length:Int)=p.Sites.length:=by omega
    simp [Vo,this]
  ·simp [Vo,hv]
theorem Zvv {v:Int}(e:WH L (p,())=some v){l:List Int}(hw:Vo v l.length p.Sites.length (pcA l WB 0)=0):VL p.Links l.length∧Good l∧l≠[]∧l.length=p.Sites.length∧p.Links.length≤32∧v=0∧∀ a ∈ p.Links,1≤a.Delay:=by
 obtain ⟨rfl,h2,h3⟩:=(Zkl _ _ _ _).1 hw
 have hk:=Zmz L h1 p h hL e
 have hne:l≠[]:=by rintro rfl; have:=hk.1; simp at h2; omega
 refine ⟨fun a ha=>?_,(Zs7 l hne).1 h3,hne,h2,hk.2.1.1,rfl,fun a ha=>?_⟩
 ·have:=(Zkn p p.Links [] hk.2.1.2 a ha).1
  rw [h2]; exact ⟨this.1,this.2.1,this.2.2.1,this.2.2.2.1⟩
 ·exact (Zkn p p.Links [] hk.2.1.2 a ha).1.2.2.2.2.2.1
def Zvg (w:Int)(l:List Int)(m:List UF):List UF:=if w=0 then ZpE l m else []
theorem Zt7 {v:Int}(e:WH L (p,())=some v)(l:List Int)(hl:l.length≤40)(hpl:p.Links.length≤40)(k:QK L (p,l,())=some (Vo v l.length p.Sites.length (pcA l WB 0))∧H5 L (p,l,())=some (Vo v l.length p.Sites.length (pcA l WB 0))) :
  QL L (p,l,())=some (Zvg (Vo v l.length p.Sites.length (pcA l WB 0)) l p.Links)∧OH L (p,l,())=some (Zvg (Vo v l.length p.Sites.length (pcA l WB 0)) l p.Links):=by
 have hg:=@Zvv L h1 p h hL v e l
 rw [Zd5,Zrp,k.1,k.2,Zz,Zz]
 generalize Vo v l.length p.Sites.length (pcA l WB 0)=w at hg
 rw [ZA]
 by_cases hw:w=0
 ·have hv:=(hg hw).1
  rw [Zm3 Qk rfl L p l hv hpl h1,Zm3 ZfX rfl L p l hv hpl h1]
  simp [hw,Zvg]
 ·simp [hw,Zvg]
omit h1 h hL in
theorem Zsq (w:Int)(l:List Int)(m:List UF):(Zvg w l m).length≤m.length:=by
 unfold Zvg; split
 ·exact ZpF l m
 ·exact Nat.zero_le _
omit h hL in
theorem Zop (l:List Int)(c:List UF)(hc:c.length≤40)(k:QL L (p,l,())=some c∧OH L (p,l,())=some c):XW L (p,l,())=some (Zuu c)∧MO L (p,l,())=some (Zuu c):=by
 rw [CS,Zl7,k.1,k.2,Zz,Zz]
 cases c with
 | nil=>exact ⟨rfl,rfl⟩
 | cons a r =>
  have e:ZL (a :: r) 0=some a:=rfl
  have e0:((((a :: r).length:Nat):Int) == 0)=false:=by rw [ZI]; simp; omega
  rw [e,Zz,Zz,e0,cond_false,cond_false]
  exact ⟨ZfH L _ hc h1 _,ZfH L _ hc h1 _⟩
theorem RN (l:List Int):Xg L (p,l,())=some true:=by
 rw [Tm,Zlf,Zz]
 by_cases hf:(decide ((p.2.length:Int)≤20) && decide ((p.3.length:Int)≤40) && decide ((l.length:Int)≤40))=true
 ·have hf':=hf
  simp only [Bool.and_eq_true,decide_eq_true_eq] at hf'
  obtain ⟨⟨f1,f2⟩,f3⟩:=hf'
  obtain ⟨v,e,hc⟩:=Zoo L h1 p h hL
  have k:=hc l (by omega)
  have kc:=Zt7 L h1 p h hL e l (by omega) (by omega) k
  have hlen:=Zsq (Vo v l.length p.Sites.length (pcA l WB 0)) l p.Links
  have h40:(Zvg (Vo v l.length p.Sites.length (pcA l WB 0)) l p.Links).length≤40:=Nat.le_trans hlen (by omega)
  have kl:=Zop L h1 p l _ h40 kc
  have ks:=Zoh L _ h40 h1
  rw [hf,k.1,k.2,kc.1,kc.2,kl.1,kl.2]
  simp only [Zz,ks]
  simp [Zz]
 ·rw [Bool.not_eq_true] at hf
  rw [hf]; rfl
end
end Go.Proofs.YtgjcjbhhhlelnaaGreatDoor
end
