import Derived.Test.YtgjcjbhhhlelnaaGreatDoorHCu15
set_option linter.all false
section
namespace Go.Proofs.YtgjcjbhhhlelnaaGreatDoor
open Go Go.Proofs.YtgjcjbhhhlelnaaGreatDoor.Abs Go.Proofs.YtgjcjbhhhlelnaaGreatDoor.Tl
set_option maxRecDepth 100000
theorem Zdh {α:Type}(nm:α→List UInt8)(s:List UInt8)(l:List α):decide (GU (fun x=>decide (nm x=s)) l 0 ≥ 0)=(l.map nm).contains s:=by
 rw [show decide (GU (fun x=>decide (nm x=s)) l 0 ≥ 0)=_ from CJ _ l 0 (Int.le_refl _),← Zm9,List.any_map]
 congr 1; funext x; exact decide_eq_decide.2 ⟨Eq.symm,Eq.symm⟩
theorem Jw (d:Ze):SizeOf.sizeOf d.Name < SizeOf.sizeOf d∧SizeOf.sizeOf d.Vars < SizeOf.sizeOf d∧SizeOf.sizeOf d.Resources < SizeOf.sizeOf d∧SizeOf.sizeOf d.Stores < SizeOf.sizeOf d∧SizeOf.sizeOf d.Belts < SizeOf.sizeOf d∧SizeOf.sizeOf d.Queues < SizeOf.sizeOf d∧SizeOf.sizeOf d.Streams < SizeOf.sizeOf d∧SizeOf.sizeOf d.Tallies < SizeOf.sizeOf d∧SizeOf.sizeOf d.Levels < SizeOf.sizeOf d∧SizeOf.sizeOf d.Counts < SizeOf.sizeOf d∧SizeOf.sizeOf d.Routines < SizeOf.sizeOf d∧SizeOf.sizeOf d.Starts < SizeOf.sizeOf d∧SizeOf.sizeOf d.Laws < SizeOf.sizeOf d:=by
 cases d; simp; omega
structure Sh (L:Nat)(d:Ze):Prop where
 nm:d.Name.length < L
 vars:d.Vars.length < L
 res:d.Resources.length < L
 sto:d.Stores.length < L
 bel:d.Belts.length < L
 que:d.Queues.length < L
 str:d.Streams.length < L
 tal:d.Tallies.length < L
 lev:d.Levels.length < L
 cnt:d.Counts.length < L
 rou:d.Routines.length < L
 sta:d.Starts.length < L
 law:d.Laws.length < L
theorem Sh.of {L:Nat}{d:Ze}(h:SizeOf.sizeOf d≤L):Sh L d:=by
 have:=Jw d
 constructor
 ·have:=ZI d.Name; omega
 ·have:=ZI d.Vars; omega
 ·have:=ZI d.Resources; omega
 ·have:=ZI d.Stores; omega
 ·have:=ZI d.Belts; omega
 ·have:=ZI d.Queues; omega
 ·have:=ZI d.Streams; omega
 ·have:=ZI d.Tallies; omega
 ·have:=ZI d.Levels; omega
 ·have:=ZI d.Counts; omega
 ·have:=ZI d.Routines; omega
 ·have:=ZI d.Starts; omega
 ·have:=ZI d.Laws; omega
theorem Zpd (L:Nat)(d:Ze)(t:Oh)(h:ZG d)(hL:d.Stores.length < L):Zp (XW d t) L (0,())=some (GU (fun x:Yx=>decide (x.Name=t.Name)) d.Stores 0):=by
 have:=h.st
 exact ZkI d.Stores (fun l i=>some (GU (fun x:Yx=>decide (x.Name=t.Name)) l i)) hL (fun self i x r hx hi _ e=>by
  rw [XW]; simp only [Zj,Zc,cond_true,cond_false,Zg,Zx,Za,Zm,condC,Zi,Zh,Zl,ZH,ZP,Z5,hi,hx,wrap_succ hi (by omega),e,GU]; simp only [Yu,Xu,if_true,if_false,Bool.false_eq_true,ne_eq,decide_not,gt_iff_lt,ge_iff_le]) (fun self=>by rw [XW]; simp only [Zj,Zc,cond_true,cond_false,Zg,Zx,Za,Zm,condC,Zi,Zh,Zl,ZH,ZP,Z5,GU])
theorem Zzb (L:Nat)(d:Ze)(t:Oh)(h:ZG d)(hs:Sh L d):IB L (d,t,())=some (Zfm d t):=by
 have:=h.st
 have sl:=Zpd L d t h hs.sto
 rw [Zjx,show Ai=XW from rfl,show Aj=XW from rfl]
 simp only [Zj,Zc,cond_true,cond_false,Zg,Zx,Za,Zm,condC,Zi,Zh,Zl,ZH,ZP,Z5,ZfX L d t.Name (by unfold Len; omega) hs.rou,sl,ZfW L d.Counts t.Name (by unfold Len; omega) hs.cnt,U6,Zdh,Zfm,Zfn]; simp only [Yu,Xu,if_true,if_false,Bool.false_eq_true,ne_eq,decide_not,gt_iff_lt,ge_iff_le]
theorem Z1r {l:List ZeF}{x:ZeF}(h:x ∈ l):x.Terms.length < SizeOf.sizeOf l∧x.Name.length < SizeOf.sizeOf l:=by
 have:=List.sizeOf_lt_of_mem h
 have h1:=ZI x.Terms; have h2:=ZI x.Name
 have:SizeOf.sizeOf x.Terms < SizeOf.sizeOf x∧SizeOf.sizeOf x.Name < SizeOf.sizeOf x:=by cases x; simp; omega
 omega
theorem SQ {α σ:Type}(f:α→Int)(s:σ):∀ l:List α,YO (fun x s=>(f x,s)) l s=(Yk f l,s)
 | []=>rfl
 | x :: l=>by rw [YO,SQ f s l,Yk]; split <;> rfl
theorem ZyW (L:Nat)(d:Ze)(h:ZG d)(hL:SizeOf.sizeOf d≤L):I9 L (d,())=some (DY d):=by
 have hs:=Sh.of hL
 have hz:=Jw d
 have hl:d.Laws.length≤4611686018427387:=by have:=h.Laws.1; omega
 have lp:=ZgX (f := KQ d L) d.Laws (fun l:ZeF=>Yy l.Name (ZrX d l)) hs.law ([]:Seen) (fun self s i x hx hi mem=>by
  have hsz:=Z1r mem
  have ok:=h.Laws.2 x mem
  have hn:=QK L x.Name (by have:=ok.Name; unfold Len; omega) (by omega)
  have ht:=ok.t
  have tl:=fun s:Seen=>ZgX (f := KP d L x) x.Terms (fun t s=>(Zfm d t,s)) (show x.Terms.length < L by omega) s (fun self s i t hx hi mem=>by
   rw [KP]; simp only [Zj,Zc,cond_true,cond_false,Zg,Zx,Za,Zm,condC,Zi,Zh,Zl,ZH,ZP,Z5,hi,hx,Zzb L d t h hs,wrap_succ hi (by omega)]) (fun self s=>by rw [KP]; simp only [Zj,Zc,cond_true,cond_false,Zg,Zx,Za,Zm,condC,Zi,Zh,Zl,ZH,ZP,Z5])
  simp only [SQ] at tl
  rw [KQ]
  simp only [Zj,cond_true,Zg,Zx,Z5,KN,hi,hx,hn]
  simp only [Zj,Zc,cond_true,cond_false,Zg,Zx,Za,Zm,condC,Zi,Zh,Zl,ZH,ZP,Z5,Z0H,tl,wrap_succ hi (by omega)]
  simp only [Yy,ZrX,NK]
  by_cases a:(YC x.Name s).1=0 <;> by_cases b:x.Terms=[] <;> by_cases c:8 < (x.Terms.length:Int) <;> by_cases e:Yk (Zfm d) x.Terms=0 <;> rcases Bool.eq_false_or_eq_true (inB x.Total) with g | g <;> simp [a,b,c,e,g,Zx])
  (fun self s=>by rw [KQ]; simp only [Zj,Zc,cond_true,cond_false,Zg,Zx,Za,Zm,condC,Zi,Zh,Zl,ZH,ZP,Z5])
 rw [Zjv,GM 32 (fun l:ZeF=>Yy l.Name (ZrX d l)) d.Laws [] lp,Zx]
 rfl
end Go.Proofs.YtgjcjbhhhlelnaaGreatDoor
end
section
namespace Go.Proofs.YtgjcjbhhhlelnaaGreatDoor
open Go Go.Proofs.YtgjcjbhhhlelnaaGreatDoor.Abs Go.Proofs.YtgjcjbhhhlelnaaGreatDoor.Tl
set_option maxRecDepth 100000
theorem Zt7 (L:Nat)(a b:List WP)(h:a.length + b.length≤1000)(hL:2 < L):Yf L ([a,b],())=some (a ++ b):=by
 have w1:IntKind.i64.wrap (0 + (a.length:Int))=a.length:=by rw [Int.zero_add]; exact wrap_in (by omega) (by omega)
 have w2:IntKind.i64.wrap ((a.length:Int) + b.length)=(a.length:Int) + b.length:=wrap_in (by omega) (by omega)
 have n1:decide ((a.length:Int) < 0)=false:=by simp only [decide_eq_false_iff_not]; omega
 have n2:decide ((a.length:Int) + b.length < 0)=false:=by simp only [decide_eq_false_iff_not]; omega
 have g:ZsH [] ((a.length:Int) + b.length)=some []:=by unfold ZsH; rw [if_pos ⟨rfl,by omega,by omega⟩]
 have p1:apT 24 [] a=some a:=by unfold apT; rw [if_pos (by simp only [List.length_nil]; omega)]; rfl
 have p2:apT 24 a b=some (a ++ b):=by unfold apT; rw [if_pos (by omega)]
 rw [Vm,ZeU _ hL]
 simp only [WR,two,w01,Zx,cond_true,cond_false,w1,w2,n1,n2,g,ZeU (Y4 _) hL,Y4,p1,p2]
theorem Z08 {α σ:Type}{f:(Int×σ×PUnit→Option Int)→Int×σ×PUnit→Option Int}(l:List α)(step:α→σ→Int×σ)(e:Int){m:Nat}(hm:l.length < m)(s:σ)
  (h1:∀ self s (i:Nat) x,l[i]? = some x→i < l.length→x ∈ l→f self ((i:Int),s,())=bif !decide ((step x s).1=0) then some (step x s).1 else self ((i:Int) + 1,(step x s).2,()))
  (h2:∀ self s,f self ((l.length:Int),s,())=some e):Zp f m (0,s,())=some (if decide ((YO step l s).1≠0)=true then (YO step l s).1 else e) :=
 ZiR l (fun s i=>(i,s,())) (fun l s=>some (if decide ((YO step l s).1≠0)=true then (YO step l s).1 else e)) (fun self s i x r hx hi mem e=>by
  rw [h1 self s i x hx hi mem,e,YO]
  by_cases c:(step x s).1=0 <;> simp [c]) (fun self s=>by rw [h2]; rfl) m 0 s (Nat.zero_le _) (by omega)
theorem ZzI {l:List WP}{x:WP}(h:x ∈ l):x.Name.length < SizeOf.sizeOf l:=by
 have:=List.sizeOf_lt_of_mem h
 have h2:=ZI x.Name
 have:SizeOf.sizeOf x.Name < SizeOf.sizeOf x:=by cases x; simp; omega
 omega
theorem ZuN (r:ZU):SizeOf.sizeOf r.Name < SizeOf.sizeOf r∧SizeOf.sizeOf r.Params < SizeOf.sizeOf r∧SizeOf.sizeOf r.Locals < SizeOf.sizeOf r∧SizeOf.sizeOf r.Body < SizeOf.sizeOf r:=by cases r; simp; omega
theorem Zrk (L:Nat)(h1:100≤L)(r:ZU)(h:Og r)(hL:SizeOf.sizeOf r≤L):J3 L (r,())=some (X8 r):=by
 have hz:=ZuN r
 have hp:=h.p
 have hw:IntKind.i64.wrap ((r.Params.length:Int) + (r.Locals.length:Int))=(r.Params.length:Int) + (r.Locals.length:Int):=wrap_in (by omega) (by omega)
 rw [ZdC,hw,X8]
 by_cases hc:6 < (r.Params.length:Int)∨16 < (r.Params.length:Int) + (r.Locals.length:Int)
 ·rw [if_pos (by simpa using hc),show (decide ((r.Params.length:Int) > 6) || decide ((r.Params.length:Int) + (r.Locals.length:Int) > 16))=true by simpa using hc]; rfl
 ·have hf:(decide ((r.Params.length:Int) > 6) || decide ((r.Params.length:Int) + (r.Locals.length:Int) > 16))=false:=by
   simp only [Bool.or_eq_false_iff,decide_eq_false_iff_not]; omega
  have hf':¬ ((decide (6 < (r.Params.length:Int)) || decide (16 < (r.Params.length:Int) + (r.Locals.length:Int)))=true):=by simpa using hc
  rw [if_neg hf',hf,cond_false,Zt7 L _ _ (by omega) (by omega),Zx]
  have hlen:(r.Params ++ r.Locals).length≤16:=by rw [List.length_append]; omega
  exact Z08 (f := V6 r L (r.Params ++ r.Locals)) (r.Params ++ r.Locals) (fun f:WP=>Yy f.Name (ZcZ f)) (ZaM r.Body) (by omega) [] (fun self s i x hx hi mem=>by
   have ok:Zcc x∧x.Name.length < L:=by
    rcases List.mem_append.1 mem with m | m
    ·exact ⟨h.Params.2 x m,by have:=ZzI m; omega⟩
    ·exact ⟨h.Locals.2 x m,by have:=ZzI m; omega⟩
   have hn:=QK L x.Name (by have:=ok.1.Name; unfold Len; omega) ok.2
   rw [V6]
   simp only [Zj,cond_true,Zg,Zx,Z5,KN,hi,hx,hn]
   simp only [Zj,Zc,cond_true,cond_false,Zg,Zx,Za,Zm,condC,Zi,Zh,Zl,ZH,ZP,Z5,Znp,wrap_succ hi (by omega)]
   simp only [Yy,ZcZ]
   by_cases a:(YC x.Name s).1=0 <;> rcases Bool.eq_false_or_eq_true (btw x.Ty 1 3) with g | g <;> simp [a,g]) (fun self s=>by
   rw [V6]; simp only [Zj,Zc,cond_true,cond_false,Zg,Zx,Za,Zm,condC,Zi,Zh,Zl,ZH,ZP,Z5,ZtF L h1 r.Body h.p.2.2 (by omega)])
theorem Zpk {α:Type}[SizeOf α](g:α→List UInt8)(hg:∀ x,SizeOf.sizeOf (g x) < SizeOf.sizeOf x){l:List α}{x:α}(h:x ∈ l):(g x).length < SizeOf.sizeOf l∧SizeOf.sizeOf x < SizeOf.sizeOf l:=by
 have h1:=List.sizeOf_lt_of_mem h
 have h2:=ZI (g x)
 have h3:=hg x
 omega
theorem Zqz (L:Nat)(d:Ze)(h:d.Queues.length * 16≤140737488351232∧∀ y ∈ d.Queues,y.length≤140737488351232)(hL:SizeOf.sizeOf d.Queues≤L)(s:Seen):Zp (KZ d L) L (0,s,())=some ((YO YC d.Queues s).1,(YO YC d.Queues s).2,()):=by
 have hk:=ZI d.Queues
 refine ZgX d.Queues YC (by omega) s (fun self s i x hx hi mem=>?_) (fun self s=>by rw [KZ]; simp only [Zj,Zc,cond_true,cond_false,Zg,Zx,Za,Zm,condC,Zi,Zh,Zl,ZH,ZP,Z5])
 have h1:=List.sizeOf_lt_of_mem mem
 have hn:=QK L x (by have:=h.2 x mem; unfold Len; omega) (by have:=ZI x; omega)
 rw [KZ]
 simp only [Zj,cond_true,Zg,Zx,Z5,KN,hi,hx,hn]
 simp only [Zj,Zc,cond_true,cond_false,Zg,Zx,Za,Zm,condC,Zi,Zh,Zl,ZH,ZP,Z5,wrap_succ hi (by omega)]
theorem Zyf (L:Nat)(d:Ze)(h:ZG d)(hL:SizeOf.sizeOf d≤L)(s:Seen):Zp (KU d L) L (0,s,())=some ((YO (fun v:VT=>Yy v.Name (LH v)) d.Vars s).1,(YO (fun v:VT=>Yy v.Name (LH v)) d.Vars s).2,()):=by
 have hz:=Jw d
 have hs:=Sh.of hL
 have hl:=h.Vars.1
 refine ZgX d.Vars _ hs.vars s (fun self s i x hx hi mem=>?_) (fun self s=>by rw [KU]; simp only [Zj,Zc,cond_true,cond_false,Zg,Zx,Za,Zm,condC,Zi,Zh,Zl,ZH,ZP,Z5])
 have hm:=Zpk (fun v:VT=>v.Name) (fun x=>by cases x; simp; omega) mem
 have hn:=QK L x.Name (by have:=(h.Vars.2 x mem).Name; unfold Len; omega) (by omega)
 rw [KU]
 simp only [Zj,cond_true,Zg,Zx,Z5,KN,hi,hx,hn]
 simp only [Zj,Zc,cond_true,cond_false,Zg,Zx,Za,Zm,condC,Zi,Zh,Zl,ZH,ZP,Z5,Znp,ZuE,wrap_succ hi (by omega)]
 simp only [Yy,LH]
 by_cases a:(YC x.Name s).1=0 <;> rcases Bool.eq_false_or_eq_true (btw x.Ty 1 3) with g | g <;> rcases Bool.eq_false_or_eq_true (fitsT x.Ty x.N) with g' | g' <;> simp [a,g,g']
theorem Z00 (L:Nat)(h1:100≤L)(d:Ze)(h:ZG d)(hL:SizeOf.sizeOf d≤L)(s:Seen):Zp (KW d L) L (0,s,())=some ((YO (fun v:Zv=>Yy v.Name (ZoK d v)) d.Resources s).1,(YO (fun v:Zv=>Yy v.Name (ZoK d v)) d.Resources s).2,()):=by
 have hz:=Jw d
 have hs:=Sh.of hL
 have hl:=h.Resources.1
 refine ZgX d.Resources _ hs.res s (fun self s i x hx hi mem=>?_) (fun self s=>by rw [KW]; simp only [Zj,Zc,cond_true,cond_false,Zg,Zx,Za,Zm,condC,Zi,Zh,Zl,ZH,ZP,Z5])
 have hm:=Zpk (fun v:Zv=>v.Name) (fun x=>by cases x; simp; omega) mem
 have ok:=h.Resources.2 x mem
 have hx2:SizeOf.sizeOf x.Fault < SizeOf.sizeOf x∧SizeOf.sizeOf x.Shift < SizeOf.sizeOf x:=by cases x; simp; omega
 have hsh:=ZI x.Shift
 have hn:=QK L x.Name (by have:=ok.Name; unfold Len; omega) (by omega)
 rw [KW]
 simp only [Zj,cond_true,Zg,Zx,Z5,KN,hi,hx,hn]
 simp only [Zj,Zc,cond_true,cond_false,Zg,Zx,Za,Zm,condC,Zi,Zh,Zl,ZH,ZP,Z5,U6,Zoy L x ok (by omega),Zou L d h hL x.Fault ok.Fault (by omega) h1,wrap_succ hi (by omega)]
 simp only [Yy,ZoK]
 by_cases a:(YC x.Name s).1=0 <;> rcases Bool.eq_false_or_eq_true (btw x.Units 0 1000) with g | g <;> by_cases b:Zsc x=0 <;> simp [a,g,b]
theorem Z03 (L:Nat)(d:Ze)(h:ZG d)(hL:SizeOf.sizeOf d≤L)(s:Seen):Zp (KX d L) L (0,s,())=some ((YO (fun v:Yx=>Yy v.Name (L8 v)) d.Stores s).1,(YO (fun v:Yx=>Yy v.Name (L8 v)) d.Stores s).2,()):=by
 have hz:=Jw d
 have hs:=Sh.of hL
 have hl:=h.Stores.1
 refine ZgX d.Stores _ hs.sto s (fun self s i x hx hi mem=>?_) (fun self s=>by rw [KX]; simp only [Zj,Zc,cond_true,cond_false,Zg,Zx,Za,Zm,condC,Zi,Zh,Zl,ZH,ZP,Z5])
 have hm:=Zpk (fun v:Yx=>v.Name) (fun x=>by cases x; simp; omega) mem
 have hn:=QK L x.Name (by have:=(h.Stores.2 x mem).Name; unfold Len; omega) (by omega)
 rw [KX]
 simp only [Zj,cond_true,Zg,Zx,Z5,KN,hi,hx,hn]
 simp only [Zj,Zc,cond_true,cond_false,Zg,Zx,Za,Zm,condC,Zi,Zh,Zl,ZH,ZP,Z5,U6,wrap_succ hi (by omega)]
 simp only [Yy,L8]
 by_cases a:(YC x.Name s).1=0 <;> rcases Bool.eq_false_or_eq_true (btw x.Room 1 1000) with g | g <;> by_cases b:x.Policy < 1 <;> by_cases c:3 < x.Policy <;> simp [a,g,b,c]
theorem Z0y (L:Nat)(d:Ze)(h:ZG d)(hL:SizeOf.sizeOf d≤L)(s:Seen):Zp (KY d L) L (0,s,())=some ((YO (fun v:Wn=>Yy v.Name (Zbz v)) d.Belts s).1,(YO (fun v:Wn=>Yy v.Name (Zbz v)) d.Belts s).2,()):=by
 have hz:=Jw d
 have hs:=Sh.of hL
 have hl:=h.Belts.1
 refine ZgX d.Belts _ hs.bel s (fun self s i x hx hi mem=>?_) (fun self s=>by rw [KY]; simp only [Zj,Zc,cond_true,cond_false,Zg,Zx,Za,Zm,condC,Zi,Zh,Zl,ZH,ZP,Z5])
 have hm:=Zpk (fun v:Wn=>v.Name) (fun x=>by cases x; simp; omega) mem
 have hn:=QK L x.Name (by have:=(h.Belts.2 x mem).Name; unfold Len; omega) (by omega)
 rw [KY]
 simp only [Zj,cond_true,Zg,Zx,Z5,KN,hi,hx,hn]
 simp only [Zj,Zc,cond_true,cond_false,Zg,Zx,Za,Zm,condC,Zi,Zh,Zl,ZH,ZP,Z5,U6,wrap_succ hi (by omega)]
 simp only [Yy,Zbz]
 by_cases a:(YC x.Name s).1=0 <;> rcases Bool.eq_false_or_eq_true (btw x.Length 1 1000) with g | g <;> rcases Bool.eq_false_or_eq_true (btw x.Step 1 1000) with g' | g' <;> simp [a,g,g']
theorem Z01 (L:Nat)(h1:100≤L)(d:Ze)(h:ZG d)(hL:SizeOf.sizeOf d≤L)(s:Seen):Zp (Gf d L) L (0,s,())=some ((YO (fun v:ZU=>Yy v.Name (X8 v)) d.Routines s).1,(YO (fun v:ZU=>Yy v.Name (X8 v)) d.Routines s).2,()):=by
 have hz:=Jw d
 have hs:=Sh.of hL
 have hl:=h.Routines.1
 refine ZgX d.Routines _ hs.rou s (fun self s i x hx hi mem=>?_) (fun self s=>by rw [Gf]; simp only [Zj,Zc,cond_true,cond_false,Zg,Zx,Za,Zm,condC,Zi,Zh,Zl,ZH,ZP,Z5])
 have hm:=Zpk (fun v:ZU=>v.Name) (fun x=>by cases x; simp; omega) mem
 have ok:=h.Routines.2 x mem
 have hn:=QK L x.Name (by have:=ok.Name; unfold Len; omega) (by omega)
 rw [Gf]
 simp only [Zj,cond_true,Zg,Zx,Z5,KN,hi,hx,hn]
 simp only [Zj,Zc,cond_true,cond_false,Zg,Zx,Za,Zm,condC,Zi,Zh,Zl,ZH,ZP,Z5,Zrk L h1 x ok (by omega),wrap_succ hi (by omega)]
 simp only [Yy]
 by_cases a:(YC x.Name s).1=0 <;> simp [a]
theorem Z02 (L:Nat)(d:Ze)(h:ZG d)(hL:SizeOf.sizeOf d≤L)(s:Seen):Zp (Xv d L) L (0,s,())=some (Yk (VZ d) d.Starts,s,()):=by
 have hz:=Jw d
 have hs:=Sh.of hL
 have hl:=h.Starts.1
 have:=ZgX (f := Xv d L) d.Starts (fun x s=>(VZ d x,s)) hs.sta s (fun self s i x hx hi mem=>by
  have hm:=Zpk (fun v:X0=>v.Routine) (fun x=>by cases x; simp; omega) mem
  have hx2:SizeOf.sizeOf x.Args < SizeOf.sizeOf x:=by cases x; simp; omega
  have ha:=ZI x.Args
  rw [Xv]
  simp only [Zj,Zc,cond_true,cond_false,Zg,Zx,Za,Zm,condC,Zi,Zh,Zl,ZH,ZP,Z5,hi,hx,Zw5 L d h hs.rou x (h.Starts.2 x mem) (by omega),wrap_succ hi (by omega)]) (fun self s=>by rw [Xv]; simp only [Zj,Zc,cond_true,cond_false,Zg,Zx,Za,Zm,condC,Zi,Zh,Zl,ZH,ZP,Z5])
 rw [SQ] at this
 exact this
theorem BB {σ:Type}(P:Int×σ)(r:List (σ→Int×σ)){X:Option (Int×σ×PUnit)}(h:X=some ((D6 r P.2).1,(D6 r P.2).2,()))(f:σ→Int×σ)(s:σ)(hP:f s=P):(bif P.1 != 0 then some (P.1,P.2,()) else X)=some ((D6 (f :: r) s).1,(D6 (f :: r) s).2,()):=by
 subst h; subst hP
 rw [D6]
 by_cases c:(f s).1=0 <;> simp [c,Z5]
theorem Zza (L:Nat)(h1:100≤L)(d:Ze)(h:ZG d)(hL:SizeOf.sizeOf d≤L):IA L (d,())=some (ZhT d):=by
 have hz:=Jw d
 have e0:=fun s=>GM 32 (fun v:VT=>Yy v.Name (LH v)) d.Vars s (Zyf L d h hL s)
 have e1:=fun s=>GM 32 (fun v:Zv=>Yy v.Name (ZoK d v)) d.Resources s (Z00 L h1 d h hL s)
 have e2:=fun s=>GM 32 (fun v:Yx=>Yy v.Name (L8 v)) d.Stores s (Z03 L d h hL s)
 have e3:=fun s=>GM 32 (fun v:Wn=>Yy v.Name (Zbz v)) d.Belts s (Z0y L d h hL s)
 have e4:=fun s=>GM 32 YC d.Queues s (Zqz L d h.Queues (by omega) s)
 have e5:=fun s:Seen=>GM 32 YC d.Streams s (show Zp (Ae d L) L (0,s,())=_ from Zqz L { d with Queues:=d.Streams } h.Streams (show SizeOf.sizeOf d.Streams≤L by omega) s)
 have e6:=fun s:Seen=>GM 32 YC d.Tallies s (show Zp (Af d L) L (0,s,())=_ from Zqz L { d with Queues:=d.Tallies } h.Tallies (show SizeOf.sizeOf d.Tallies≤L by omega) s)
 have e7:=fun s:Seen=>GM 32 YC d.Levels s (show Zp (Ag d L) L (0,s,())=_ from Zqz L { d with Queues:=d.Levels } h.Levels (show SizeOf.sizeOf d.Levels≤L by omega) s)
 have e8:=fun s:Seen=>GM 32 YC d.Counts s (show Zp (Ah d L) L (0,s,())=_ from Zqz L { d with Queues:=d.Counts } h.Counts (show SizeOf.sizeOf d.Counts≤L by omega) s)
 have e9:=fun s=>GM 16 (fun v:ZU=>Yy v.Name (X8 v)) d.Routines s (Z01 L h1 d h hL s)
 have ea:∀ s:Seen,(bif decide ((d.Starts.length:Int) > 32) then some (6,s,()) else Zp (Xv d L) L (0,s,()))=some (NK 32 (VZ d) d.Starts,s,()):=fun s=>by
  rw [Z02 L d h hL s]; unfold NK; by_cases c:32 < (d.Starts.length:Int) <;> simp [c]
 rw [Zjw]
 simp only [e0,e1,e2,e3,e4,e5,e6,e7,e8,e9,ea,Zx,ZyW L d h hL]
 have fin:∀ s:Seen,(bif DY d != 0 then some (DY d,s,()) else some (0,s,()))=some ((D6 [fun s:Seen=>(DY d,s)] s).1,(D6 [fun s:Seen=>(DY d,s)] s).2,()):=fun s=>by
  rw [D6,D6,Z5]; by_cases c:DY d=0 <;> simp [c]
 have key:=BB _ _ (BB _ _ (BB _ _ (BB _ _ (BB _ _ (BB _ _ (BB _ _ (BB _ _ (BB _ _ (BB _ _ (BB (NK 32 (VZ d) d.Starts,_) _ (fin _) (fun s=>(NK 32 (VZ d) d.Starts,s)) _ rfl) (Xf 16 (fun v:ZU=>Yy v.Name (X8 v)) d.Routines) _ rfl) (Xf 32 YC d.Counts) _ rfl) (Xf 32 YC d.Levels) _ rfl) (Xf 32 YC d.Tallies) _ rfl) (Xf 32 YC d.Streams) _ rfl) (Xf 32 YC d.Queues) _ rfl) (Xf 32 (fun v:Wn=>Yy v.Name (Zbz v)) d.Belts) _ rfl) (Xf 32 (fun v:Yx=>Yy v.Name (L8 v)) d.Stores) _ rfl) (Xf 32 (fun v:Zv=>Yy v.Name (ZoK d v)) d.Resources) _ rfl) (Xf 32 (fun v:VT=>Yy v.Name (LH v)) d.Vars) ([]:Seen) rfl
 exact (congrArg (fun o:Option (Int×Seen×PUnit)=>bT o fun y=>some y.1) key).trans rfl
end Go.Proofs.YtgjcjbhhhlelnaaGreatDoor
end
section
namespace Go.Proofs.YtgjcjbhhhlelnaaGreatDoor
open Go Go.Proofs.YtgjcjbhhhlelnaaGreatDoor.Abs Go.Proofs.YtgjcjbhhhlelnaaGreatDoor.Tl
set_option maxRecDepth 100000
def M1 (n:List UInt8)(d:Ze):Int:=if decide (VE n≠0)=true then VE n else (Yy d.Name (ZhT d) []).1
theorem one1 {α:Type}(a:α):ZJ [a] 0=some a∧decide ((0:Int) < (([a].length:Nat):Int))=true∧decide ((1:Int) < (([a].length:Nat):Int))=false∧decide ((([a].length:Nat):Int) > 16)=false∧decide ((([a].length:Nat):Int)=0)=false∧decide ((([a].length:Nat):Int) > 0)=true∧decide ((([a].length:Nat):Int)≤16)=true :=
 ⟨Zg [a] 0,by simp,by simp,by simp,by simp,by simp,by simp⟩
theorem Zxk (α:Type):decide ((0:Int) < ((([]:List α).length:Nat):Int))=false∧decide (((([]:List α).length:Nat):Int) > 32)=false∧decide (((([]:List α).length:Nat):Int)≤32)=true:=⟨rfl,rfl,rfl⟩
theorem ZtC (L:Nat)(h1:100≤L)(n:List UInt8)(hn:n.length≤140737488351232)(hnL:n.length < L)(d:Ze)(h:ZG d)(hL:SizeOf.sizeOf d≤L):Gl L (⟨n,[],[d],[]⟩,())=some (M1 n d):=by
 have hs:=Sh.of hL
 have e1:=QK L n (by unfold Len; omega) hnL
 have e2:=QK L d.Name (by have:=h.Name; unfold Len; omega) hs.nm
 have e3:Gm L (⟨n,[],[d],[]⟩,())=some 0:=by
  rw [Zhz,ZeU _ (show 2 < L by omega)]
  simp only [PT,Zxk,cond_false,Zx]
 have e4:Zp (IZ ⟨n,[],[d],[]⟩ L) L (0,[],())=some (0,[],()):=by
  rw [ZeU _ (show 2 < L by omega)]
  simp only [IZ,Zxk,cond_false]
 rw [Zhx]
 simp only [ZeU (Oa ⟨n,[],[d],[]⟩ L) (show 2 < L by omega),Oa,one1,Zxk,w01,e1,e2,e3,e4,KN,Zx,cond_true,cond_false,Z5,ZH,Zza L h1 d h hL]
 simp only [M1,Yy]
 by_cases a:VE n=0 <;> by_cases b:(YC d.Name []).1=0 <;> by_cases c:ZhT d=0 <;> simp [a,b,c,Zx]
theorem U7 (L:Nat)(a b c:Int):ZO L (a,b,c,())=some (btw a b c):=Zj3 L a b c
theorem JW (L:Nat)(a b:Int):ZA L (a,b,())=some (Wh a b):=by
 simp only [Zj,Zc,cond_true,cond_false,Zg,Zx,Za,Zm,condC,Zi,Zh,Zl,ZH,ZP,Z5,Zl2,Wh]; simp only [Yu,Xu,if_true,if_false,Bool.false_eq_true,ne_eq,decide_not,gt_iff_lt,ge_iff_le]
theorem XX (L:Nat)(a:Bool)(b:Int):Zo L (a,b,())=some (Y5 a b):=by
 simp only [Zj,Zc,cond_true,cond_false,Zg,Zx,Za,Zm,condC,Zi,Zh,Zl,ZH,ZP,Z5,Zj2,Y5]; simp only [Yu,Xu,if_true,if_false,Bool.false_eq_true,ne_eq,decide_not,gt_iff_lt,ge_iff_le]
theorem Zrd (L:Nat)(t:Int):HY L (t,())=some (Zkh t):=Zl1 L t
theorem ZuD (L:Nat)(t n:Int):OO L (t,n,())=some (fitsT t n):=by
 simp only [Zj,Zc,cond_true,cond_false,Zg,Zx,Za,Zm,condC,Zi,Zh,Zl,ZH,ZP,Z5,ZoA,Zw1,U7,fitsT]; simp only [Yu,Xu,if_true,if_false,Bool.false_eq_true,ne_eq,decide_not,gt_iff_lt,ge_iff_le]
theorem ZmS (s:List UInt8)(l:List (List UInt8)):decide (GU (fun k=>decide (k=s)) l 0 < 0)=!(l.contains s):=by
 have:=Zdh (fun x:List UInt8=>x) s l
 rw [List.map_id'] at this
 rw [← this,show decide (GU (fun k=>decide (k=s)) l 0 < 0)=!decide (GU (fun k=>decide (k=s)) l 0 ≥ 0) by rw [← decide_not]; congr 1; exact propext Int.not_le.symm]
theorem ZbQ (L:Nat)(h1:100≤L)(s:List UInt8)(seen:Seen)(hs:Len s)(hsL:s.length < L)(hl:Len seen)(hL:seen.length < L):VN L (s,seen,())=some (ZaO s seen):=by
 simp only [Zj,Zc,cond_true,cond_false,Zg,Zx,Za,Zm,condC,Zi,Zh,Zl,ZH,ZP,Z5,Zl4,JX L s hs hsL h1,Zjd L seen s hl hL,XX,JW,ZmS,ZaO]
theorem apS {l:List (List UInt8)}{a:List UInt8}(h:l.length≤8000000000000):apT 16 l [a]=some (l ++ [a]):=by unfold apT; rw [if_pos (by simp only [List.length_cons,List.length_nil]; omega)]
theorem Zq9 {α τ ρ:Type}{f:(τ→Option ρ)→τ→Option ρ}(l:List α)(nm:α→List UInt8)(pk:List (List UInt8)→Int→τ)(o:Option ρ){m:Nat}(hm:l.length < m)
  (h1:∀ self s (i:Nat) x,l[i]? = some x→i < l.length→s.length≤i→f self (pk s i)=self (pk (s ++ [nm x]) ((i:Int) + 1)))
  (h2:∀ self,f self (pk (l.map nm) (l.length:Nat))=o):Zp f m (pk [] 0)=o:=by
 have key:∀ (m i:Nat),i≤l.length→l.length - i < m→Zp f m (pk ((l.take i).map nm) i)=o:=by
  intro m
  induction m with
  | zero=>intro i _ h; exact absurd h (Nat.not_lt_zero _)
  | succ m ih =>
   intro i hi hm
   show f (Zp f m) _=_
   rcases Nat.lt_or_ge i l.length with hlt | hge
   ·have hx:=List.getElem?_eq_getElem hlt
    rw [h1 _ _ i _ hx hlt (by rw [List.length_map,List.length_take]; omega),← ih (i + 1) hlt (by omega)]
    rw [List.take_succ,hx,List.map_append]; rfl
   ·have:i=l.length:=by omega
    subst this
    rw [List.take_length,h2]
 exact key m 0 (Nat.zero_le _) (by omega)
theorem ZkZ (L:Nat)(d:Ze)(h:ZG d)(hs:Sh L d):Uf L (d,())=some ((Vy d).map (·.2)):=by
 have a1:=h.Vars.1; have a2:=h.Resources.1; have a3:=h.Stores.1; have a4:=h.Belts.1; have a5:=h.Routines.1
 rw [Zl0]
 refine Zq9 d.Vars (·.Name) (fun s i=>(i,s,[],[],[],[],[],[],[],[],[],())) _ hs.vars (fun self s i x hx hi hsl=>by
  rw [Bh]; simp only [Zj,Zc,cond_true,cond_false,Zg,Zx,Za,Zm,condC,Zi,Zh,Zl,ZH,ZP,Z5,hi,hx,wrap_succ hi (by omega),apS (show s.length≤8000000000000 by omega)]) (fun self=>?_)
 rw [Bh]; simp only [Zj,Zc,cond_true,cond_false,Zg,Zx,Za,Zm,condC,Zi,Zh,Zl,ZH,ZP,Z5]
 refine Zq9 d.Resources (·.Name) (fun s i=>(i,_,s,[],[],[],[],[],[],[],[],())) _ hs.res (fun self s i x hx hi hsl=>by
  rw [Bg]; simp only [Zj,Zc,cond_true,cond_false,Zg,Zx,Za,Zm,condC,Zi,Zh,Zl,ZH,ZP,Z5,hi,hx,wrap_succ hi (by omega),apS (show s.length≤8000000000000 by omega)]) (fun self=>?_)
 rw [Bg]; simp only [Zj,Zc,cond_true,cond_false,Zg,Zx,Za,Zm,condC,Zi,Zh,Zl,ZH,ZP,Z5]
 refine Zq9 d.Stores (·.Name) (fun s i=>(i,_,_,s,[],[],[],[],[],[],[],())) _ hs.sto (fun self s i x hx hi hsl=>by
  rw [Bf]; simp only [Zj,Zc,cond_true,cond_false,Zg,Zx,Za,Zm,condC,Zi,Zh,Zl,ZH,ZP,Z5,hi,hx,wrap_succ hi (by omega),apS (show s.length≤8000000000000 by omega)]) (fun self=>?_)
 rw [Bf]; simp only [Zj,Zc,cond_true,cond_false,Zg,Zx,Za,Zm,condC,Zi,Zh,Zl,ZH,ZP,Z5]
 refine Zq9 d.Belts (·.Name) (fun s i=>(i,_,_,_,s,[],[],[],[],[],[],())) _ hs.bel (fun self s i x hx hi hsl=>by
  rw [Be]; simp only [Zj,Zc,cond_true,cond_false,Zg,Zx,Za,Zm,condC,Zi,Zh,Zl,ZH,ZP,Z5,hi,hx,wrap_succ hi (by omega),apS (show s.length≤8000000000000 by omega)]) (fun self=>?_)
 rw [Be]; simp only [Zj,Zc,cond_true,cond_false,Zg,Zx,Za,Zm,condC,Zi,Zh,Zl,ZH,ZP,Z5]
 refine Zq9 d.Routines (·.Name) (fun s i=>(i,_,_,_,_,_,_,_,_,_,s,())) _ hs.rou (fun self s i x hx hi hsl=>by
  rw [Bd]; simp only [Zj,Zc,cond_true,cond_false,Zg,Zx,Za,Zm,condC,Zi,Zh,Zl,ZH,ZP,Z5,hi,hx,wrap_succ hi (by omega),apS (show s.length≤8000000000000 by omega)]) (fun self=>?_)
 rw [Bd]; simp only [Zj,Zc,cond_true,cond_false,Zg,Zx,Za,Zm,condC,Zi,Zh,Zl,ZH,ZP,Z5]
 rfl
end Go.Proofs.YtgjcjbhhhlelnaaGreatDoor
end
section
namespace Go.Proofs.YtgjcjbhhhlelnaaGreatDoor
open Go Go.Proofs.YtgjcjbhhhlelnaaGreatDoor.Abs Go.Proofs.YtgjcjbhhhlelnaaGreatDoor.Tl
set_option maxRecDepth 100000
theorem ZiN (L:Nat)(d:Ze)(h:ZG d)(hs:Sh L d):∀ p ∈ Vy d,Len p.2∧p.2.length < L:=by
 have a1:=h.Vars.1; have a2:=h.Resources.1; have a3:=h.Stores.1; have a4:=h.Belts.1; have a5:=h.Routines.1
 have b1:=h.Queues.1; have b2:=h.Streams.1; have b3:=h.Tallies.1; have b4:=h.Levels.1; have b5:=h.Counts.1
 obtain ⟨c1,c2,c3,c4,c5,c6,c7,c8,c9,c10,c11,c12,c13⟩:=hs
 intro p hp
 simp only [Vy,List.mem_cons,List.not_mem_nil,or_false] at hp
 unfold Len
 rcases hp with rfl | rfl | rfl | rfl | rfl | rfl | rfl | rfl | rfl | rfl <;> simp only [List.length_map] <;> omega
theorem Zv5 (s:List UInt8)(l:List (List UInt8)):decide (GU (fun k=>decide (k=s)) l 0 ≥ 0)=l.contains s:=by
 have:=Zdh (fun x:List UInt8=>x) s l
 rwa [List.map_id'] at this
theorem ZyN (L:Nat)(d:Ze)(h:ZG d)(hs:Sh L d)(hL:100≤L)(s:List UInt8):QR L (d,s,())=some (O4 s (Vy d)):=by
 rw [ZoB,ZkZ L d h hs,Zx]
 have lp:=ZeV (f := TA s L ((Vy d).map (·.2))) ((Vy d).map (·.2)) ((Vy d).map (·.1)) (by simp) (fun l l'=>some (O4 s (l'.zip l))) (m := L) (show 10 < L by omega) (fun self i x y r r' hx hy hi mem e=>by
  have hi2:i < 10:=hi
  obtain ⟨p,hp,rfl⟩:=List.mem_map.1 mem
  have hk:=ZiN L d h hs p hp
  have hy':[[118,97,114],[114,101,115,111,117,114,99,101],[115,116,111,114,101],[98,101,108,116],[113,117,101,117,101],[115,116,114,101,97,109],[116,97,108,108,121],[108,101,118,101,108],[99,111,117,110,116],[114,111,117,116,105,110,101]][i]? = some y:=hy
  rw [TA]
  simp only [Zj,Zc,cond_true,cond_false,Zg,Zx,Za,Zm,condC,Zi,Zh,Zl,ZH,ZP,Z5,hi,hx,Zjd L p.2 s hk.1 hk.2,Zv5]
  rw [wrap_in (by omega) (by omega),e]
  simp only [hy',Zx,Zl,List.zip_cons_cons,O4]; simp only [Yu,Xu,if_true,if_false,Bool.false_eq_true,ne_eq,decide_not,gt_iff_lt,ge_iff_le]) (fun self=>by rw [TA]; simp only [Zj,Zc,cond_true,cond_false,Zg,Zx,Za,Zm,condC,Zi,Zh,Zl,ZH,ZP,Z5,List.zip_nil_right,O4])
 rw [lp]
 congr 2
theorem CS (d:Ze)(h:(D6 ((Xz d).map stepD) []).1=0)(nm:List UInt8)(p:List UInt8×List (List UInt8))(hp:p ∈ Vy d):decide (O4 nm (Vy d)=p.1)=p.2.contains nm:=by
 have key:O4 nm (Vy d)=p.1↔nm ∈ p.2:=by
  refine ZfI nm (Vy d) ?_ ?_ ?_ p hp
  ·have:=(ZuJ _ _ h).1
   have h2:((Xz d).map Zb6).Pairwise (fun a b=>∀ x ∈ a,x ∉ b):=List.pairwise_map.2 this
   rw [← ZmV] at h2
   exact List.pairwise_map.1 h2
  ·simp only [Vy,List.map_cons,List.map_nil]; decide
  ·simp only [Vy,List.map_cons,List.map_nil]; decide
 rw [← List.contains_iff_mem] at key
 by_cases c:O4 nm (Vy d)=p.1
 ·rw [key.1 c]; simp [c]
 ·have:p.2.contains nm=false:=by
   rw [← Bool.not_eq_true]; exact fun e=>c (key.2 e)
  rw [this]; simp [c]
theorem Zuf (t:Oh)(b:Bool):Wh (Wh (Y5 true 1) (Y5 b 5)) (Y5 (btw t.Coef (-1000) 1000 && !decide (t.Coef=0)) 2)=Zfn t b:=by
 unfold Zfn
 rcases Bool.eq_false_or_eq_true (btw t.Coef (-1000) 1000) with h3 | h3 <;> by_cases c:t.Coef=0 <;> cases b <;> simp [Wh,Y5,c,h3]
theorem Zw4 (L:Nat)(d:Ze)(h:ZG d)(hs:Sh L d)(hL:100≤L)(hd:(D6 ((Xz d).map stepD) []).1=0)(t:Oh):DL L (d,t,())=some (Zfm d t):=by
 have hR:=CS d hd t.Name ([114,111,117,116,105,110,101],d.Routines.map (·.Name)) (by simp [Vy])
 have hS:=CS d hd t.Name ([115,116,111,114,101],d.Stores.map (·.Name)) (by simp [Vy])
 have hQ:=CS d hd t.Name ([99,111,117,110,116],d.Counts) (by simp [Vy])
 simp only at hR hS hQ
 have z:∀ x,Wh (Wh (Y5 false 1) x)=fun _=>1:=fun x=>by funext y; simp [Wh,Y5]
 simp only [Zj,Zc,cond_true,cond_false,Zg,Zx,Za,Zm,condC,Zi,Zh,Zl,ZH,ZP,Z5,ZoD,XX,JW,ZyN L d h hs hL,U7,hR,hS,hQ,reduceCtorEq,decide_false,decide_true,Bool.not_false,Bool.not_true,Zuf,z,Zfm]
 simp only [Yu,Xu,if_true,if_false,Bool.false_eq_true,ne_eq,decide_not,gt_iff_lt,ge_iff_le]
theorem ZmJ (a b c:Int):Wh (Wh a b) c=Wh a (Wh b c):=by
 unfold Wh
 by_cases h:a=0 <;> by_cases h2:b=0 <;> simp [h,h2]
theorem Zs6 {α:Type}(f:α→Int)(x:α)(r:List α):Wh (f x) (Yk f r)=Yk f (x :: r):=by
 unfold Wh; rw [Yk]
theorem Zs7 (a:Int):Wh a 0=a:=by unfold Wh; by_cases h:a=0 <;> simp [h]
theorem Z0I (L:Nat)(d:Ze)(h:ZG d)(hs:Sh L d)(hL:100≤L)(hd:(D6 ((Xz d).map stepD) []).1=0)(l:ZeF)(ok:Zpm l)(hl:l.Terms.length < L)(hn:l.Name.length < L)(seen:Seen)(h1:Len seen)(h2:seen.length < L):FH L (d,l,seen,())=some (Yy l.Name (ZrX d l) seen).1:=by
 have ht:=ok.t
 have lp:=fun n=>NS (f := Dy d l L) l.Terms (fun r n=>some (Wh (Wh n (Yk (Zfm d) r)) (Y5 (inB l.Total) 2))) hl n (fun self n i x r hx hi mem e=>by
  rw [Dy]; simp only [Zj,Zc,cond_true,cond_false,Zg,Zx,Za,Zm,condC,Zi,Zh,Zl,ZH,ZP,Z5,hi,hx,Zw4 L d h hs hL hd x,JW,wrap_succ hi (by omega),e,ZmJ,← Zs6]) (fun self n=>by
  rw [Dy]; simp only [Zj,Zc,cond_true,cond_false,Zg,Zx,Za,Zm,condC,Zi,Zh,Zl,ZH,ZP,Z5,Zw1,XX,JW,Yk,Zs7])
 simp only [Zj,Zc,cond_true,cond_false,Zg,Zx,Za,Zm,condC,Zi,Zh,Zl,ZH,ZP,Z5,Zrx,ZbQ L hL l.Name seen (by have:=ok.Name; unfold Len; omega) hn h1 h2,XX,JW,lp]
 rw [Ze8]
 simp only [ZmJ]
 congr 2
 unfold ZrX NK
 by_cases a:l.Terms=[] <;> by_cases b:8 < (l.Terms.length:Int) <;> by_cases c:Yk (Zfm d) l.Terms=0 <;> rcases Bool.eq_false_or_eq_true (inB l.Total) with g | g <;> simp [a,b,c,g,Wh,Y5]
theorem ZmR {α:Type}(nm:α→List UInt8)(s:List UInt8):∀ (l:List α) (i:Int),GU (fun k=>decide (k=s)) (l.map nm) i=GU (fun x=>decide (nm x=s)) l i
 | [],_=>rfl
 | x :: l,i=>by simp only [List.map_cons,GU,ZmR nm s l]
theorem Zov (L:Nat)(d:Ze)(h:ZG d)(hs:Sh L d)(s:List UInt8):Gq L (d,s,())=some (GU (fun r:ZU=>decide (r.Name=s)) d.Routines 0):=by
 have hk:=ZiN L d h hs ([114,111,117,116,105,110,101],d.Routines.map (·.Name)) (by simp [Vy])
 rw [Zh4,ZkZ L d h hs,Zx,show ZJ ((Vy d).map (·.2)) 9=some (d.Routines.map (·.Name)) from Zg _ 9,Zx,Zjd L _ s hk.1 hk.2,Zx,ZmR]
theorem ZoJ (L:Nat)(s:X0)(r:ZU)(hp:r.Params.length≤4611686018427387)(he:r.Params.length=s.Args.length)(hL:r.Params.length < L):Zp (Iw s L r) L (0,())=some (LP (Zbf s) r.Params s.Args):=by
 refine ZeV r.Params s.Args he (fun p a=>some (LP (Zbf s) p a)) hL (fun self i x y q q' hx hy hi _ e=>?_) (fun self=>?_)
 ·rw [Iw]; simp only [Zj,Zc,cond_true,cond_false,Zg,Zx,Za,Zm,condC,Zi,Zh,Zl,ZH,ZP,Z5,hi,hx,hy,ZuD,wrap_succ hi (by omega),e,LP]; simp only [Yu,Xu,if_true,if_false,Bool.false_eq_true,ne_eq,decide_not,gt_iff_lt,ge_iff_le]
 ·rw [Iw,← ZrL]; simp only [Zj,Zc,cond_true,cond_false,Zg,Zx,Za,Zm,condC,Zi,Zh,Zl,ZH,ZP,Z5,U7,XX,LP,Zmn]; simp only [Yu,Xu,if_true,if_false,Bool.false_eq_true,ne_eq,decide_not,gt_iff_lt,ge_iff_le]
theorem ZtE (L:Nat)(d:Ze)(h:ZG d)(hs:Sh L d)(s:X0)(hs':Ns s)(hsL:s.Args.length < L):MO L (d,s,())=some (VZ d s):=by
 rw [Zl5,Zov L d h hs s.Routine,Zx,VZ]
 rcases ZbN (fun r:ZU=>decide (r.Name=s.Routine)) d.Routines 0 with ⟨a,b⟩ | ⟨k,r,a,b,c⟩
 ·rw [a,b]; rfl
 ·have ok:=h.Routines.2 r (List.mem_of_getElem? c)
  rw [a,b,Int.zero_add,show decide ((k:Int) < 0)=false by simp only [decide_eq_false_iff_not]; omega,cond_false,Zg,c,Zx]
  simp only
  rcases Zxh s.Args r.Params with ⟨e1,e2⟩ | ⟨e1,e2⟩
  ·rw [ZoJ L s r ok.p.1 e1.symm (by omega),Z5,e2]; simp only [Yu,Xu,if_true,if_false,Bool.false_eq_true,ne_eq,decide_not,gt_iff_lt,ge_iff_le,e2,Bool.not_true,cond_false]
  ·rw [Z5,e2]; simp only [Yu,Xu,if_true,if_false,Bool.false_eq_true,ne_eq,decide_not,gt_iff_lt,ge_iff_le,e2,Bool.not_false,cond_true]
theorem ZvO {α τ:Type}{f:(τ→Option Int)→τ→Option Int}(pk:Seen→Int→τ)(l:List α)(step:α→Seen→Int×Seen)(c:Nat)(e:Seen→Option Int){m:Nat}(hm:l.length < m)
  (hst:∀ x s,(step x s).2.length≤s.length + 1)
  (h1:∀ self s (i:Nat) x,l[i]? = some x→i < l.length→x ∈ l→s.length≤c + i→f self (pk s i)=bif !decide ((step x s).1=0) then some (step x s).1 else self (pk (step x s).2 ((i:Int) + 1)))
  (h2:∀ self s,s.length≤c + l.length→f self (pk s (l.length:Nat))=e s) (s:Seen) (hs:s.length≤c):Zp f m (pk s 0)=if decide ((YO step l s).1≠0)=true then some (YO step l s).1 else e (YO step l s).2:=by
 have key:∀ (m i:Nat) (s:Seen),i≤l.length→l.length - i < m→s.length≤c + i→Zp f m (pk s i)=if decide ((YO step (l.drop i) s).1≠0)=true then some (YO step (l.drop i) s).1 else e (YO step (l.drop i) s).2:=by
  intro m
  induction m with
  | zero=>intro i s _ h; exact absurd h (Nat.not_lt_zero _)
  | succ m ih =>
   intro i s hi hm hsl
   show f (Zp f m) _=_
   rcases Nat.lt_or_ge i l.length with hlt | hge
   ·have hx:=List.getElem?_eq_getElem hlt
    have:=ih (i + 1) (step l[i] s).2 hlt (by omega) (by have:=hst l[i] s; omega)
    rw [h1 _ s i _ hx hlt (List.getElem_mem hlt) hsl,List.drop_eq_getElem_cons hlt,YO,show ((i:Int) + 1)=((i + 1:Nat):Int) from rfl,this]
    by_cases z:(step l[i] s).1=0 <;> simp [z]
   ·have:i=l.length:=by omega
    subst this
    rw [List.drop_length,h2 _ s hsl]; rfl
 exact key m 0 s (Nat.zero_le _) (by omega) (by omega)
theorem Ze9 (s:List UInt8)(r:Int)(seen:Seen):(Yy s r seen).2.length≤seen.length + 1:=by
 have h:(YC s seen).2.length≤seen.length + 1:=by
  unfold YC
  split
  ·exact Nat.le_succ _
  ·split
   ·exact Nat.le_succ _
   ·simp
 unfold Yy
 split <;> exact h
end Go.Proofs.YtgjcjbhhhlelnaaGreatDoor
end
section
namespace Go.Proofs.YtgjcjbhhhlelnaaGreatDoor
open Go Go.Proofs.YtgjcjbhhhlelnaaGreatDoor.Abs Go.Proofs.YtgjcjbhhhlelnaaGreatDoor.Tl
set_option maxRecDepth 100000
theorem ZeA {s:List UInt8}{r:Int}{seen:Seen}(h:(Yy s r seen).1=0):(Yy s r seen).2=seen ++ [s]:=(ZrU h).1
theorem Zox (L:Nat)(h1:100≤L)(r:ZU)(h:Og r)(hL:SizeOf.sizeOf r≤L):Gs L (r,())=some (X8 r):=by
 have hz:=ZuN r
 have hp:=h.p
 have hw:IntKind.i64.wrap ((r.Params.length:Int) + (r.Locals.length:Int))=(r.Params.length:Int) + (r.Locals.length:Int):=wrap_in (by omega) (by omega)
 rw [Zh5,hw,X8]
 by_cases hc:6 < (r.Params.length:Int)∨16 < (r.Params.length:Int) + (r.Locals.length:Int)
 ·rw [if_pos (by simpa using hc),show (decide ((r.Params.length:Int) > 6) || decide ((r.Params.length:Int) + (r.Locals.length:Int) > 16))=true by simpa using hc]; rfl
 ·have hf:(decide ((r.Params.length:Int) > 6) || decide ((r.Params.length:Int) + (r.Locals.length:Int) > 16))=false:=by
   simp only [Bool.or_eq_false_iff,decide_eq_false_iff_not]; omega
  have hf':¬ ((decide (6 < (r.Params.length:Int)) || decide (16 < (r.Params.length:Int) + (r.Locals.length:Int)))=true):=by simpa using hc
  have hlen:(r.Params ++ r.Locals).length≤16:=by rw [List.length_append]; omega
  have p1:apT 24 [] r.Params=some r.Params:=by unfold apT; rw [if_pos (by simp only [List.length_nil]; omega)]; rfl
  have p2:apT 24 r.Params r.Locals=some (r.Params ++ r.Locals):=by unfold apT; rw [if_pos (by omega)]
  rw [if_neg hf',hf,cond_false,p1,Zx,p2,Zx]
  rw [ZvO (f := Uo r L (r.Params ++ r.Locals)) (fun s i=>(s,i,())) (r.Params ++ r.Locals) (fun f:WP=>Yy f.Name (ZcZ f)) 0 (fun _=>some (ZaM r.Body)) (by omega) (fun x s=>Ze9 _ _ _) (fun self s i x hx hi mem hsl=>by
   have ok:Zcc x∧x.Name.length < L:=by
    rcases List.mem_append.1 mem with m | m
    ·exact ⟨h.Params.2 x m,by have:=ZzI m; omega⟩
    ·exact ⟨h.Locals.2 x m,by have:=ZzI m; omega⟩
   have hn:=ZbQ L h1 x.Name s (by have:=ok.1.Name; unfold Len; omega) ok.2 (by unfold Len; omega) (by omega)
   rw [Uo]
   simp only [Zj,Zc,cond_true,cond_false,Zg,Zx,Za,Zm,condC,Zi,Zh,Zl,ZH,ZP,Z5,hi,hx,hn,Zrd,XX,JW,ZxH,apS (show s.length≤8000000000000 by omega),wrap_succ hi (by omega)]
   rw [← Ze8]
   by_cases c:(Yy x.Name (ZcZ x) s).1=0
   ·rw [ZeA c]
   ·simp [c]) (fun self s hsl=>by
   rw [Uo]; simp only [Zj,Zc,cond_true,cond_false,Zg,Zx,Za,Zm,condC,Zi,Zh,Zl,ZH,ZP,Z5,Zrl L h1 r.Body h.p.2.2 (by omega)]) [] (Nat.le_refl _)]
  rw [Xu]; rfl
theorem ZlO (L:Nat)(d:Zv)(h:WB d)(hL:d.Shift.length < L)(hc:IntKind.i64.wrap (d.Cycle - 1)=d.Cycle - 1):Zp (XI d L) L (0,())=some (Zsd d.Cycle none d.Shift):=by
 have hl:=h.s
 refine CV (f := XI d L) d.Shift.length (fun i=>(i,())) (fun i=>some (Zsd d.Cycle (Zht d.Shift i) (d.Shift.drop i))) (fun self i hi e=>?_) (fun self=>?_) L 0 (Nat.zero_le _) (by omega)
 ·have hx:=List.getElem?_eq_getElem hi
  rw [List.drop_eq_getElem_cons hi,Zsd]
  rw [show Zht d.Shift (i + 1)=some (d.Shift[i].At_) by rw [Zht,hx]; rfl] at e
  rw [XI]
  simp only [Zj,Zc,cond_true,cond_false,Zg,Zx,Za,Zm,condC,Zi,Zh,Zl,ZH,ZP,Z5,hi,hx,U7,wrap_succ hi (by omega),e,hc,Zrt _ _ _ hi hl]; simp only [Yu,Xu,if_true,if_false,Bool.false_eq_true,ne_eq,decide_not,gt_iff_lt,ge_iff_le]
 ·rw [XI]; simp only [Zj,Zc,cond_true,cond_false,Zg,Zx,Za,Zm,condC,Zi,Zh,Zl,ZH,ZP,Z5,List.drop_length,Zsd]
theorem Zlb (L:Nat)(d:Zv)(h:WB d)(hL:d.Shift.length < L):Ut L (d,())=some (Zsc d):=by
 simp only [Zj,Zc,cond_true,cond_false,Zg,Zx,Za,Zm,condC,Zi,Zh,Zl,ZH,ZP,Z5,Zfb,U7,XX,Zsc]
 by_cases hc:btw d.Cycle 1 1000000000=true
 ·have:=ZlO L d h hL (by simp only [btw,Bool.and_eq_true,decide_eq_true_eq] at hc; exact wrap_in (by omega) (by omega))
  rw [this]; simp only [Yu,Xu,if_true,if_false,Bool.false_eq_true,ne_eq,decide_not,gt_iff_lt,ge_iff_le,Y5]
  by_cases a:d.Cycle=0 <;> simp [a]
 ·rw [Bool.not_eq_true] at hc
  simp only [Yu,Xu,if_true,if_false,Bool.false_eq_true,ne_eq,decide_not,gt_iff_lt,ge_iff_le,hc,Bool.not_false,Y5]
  by_cases a:d.Cycle=0 <;> simp [a]
theorem Zow (L:Nat)(h1:100≤L)(d:Ze)(h:ZG d)(hs:Sh L d)(x:Zv)(ok:WB x)(hx:SizeOf.sizeOf x≤L):Uu L (d,x,())=some (ZoK d x):=by
 have hx2:SizeOf.sizeOf x.Fault < SizeOf.sizeOf x∧SizeOf.sizeOf x.Shift < SizeOf.sizeOf x∧SizeOf.sizeOf x.Fault.Up < SizeOf.sizeOf x.Fault∧SizeOf.sizeOf x.Fault.Down < SizeOf.sizeOf x.Fault:=by
  obtain ⟨a,b,c,d,⟨e,f,g⟩⟩:=x; simp; omega
 have hsh:=ZI x.Shift
 have hst:=h.st
 rw [← ZwJ]
 simp only [Zj,Zc,cond_true,cond_false,Zg,Zx,Za,Zm,condC,Zi,Zh,Zl,ZH,ZP,Z5,Zfc,U7,XX,JW,Zlb L x ok (by omega),ZbP L x.Fault.Up _ ok.Fault.Up (by omega),ZbP L x.Fault.Down _ ok.Fault.Down (by omega),Gw,Zjd L d.Streams x.Fault.Stream (by unfold Len; omega) hs.str,Dw L x.Fault.Up ok.Fault.Up (by omega),Dw L x.Fault.Down ok.Fault.Down (by omega),ZmS,Z0Q]; simp only [Yu,Xu,if_true,if_false,Bool.false_eq_true,ne_eq,decide_not,gt_iff_lt,ge_iff_le]
theorem ZyP (L:Nat)(d:Ze)(j:Nat)(x:VT)(hx:d.Vars[j]? = some x):YQ L (d,0,(j:Int),())=some (LH x):=by
 rw [Xw]; simp only [Zj,Zc,cond_true,cond_false,Zg,Zx,Za,Zm,condC,Zi,Zh,Zl,ZH,ZP,Z5,hx,Int.reduceEq,decide_true,decide_false,Zrd,XX,ZuD,JW,valueR]
theorem ZyQ (L:Nat)(h1:100≤L)(d:Ze)(h:ZG d)(hL:SizeOf.sizeOf d≤L)(j:Nat)(x:Zv)(hx:d.Resources[j]? = some x):YQ L (d,1,(j:Int),())=some (ZoK d x):=by
 have hz:=Jw d
 have mem:=List.mem_of_getElem? hx
 have hm:=List.sizeOf_lt_of_mem mem
 rw [Xw]; simp only [Zj,Zc,cond_true,cond_false,Zg,Zx,Za,Zm,condC,Zi,Zh,Zl,ZH,ZP,Z5,hx,Int.reduceEq,decide_true,decide_false,Zow L h1 d h (Sh.of hL) x (h.Resources.2 x mem) (by omega)]
theorem ZyR (L:Nat)(d:Ze)(j:Nat)(x:Yx)(hx:d.Stores[j]? = some x):YQ L (d,2,(j:Int),())=some (L8 x):=by
 rw [Xw]; simp only [Zj,Zc,cond_true,cond_false,Zg,Zx,Za,Zm,condC,Zi,Zh,Zl,ZH,ZP,Z5,hx,Int.reduceEq,decide_true,decide_false,U7,XX,JW,ge_iff_le,Zz0]
theorem ZyS (L:Nat)(d:Ze)(j:Nat)(x:Wn)(hx:d.Belts[j]? = some x):YQ L (d,3,(j:Int),())=some (Zbz x):=by
 rw [Xw]; simp only [Zj,Zc,cond_true,cond_false,Zg,Zx,Za,Zm,condC,Zi,Zh,Zl,ZH,ZP,Z5,hx,Int.reduceEq,decide_true,decide_false,U7,XX,ZzY]
theorem ZyT (L:Nat)(h1:100≤L)(d:Ze)(h:ZG d)(hL:SizeOf.sizeOf d≤L)(j:Nat)(x:ZU)(hx:d.Routines[j]? = some x):YQ L (d,9,(j:Int),())=some (X8 x):=by
 have hz:=Jw d
 have mem:=List.mem_of_getElem? hx
 have hm:=List.sizeOf_lt_of_mem mem
 have e:=Zox L h1 x (h.Routines.2 x mem) (by omega)
 generalize X8 x=z at e ⊢
 rw [Xw,show ((9:Int) == 0)=false from rfl,show ((9:Int) == 1)=false from rfl,show ((9:Int) == 2)=false from rfl,show ((9:Int) == 3)=false from rfl,show ((9:Int) == 9)=true from rfl,cond_false,cond_false,cond_false,cond_false,cond_true,Zg,hx,Zx,e,Zx]
theorem Zjf (L:Nat)(d:Ze)(k j:Int)(h:k=4∨k=5∨k=6∨k=7∨k=8):YQ L (d,k,j,())=some 0:=by
 rw [Xw]; rcases h with rfl | rfl | rfl | rfl | rfl <;> simp only [Zj,Zc,cond_true,cond_false,Zg,Zx,Za,Zm,condC,Zi,Zh,Zl,ZH,ZP,Z5,Int.reduceEq,decide_true,decide_false]
end Go.Proofs.YtgjcjbhhhlelnaaGreatDoor
end
section
namespace Go.Proofs.YtgjcjbhhhlelnaaGreatDoor
open Go Go.Proofs.YtgjcjbhhhlelnaaGreatDoor.Abs Go.Proofs.YtgjcjbhhhlelnaaGreatDoor.Tl
set_option maxRecDepth 100000
theorem Zot (L:Nat)(h1:100≤L)(d:Ze)(h:ZG d)(hL:SizeOf.sizeOf d≤L)(k:Nat)(p:Int×List (List UInt8×Int))(hp:(Xz d)[k]? = some p)(j:Nat)(q:List UInt8×Int)(hq:p.2[j]? = some q):YQ L (d,(k:Int),(j:Int),())=some q.2:=by
 rcases k with _ | _ | _ | _ | _ | _ | _ | _ | _ | _ | k
 ·obtain rfl:=Option.some.inj hp; obtain ⟨x,hx,rfl⟩:=IY hq; exact ZyP L d j x hx
 ·obtain rfl:=Option.some.inj hp; obtain ⟨x,hx,rfl⟩:=IY hq; exact ZyQ L h1 d h hL j x hx
 ·obtain rfl:=Option.some.inj hp; obtain ⟨x,hx,rfl⟩:=IY hq; exact ZyR L d j x hx
 ·obtain rfl:=Option.some.inj hp; obtain ⟨x,hx,rfl⟩:=IY hq; exact ZyS L d j x hx
 ·obtain rfl:=Option.some.inj hp; obtain ⟨x,hx,rfl⟩:=IY hq; exact Zjf L d 4 j (by simp)
 ·obtain rfl:=Option.some.inj hp; obtain ⟨x,hx,rfl⟩:=IY hq; exact Zjf L d 5 j (by simp)
 ·obtain rfl:=Option.some.inj hp; obtain ⟨x,hx,rfl⟩:=IY hq; exact Zjf L d 6 j (by simp)
 ·obtain rfl:=Option.some.inj hp; obtain ⟨x,hx,rfl⟩:=IY hq; exact Zjf L d 7 j (by simp)
 ·obtain rfl:=Option.some.inj hp; obtain ⟨x,hx,rfl⟩:=IY hq; exact Zjf L d 8 j (by simp)
 ·obtain rfl:=Option.some.inj hp; obtain ⟨x,hx,rfl⟩:=IY hq; exact ZyT L h1 d h hL j x hx
 ·exact absurd hp (by simp [Xz])
theorem Zob (L:Nat)(d:Ze)(h:ZG d)(hL:SizeOf.sizeOf d≤L):∀ p ∈ Xz d,∀ q ∈ p.2,Len q.1∧q.1.length < L:=by
 have hz:=Jw d
 intro p hp q hq
 simp only [Xz,List.mem_cons,List.not_mem_nil,or_false] at hp
 unfold Len
 rcases hp with rfl | rfl | rfl | rfl | rfl | rfl | rfl | rfl | rfl | rfl <;> obtain ⟨x,mem,rfl⟩:=List.mem_map.1 hq
 ·have:=Zpk (fun v:VT=>v.Name) (fun x=>by cases x; simp; omega) mem; have:=(h.Vars.2 x mem).Name; simp only; omega
 ·have:=Zpk (fun v:Zv=>v.Name) (fun x=>by cases x; simp; omega) mem; have:=(h.Resources.2 x mem).Name; simp only; omega
 ·have:=Zpk (fun v:Yx=>v.Name) (fun x=>by cases x; simp; omega) mem; have:=(h.Stores.2 x mem).Name; simp only; omega
 ·have:=Zpk (fun v:Wn=>v.Name) (fun x=>by cases x; simp; omega) mem; have:=(h.Belts.2 x mem).Name; simp only; omega
 ·have:=List.sizeOf_lt_of_mem mem; have:=ZI x; have:=h.Queues.2 x mem; simp only; omega
 ·have:=List.sizeOf_lt_of_mem mem; have:=ZI x; have:=h.Streams.2 x mem; simp only; omega
 ·have:=List.sizeOf_lt_of_mem mem; have:=ZI x; have:=h.Tallies.2 x mem; simp only; omega
 ·have:=List.sizeOf_lt_of_mem mem; have:=ZI x; have:=h.Levels.2 x mem; simp only; omega
 ·have:=List.sizeOf_lt_of_mem mem; have:=ZI x; have:=h.Counts.2 x mem; simp only; omega
 ·have:=Zpk (fun v:ZU=>v.Name) (fun x=>by cases x; simp; omega) mem; have:=(h.Routines.2 x mem).Name; simp only; omega
theorem inner (L:Nat)(h1:1000≤L)(d:Ze)(h:ZG d)(hL:SizeOf.sizeOf d≤L)(k:Nat)(p:Int×List (List UInt8×Int))(hp:(Xz d)[k]? = some p)(hl:p.2.length≤32)(hk:k < 10)(self:Int×List (List UInt8)×Int×PUnit→Option Int)(s0 s:Seen)(hs:s.length≤32 * k) :
  Zp (GZ d L ((Xz d).map Zb6) self (0,s0,(k:Int),())) L (0,s,0,())=if decide ((YO Hq p.2 s).1≠0)=true then some (YO Hq p.2 s).1 else self (0,(YO Hq p.2 s).2,(k:Int) + 1,()):=by
 have hg:ZJ ((Xz d).map Zb6) (k:Int)=some (Zb6 p):=by rw [Zg,List.getElem?_map,hp]; rfl
 have hlen:(Zb6 p).length=p.2.length:=by simp [Zb6]
 refine ZvO (f := GZ d L ((Xz d).map Zb6) self (0,s0,(k:Int),())) (fun s i=>(0,s,i,())) p.2 Hq (32 * k) (fun s=>self (0,s,(k:Int) + 1,())) (by omega) (fun x s=>Ze9 _ _ _) (fun self1 s i x hx hi mem hsl=>?_) (fun self1 s hsl=>?_) s hs
 ·have hq:(Zb6 p)[i]? = some x.1:=by unfold Zb6; rw [List.getElem?_map,hx]; rfl
  have hi':i < (Zb6 p).length:=by omega
  have hnl:=Zob L d h hL p (List.mem_of_getElem? hp) x mem
  have hn:=ZbQ L (by omega) x.1 s hnl.1 hnl.2 (by unfold Len; omega) (by omega)
  have hd:=Zot L (by omega) d h hL k p hp i x hx
  rw [GZ]
  simp only [hg,Zx]
  simp only [Zj,Zc,cond_true,cond_false,Zg,Zx,Za,Zm,condC,Zi,Zh,Zl,ZH,ZP,Z5,hi',hq,hn,hd,JW,apS (show s.length≤8000000000000 by omega),wrap_in (show -9223372036854775808≤(i:Int) + 1 by omega) (by omega)]
  rw [← Ze8]
  show _=bif !decide ((Yy x.1 x.2 s).1=0) then some (Yy x.1 x.2 s).1 else self1 (0,(Yy x.1 x.2 s).2,(i:Int) + 1,())
  by_cases c:(Yy x.1 x.2 s).1=0
  ·rw [ZeA c]
  ·simp [c]
 ·rw [GZ,← hlen]
  simp only [hg,Zx]
  simp only [Zj,Zc,cond_true,cond_false,Zg,Zx,Za,Zm,condC,Zi,Zh,Zl,ZH,ZP,Z5,wrap_in (show -9223372036854775808≤(k:Int) + 1 by omega) (by omega)]
theorem outer (L:Nat)(h1:1000≤L)(d:Ze)(h:ZG d)(hL:SizeOf.sizeOf d≤L)(E:Option Int)(hE:(bif decide ((d.Starts.length:Int) > 32) then some (6:Int) else Zp (Ha d L) L (0,0,()))=E):∀ (m k:Nat) (s:Seen),k≤10→10 - k < m→s.length≤32 * k →
  Zp (JZ d L ((Xz d).map Zb6)) m (0,s,(k:Int),())=if decide ((D6 (((Xz d).drop k).map stepD) s).1≠0)=true then some (D6 (((Xz d).drop k).map stepD) s).1 else E
 | 0,_,_,_,h,_=>absurd h (Nat.not_lt_zero _)
 | m + 1,k,s,hk,hm,hs=>by
  show JZ d L ((Xz d).map Zb6) (Zp (JZ d L ((Xz d).map Zb6)) m) (0,s,(k:Int),())=_
  have hlen:(Xz d).length=10:=rfl
  have hlm:((Xz d).map Zb6).length=10:=by rw [List.length_map,hlen]
  rcases Nat.lt_or_ge k 10 with hlt | hge
  ·have hp:=List.getElem?_eq_getElem (show k < (Xz d).length by omega)
   generalize (Xz d)[k]=p at hp
   have hg:ZJ ((Xz d).map Zb6) (k:Int)=some (Zb6 p):=by rw [Zg,List.getElem?_map,hp]; rfl
   have hnl:(Zb6 p).length=p.2.length:=by simp [Zb6]
   have hmost:=Zoa d k p hp
   have hdrop:(Xz d).drop k=p :: (Xz d).drop (k + 1):=by
    rw [List.drop_eq_getElem_cons (show k < (Xz d).length by omega)]
    congr 1
    exact Option.some.inj ((List.getElem?_eq_getElem (show k < (Xz d).length by omega)).symm.trans hp)
   have hguard:(decide ((p.2.length:Int) > 32) || (decide ((k:Int)=9) && decide ((p.2.length:Int) > 16)))=decide (p.1 < (p.2.length:Int)):=by
    rw [hmost]
    by_cases c:k=9
    ·subst c; simp; omega
    ·rw [if_neg c,show decide ((k:Int)=9)=false by simp only [decide_eq_false_iff_not]; omega]; simp
   rw [JZ,hdrop,List.map_cons,D6]
   simp only [hlm,show decide ((k:Int) < ((10:Nat):Int))=true by simp only [decide_eq_true_eq]; omega,cond_true,hg,Zx,hnl]
   simp only [Zj,Zc,cond_true,cond_false,Zg,Zx,Za,Zm,condC,Zi,Zh,Zl,ZH,ZP,Z5,hguard]
   by_cases c:p.1 < (p.2.length:Int)
   ·have e:stepD p s=(6,s):=by unfold stepD Xf; rw [if_pos (by simpa using c)]
    simp [c,e]
   ·have e:stepD p s=YO Hq p.2 s:=by unfold stepD Xf; rw [if_neg (by simpa using c)]
    have hpl:p.2.length≤32:=by rw [hmost] at c; split at c <;> omega
    rw [show decide (p.1 < (p.2.length:Int))=false by simpa using c,cond_false,inner L h1 d h hL k p hp hpl hlt,e]
    have hsl:(YO Hq p.2 s).2.length≤32 * (k + 1):=by have:=Zn7 p.2 s; omega
    have ih:=outer L h1 d h hL E hE m (k + 1) (YO Hq p.2 s).2 hlt (by omega) hsl
    by_cases z:(YO Hq p.2 s).1=0
    ·simp only [z,ne_eq,not_true_eq_false,decide_false,Bool.false_eq_true,if_false]
     exact ih
    ·simp [z]
    exact hs
  ·have:k=10:=by omega
   subst this
   rw [JZ,hlm,show (Xz d).drop 10=[] from rfl]
   simp only [Zj,Zc,cond_true,cond_false,Zg,Zx,Za,Zm,condC,Zi,Zh,Zl,ZH,ZP,Z5,show decide (((10:Nat):Int) < ((10:Nat):Int))=false from rfl,hE]
   simp [D6]
theorem Zq0 (L:Nat)(h1:1000≤L)(d:Ze)(h:ZG d)(hL:SizeOf.sizeOf d≤L)(hd:(D6 ((Xz d).map stepD) []).1=0)(hl:d.Laws.length≤32):Zp (JY d L) L ([],0,())=some (YO (fun l:ZeF=>Yy l.Name (ZrX d l)) d.Laws []).1:=by
 have hs:=Sh.of hL
 have hz:=Jw d
 rw [ZvO (f := JY d L) (fun s i=>(s,i,())) d.Laws (fun l:ZeF=>Yy l.Name (ZrX d l)) 0 (fun _=>some 0) hs.law (fun x s=>Ze9 _ _ _) (fun self s i x hx hi mem hsl=>by
  have hm:=Z1r mem
  have e:=Z0I L d h hs (by omega) hd x (h.Laws.2 x mem) (by omega) (by omega) s (by unfold Len; omega) (by omega)
  rw [JY]
  simp only [Zj,Zc,cond_true,cond_false,Zg,Zx,Za,Zm,condC,Zi,Zh,Zl,ZH,ZP,Z5,hi,hx,e,apS (show s.length≤8000000000000 by omega),wrap_succ hi (by omega)]
  by_cases c:(Yy x.Name (ZrX d x) s).1=0
  ·rw [ZeA c]
  ·simp [c]) (fun self s hsl=>by rw [JY]; simp only [Zj,Zc,cond_true,cond_false,Zg,Zx,Za,Zm,condC,Zi,Zh,Zl,ZH,ZP,Z5]) [] (Nat.le_refl _)]
 by_cases c:(YO (fun l:ZeF=>Yy l.Name (ZrX d l)) d.Laws []).1=0 <;> simp [c]
theorem Zw3 (L:Nat)(h1:1000≤L)(d:Ze)(h:ZG d)(hL:SizeOf.sizeOf d≤L):DJ L (d,())=some (ZhT d):=by
 have hs:=Sh.of hL
 have hz:=Jw d
 rw [ZoC,ZkZ L d h hs,Zx,ZmV,ZwO]
 have o:=outer L h1 d h hL _ rfl L 0 [] (Nat.zero_le _) (by omega) (Nat.le_refl _)
 rw [List.drop_zero] at o
 rw [show ((0:Int))=((0:Nat):Int) from rfl]
 refine o.trans ?_
 unfold Zzz
 by_cases hd:(D6 ((Xz d).map stepD) []).1=0
 ·rw [if_neg (by simp [hd]),if_neg (by simp [hd])]
  have st:Zp (Ha d L) L (0,0,())=some (if decide (Yk (VZ d) d.Starts≠0)=true then Yk (VZ d) d.Starts else DY d):=by
   have hl:=h.Starts.1
   have lw:(bif decide ((d.Laws.length:Int) > 32) then some (6:Int) else Zp (JY d L) L ([],0,()))=some (DY d):=by
    unfold DY Xf
    by_cases c:32 < (d.Laws.length:Int)
    ·simp [c]
    ·rw [Zq0 L h1 d h hL hd (by omega)]; simp [c]
   refine NS d.Starts (fun l _=>some (if decide (Yk (VZ d) l≠0)=true then Yk (VZ d) l else DY d)) hs.sta 0 (fun self n i x r hx hi mem e=>?_) (fun self n=>?_)
   ·have hm:=Zpk (fun v:X0=>v.Routine) (fun x=>by cases x; simp; omega) mem
    have hx2:SizeOf.sizeOf x.Args < SizeOf.sizeOf x:=by cases x; simp; omega
    have ha:=ZI x.Args
    rw [Ha]
    simp only [Zj,Zc,cond_true,cond_false,Zg,Zx,Za,Zm,condC,Zi,Zh,Zl,ZH,ZP,Z5,hi,hx,ZtE L d h hs x (h.Starts.2 x mem) (by omega),wrap_succ hi (by omega),e,Yk]
    by_cases c:VZ d x=0 <;> simp [c]
   ·rw [Ha]; simp only [Zj,Zc,cond_true,cond_false,Zg,Zx,Za,Zm,condC,Zi,Zh,Zl,ZH,ZP,Z5,lw,Yk]; rfl
  rw [st]
  unfold ZbZ NK
  by_cases c:32 < (d.Starts.length:Int) <;> simp [c]
 ·rw [if_pos (by simp [hd]),if_pos (by simp [hd])]
theorem Zri (L:Nat)(h1:1000≤L)(n:List UInt8)(hn:n.length≤140737488351232)(hnL:n.length < L)(d:Ze)(h:ZG d)(hL:SizeOf.sizeOf d≤L):MM L (⟨n,[],[d],[]⟩,())=some (M1 n d):=by
 have hs:=Sh.of hL
 have e1:=JX L n (by unfold Len; omega) hnL (by omega)
 have e2:=ZbQ L (by omega) d.Name [] (by have:=h.Name; unfold Len; omega) hs.nm (by simp [Len]) (by simp; omega)
 have e3:MN L (⟨n,[],[d],[]⟩,())=some 0:=by
  rw [Zl3,ZeU _ (show 2 < L by omega)]
  simp only [ZaY,Zxk,cond_false]
 have e5:Zp (Ba ⟨n,[],[d],[]⟩ L) L ([],0,())=some (Yy d.Name (ZhT d) []).1:=by
  rw [ZeU _ (show 2 < L by omega)]
  simp only [Ba,one1,w01,e2,e3,Zx,Za,cond_true,cond_false,Zw3 L h1 d h hL,JW,apS (show ([]:List (List UInt8)).length≤8000000000000 by simp),Z5]
  rw [← Ze8]
  by_cases c:(Yy d.Name (ZhT d) []).1=0 <;> simp [c]
 have e4:Zp (Bc ⟨n,[],[d],[]⟩ L) L (0,[],0,())=some (Yy d.Name (ZhT d) []).1:=by
  rw [ZeU _ (show 2 < L by omega)]
  simp only [Bc,Zxk,one1,cond_false,XX,JW,Zx,Za,Z5,Y5,if_true,Wh,e5]
  rfl
 rw [Zlz,e1,e4]
 simp only [Zx,Za,XX,JW,Zxk,Y5,if_true,Wh,Z5,M1]
 by_cases a:VE n=0 <;> simp [a]
end Go.Proofs.YtgjcjbhhhlelnaaGreatDoor
end
section
namespace Go.Proofs.YtgjcjbhhhlelnaaGreatDoor
open Go Go.Proofs.YtgjcjbhhhlelnaaGreatDoor.Abs Go.Proofs.YtgjcjbhhhlelnaaGreatDoor.Tl
set_option maxRecDepth 100000
mutual
theorem Zny (L:Nat):∀ (m:Nat) (a b:Zu),Yi a→2 * SizeOf.sizeOf a≤m→m≤L→MW L m (a,b,())=some (AP a b)
 | 0,e,_,h,hs,_=>absurd hs (by have:=Na e; omega)
 | m + 1,e,b,h,hs,hm=>by
  have hz:=ZrO e
  have ih:=Zle L m e.Kids b.Kids h.k (fun x hx=>h.Kids.2 x hx) (by omega) (by omega)
  simp only [Zj,Zc,cond_true,cond_false,Zg,Zx,Za,Zm,condC,Zi,Zh,Zl,ZH,ZP,Z5,Zo5,ih,ZbX,Zk9]; simp only [Yu,Xu,if_true,if_false,Bool.false_eq_true,ne_eq,decide_not,gt_iff_lt,ge_iff_le]
  by_cases h1:e.Op=b.Op <;> by_cases h2:e.Name=b.Name <;> by_cases h3:e.N=b.N <;> simp [h1,h2,h3]
theorem Zle (L:Nat):∀ (m:Nat) (a b:List Zu),a.length≤4611686018427387→(∀ x ∈ a,Yi x)→2 * SizeOf.sizeOf a + 1≤m→m≤L→Oe L m (a,b,())=some (if (!decide ((a.length:Int)=(b.length:Int)))=true then false else all2 AP a b)
 | 0,e,_,h,_,hs,_=>absurd hs (by omega)
 | m + 1,a,b,h,ho,hs,hm=>by
  have hk:=ZI a
  rcases Zxh a b with ⟨hl1,hl2⟩ | ⟨hl1,hl2⟩
  ·have lp:Zp (Un m a b L) L (0,())=some (all2 AP a b):=by
    refine ZeV a b hl1 (fun l l'=>some (all2 AP l l')) (by omega) (fun self i x y r r' hx hy hi mem e'=>?_) (fun self=>?_)
    ·have ih:=Zny L m x y (ho x mem) (by have:=List.sizeOf_lt_of_mem mem; omega) (by omega)
     rw [Un]; simp only [Zj,Zc,cond_true,cond_false,Zg,Zx,Za,Zm,condC,Zi,Zh,Zl,ZH,ZP,Z5,hi,hx,hy,ih,wrap_succ hi (by omega),e',all2]; simp only [Yu,Xu,if_true,if_false,Bool.false_eq_true,ne_eq,decide_not,gt_iff_lt,ge_iff_le]
    ·rw [Un]; simp only [Zj,Zc,cond_true,cond_false,Zg,Zx,Za,Zm,condC,Zi,Zh,Zl,ZH,ZP,Z5,all2]
   simp only [Zj,Zc,cond_true,cond_false,Zg,Zx,Za,Zm,condC,Zi,Zh,Zl,ZH,ZP,Z5,Aw,lp,hl2,Bool.not_true]; simp only [Yu,Xu,if_true,if_false,Bool.false_eq_true,ne_eq,decide_not,gt_iff_lt,ge_iff_le]
  ·simp only [Zj,Zc,cond_true,cond_false,Zg,Zx,Za,Zm,condC,Zi,Zh,Zl,ZH,ZP,Z5,Aw,hl2,Bool.not_false]; simp only [Yu,Xu,if_true,if_false,Bool.false_eq_true,ne_eq,decide_not,gt_iff_lt,ge_iff_le]
end
theorem Zrm (L:Nat)(e:Zu)(h:Yi e)(hL:2 * SizeOf.sizeOf e≤L):OJ L (e,⟨0,[],0,[]⟩,())=some (FK e):=by
 rw [show OJ L (e,⟨0,[],0,[]⟩,())=_ from Zny L L e _ h hL (Nat.le_refl _),Zai]
mutual
def Zib (hd:Zu→Bool):Zu→Bool
 | ⟨o,a,n,ks⟩=>hd ⟨o,a,n,ks⟩ && DR hd ks
def DR (hd:Zu→Bool):List Zu→Bool
 | []=>true
 | x :: r=>Zib hd x && DR hd r
end
theorem Zpq (hd:Zu→Bool)(e:Zu):Zib hd e=(hd e && DR hd e.Kids):=by cases e; rw [Zib]
def hdA (d:Ze)(c:Wp)(e:Zu):Bool :=
 if decide (e.Op=25)=true then decide (0≤e.N) && decide (e.N < c.Slots) else if decide (e.Op=26)=true then decide (0≤e.N) && decide (e.N < (d.Vars.length:Int)) else if decide (e.Op=22)=true then decide (0≤e.N) && decide (e.N < (d.Resources.length:Int)) else if decide (e.Op=23)=true then decide (0≤e.N) && decide (e.N < (d.Stores.length:Int))
 else if decide (e.Op=24)=true then decide (e.N < IntKind.i64.wrap ((d.Resources.length:Int) + (d.Queues.length:Int))) else true
def hdB (d:Ze)(c:Wp)(e:Zu):Bool :=
 if (decide (e.Op=25) && decide (c.Slots≤e.N))=true then false else if (decide (e.Op=26) && decide ((d.Vars.length:Int)≤e.N))=true then false else if (decide (e.Op=22) && decide ((d.Resources.length:Int)≤e.N))=true then false else if (decide (e.Op=23) && decide ((d.Stores.length:Int)≤e.N))=true then false
 else if (decide (e.Op=24) && decide (IntKind.i64.wrap ((d.Resources.length:Int) + (d.Queues.length:Int))≤e.N))=true then false else true
theorem Z0k (d:Ze)(c:Wp)(e:Zu)(h:Zb7 true e=0):hdA d c e=hdB d c e:=by
 have key:(e.Op=25∨e.Op=26∨e.Op=22∨e.Op=23)→0≤e.N:=by
  intro ho
  rcases ho with ho | ho | ho | ho <;> simp [Zb7,ho,ZrY,ZqM,Zdl,ZiM,ZfQ] at h <;> grind
 unfold hdA hdB
 by_cases h1:e.Op=25
 ·have:=key (.inl h1); simp [h1,this]; (first | omega | (rw [← decide_not]; exact decide_eq_decide.2 (by omega)) | (split <;> simp_all <;> omega) | grind)
 by_cases h2:e.Op=26
 ·have:=key (.inr (.inl h2)); simp [h2,this]; (first | omega | (rw [← decide_not]; exact decide_eq_decide.2 (by omega)) | (split <;> simp_all <;> omega) | grind)
 by_cases h3:e.Op=22
 ·have:=key (.inr (.inr (.inl h3))); simp [h3,this]; (first | omega | (rw [← decide_not]; exact decide_eq_decide.2 (by omega)) | (split <;> simp_all <;> omega) | grind)
 by_cases h4:e.Op=23
 ·have:=key (.inr (.inr (.inr h4))); simp [h4,this]; (first | omega | (rw [← decide_not]; exact decide_eq_decide.2 (by omega)) | (split <;> simp_all <;> omega) | grind)
 by_cases h5:e.Op=24
 ·simp [h5]; (first | omega | (rw [← decide_not]; exact decide_eq_decide.2 (by omega)) | (split <;> simp_all <;> omega) | grind)
 simp [h1,h2,h3,h4,h5]
theorem ZmK {α:Type}(f:α→Int):∀ l:List α,Yk f l=0→∀ x ∈ l,f x=0
 | [],_,x,hx=>by cases hx
 | y :: l,h,x,hx=>by
  rw [Yk] at h
  by_cases c:f y=0
  ·simp [c] at h
   rcases List.mem_cons.1 hx with rfl | hx
   ·exact c
   ·exact ZmK f l h x hx
  ·simp [c] at h
mutual
theorem Zuq (d:Ze) (c:Wp):∀ e:Zu,JK true e=0→Zib (hdA d c) e=Zib (hdB d c) e
 | ⟨o,a,n,ks⟩,h=>by
  rw [Zdt] at h
  by_cases z:Zb7 true ⟨o,a,n,ks⟩=0
  ·simp [z] at h
   rw [Zib,Zib,Z0k d c _ z,Zps d c ks (ZmK _ ks h)]
  ·simp [z] at h
theorem Zps (d:Ze) (c:Wp):∀ l:List Zu,(∀ x ∈ l,JK true x=0)→DR (hdA d c) l=DR (hdB d c) l
 | [],_=>by rw [DR,DR]
 | x :: l,h=>by rw [DR,DR,Zuq d c x (h x (List.mem_cons_self ..)),Zps d c l fun y hy=>h y (List.mem_cons_of_mem _ hy)]
end
theorem Zrq (L:Nat)(p:Zk)(si:Int)(sc:ZN)(hs:ZJ p.Sites si=some sc)(c:Wp):∀ (m:Nat) (e:Zu),Yi e→SizeOf.sizeOf e≤m→m≤L→MZ L m (p,si,c,e,())=some (Zib (hdB sc.Decl c) e)
 | 0,e,h,hsz,_=>absurd hsz (by have:=Na e; omega)
 | m + 1,e,h,hsz,hm=>by
  have hk:=ZI e.Kids; have hz:=ZrO e; have hl:=h.k
  have lp:Zp (TC m p si c e L) L (0,())=some (DR (hdB sc.Decl c) e.Kids):=by
   refine CU e.Kids (fun l=>some (DR (hdB sc.Decl c) l)) (by omega) (fun self i x r hx hi mem e'=>?_) (fun self=>?_)
   ·have ih:=Zrq L p si sc hs c m x (h.Kids.2 x mem) (by have:=Aa mem; omega) (by omega)
    rw [TC]; simp only [Zj,Zc,cond_true,cond_false,Zg,Zx,Za,Zm,condC,Zi,Zh,Zl,ZH,ZP,Z5,hi,hx,ih,wrap_succ hi (by omega),e',DR]
    cases Zib (hdB sc.Decl c) x <;> rfl
   ·rw [TC]; simp only [Zj,Zc,cond_true,cond_false,Zg,Zx,Za,Zm,condC,Zi,Zh,Zl,ZH,ZP,Z5,DR]
  rw [ZoF,hs,Zx,lp,Zpq]
  simp only [Zj,Zc,cond_true,cond_false,Zg,Zx,Za,Zm,condC,Zi,Zh,Zl,ZH,ZP,Z5,hdB]; simp only [Yu,Xu,if_true,if_false,Bool.false_eq_true,ne_eq,decide_not,gt_iff_lt,ge_iff_le]
  (repeat' split) <;> simp_all
theorem Zpr (hd:Zu→Bool):∀ l:List Zu,(!(l.any fun y=>!(Zib hd y)))=DR hd l
 | []=>by rw [DR]; rfl
 | x :: l=>by rw [List.any_cons,DR,← Zpr hd l]; cases Zib hd x <;> simp
theorem Zrr (L:Nat)(p:Zk)(si:Int)(sc:ZN)(hs:ZJ p.Sites si=some sc)(c:Wp):∀ (m:Nat) (e:Zu),Yi e→SizeOf.sizeOf e≤m→m≤L→Yg L m (⟨p,si,c⟩,e,())=some (Zib (hdA sc.Decl c) e)
 | 0,e,h,hsz,_=>absurd hsz (by have:=Na e; omega)
 | m + 1,e,h,hsz,hm=>by
  have hk:=ZI e.Kids; have hz:=ZrO e; have hl:=h.k
  have lp:Zp (Ye m ⟨p,si,c⟩ e L) L (0,())=some (GU (fun y=>!(Zib (hdA sc.Decl c) y)) e.Kids 0):=by
   refine ZkI e.Kids (fun l i=>some (GU (fun y=>!(Zib (hdA sc.Decl c) y)) l i)) (by omega) (fun self i x r hx hi mem e'=>?_) (fun self=>?_)
   ·have ih:=Zrr L p si sc hs c m x (h.Kids.2 x mem) (by have:=Aa mem; omega) (by omega)
    rw [Ye]; simp only [Zj,Zc,cond_true,cond_false,Zg,Zx,Za,Zm,condC,Zi,Zh,Zl,ZH,ZP,Z5,hi,hx,ih,wrap_succ hi (by omega),e',GU]; simp only [Yu,Xu,if_true,if_false,Bool.false_eq_true,ne_eq,decide_not,gt_iff_lt,ge_iff_le]
   ·rw [Ye]; simp only [Zj,Zc,cond_true,cond_false,Zg,Zx,Za,Zm,condC,Zi,Zh,Zl,ZH,ZP,Z5,GU]
  have hge:decide (GU (fun y=>!(Zib (hdA sc.Decl c) y)) e.Kids 0 ≥ 0)=e.Kids.any fun y=>!(Zib (hdA sc.Decl c) y):=CJ _ _ 0 (Int.le_refl _)
  have hmost:∀ w o,Y2 L (⟨p,si,c⟩,w,o,())=_:=fun w o=>VF L ⟨p,si,c⟩ w o
  rw [Sm,show UY=Ye from rfl,show UZ=Ye from rfl,show Ko=Ye from rfl,show Kq=Ye from rfl,show Kr=Ye from rfl,lp,Zpq]
  simp only [Zj,Zc,cond_true,cond_false,Zg,Zx,Za,Zm,condC,Zi,Zh,Zl,ZH,ZP,Z5,Jq,hmost,hs,hge,Zpr,hdA,Int.reduceEq,decide_true,decide_false]; simp only [Yu,Xu,if_true,if_false,Bool.false_eq_true,ne_eq,decide_not,gt_iff_lt,ge_iff_le,Bool.true_and]
  (repeat' split) <;> simp_all
end Go.Proofs.YtgjcjbhhhlelnaaGreatDoor
end
section
namespace Go.Proofs.YtgjcjbhhhlelnaaGreatDoor
open Go Go.Proofs.YtgjcjbhhhlelnaaGreatDoor.Abs Go.Proofs.YtgjcjbhhhlelnaaGreatDoor.Tl
set_option maxRecDepth 100000
def Zxb (p:Zk)(a b:Int):Int×Bool×PUnit:=match p.Links.find? (fun l=>decide (l.From=a) && decide (l.To=b)) with
 | some l=>(l.Delay,true,())
 | none=>(0,false,())
theorem ZyO (L:Nat)(p:Zk)(a b:Int)(h:p.Links.length≤4611686018427387)(hL:p.Links.length < L):DC L (p,a,b,())=some (Zxb p a b):=by
 rw [Zo2,ZkI p.Links (fun l i=>some (GU (fun l:VQ=>decide (l.From=a) && decide (l.To=b)) l i)) hL (fun self i x r hx hi _ e=>by
  rw [NF]; simp only [Zj,Zc,cond_true,cond_false,Zg,Zx,Za,Zm,condC,Zi,Zh,Zl,ZH,ZP,Z5,hi,hx,wrap_succ hi (by omega),e,GU]; simp only [Yu,Xu,if_true,if_false,Bool.false_eq_true,ne_eq,decide_not,gt_iff_lt,ge_iff_le]) (fun self=>by rw [NF]; simp only [Zj,Zc,cond_true,cond_false,Zg,Zx,Za,Zm,condC,Zi,Zh,Zl,ZH,ZP,Z5,GU]),Zx,Zxb]
 rcases ZbN (fun l:VQ=>decide (l.From=a) && decide (l.To=b)) p.Links 0 with ⟨e1,e2⟩ | ⟨k,r,e1,e2,e3⟩
 ·rw [e1,e2]; rfl
 ·rw [e1,e2,Int.zero_add,show decide ((k:Int) < 0)=false by simp only [decide_eq_false_iff_not]; omega,cond_false,Zg,e3]; rfl
theorem ZyZ (L:Nat)(p:Zk)(a b:Int)(h:p.Links.length≤4611686018427387)(hL:p.Links.length < L):FI L (p,a,b,())=some (Zxb p a b):=by
 rw [Zry,Zxb]
 refine CU p.Links (fun l=>some (match l.find? (fun l=>decide (l.From=a) && decide (l.To=b)) with | some l=>(l.Delay,true,()) | none=>(0,false,()))) hL (fun self i x r hx hi _ e=>?_) (fun self=>?_)
 ·rw [Zac]; simp only [Zj,Zc,cond_true,cond_false,Zg,Zx,Za,Zm,condC,Zi,Zh,Zl,ZH,ZP,Z5,hi,hx,wrap_succ hi (by omega),e,List.find?_cons]
  cases decide (x.From=a) <;> cases decide (x.To=b) <;> rfl
 ·rw [Zac]; simp only [Zj,Zc,cond_true,cond_false,Zg,Zx,Za,Zm,condC,Zi,Zh,Zl,ZH,ZP,Z5,List.find?_nil]
def Ztk (p:Zk)(d:Ze)(c:Wp)(k:Int):Int :=
 if decide (k=1)=true then c.Slots else if decide (k=2)=true then (d.Vars.length:Int) else if decide (k=3)=true then (d.Streams.length:Int) else if decide (k=4)=true then (c.Instrs.length:Int) else if decide (k=5)=true then (d.Resources.length:Int) else if decide (k=6)=true then (d.Stores.length:Int) else if decide (k=7)=true then (d.Belts.length:Int) else if decide (k=8)=true then (d.Queues.length:Int) else if decide (k=9)=true then (p.Sites.length:Int) else if decide (k=11)=true then (d.Tallies.length:Int) else if decide (k=12)=true then (d.Levels.length:Int) else if decide (k=13)=true then (d.Counts.length:Int) else 1
def ZsM (p:Zk)(d:Ze)(c:Wp)(k x:Int):Bool:=decide (0≤x) && decide (x < Ztk p d c k)
theorem ZyV (L:Nat)(p:Zk)(si:Int)(sc:ZN)(hs:ZJ p.Sites si=some sc)(c:Wp)(k x o:Int)(hk:k≠10):ZW L (⟨p,si,c⟩,k,x,o,())=some (ZsM p sc.Decl c k x):=by
 have h10:decide (k=10)=false:=by simp [hk]
 have hmost:Y2 L (⟨p,si,c⟩,k,o,())=some (Ztk p sc.Decl c k):=by
  rw [VF]; simp only [Zj,Zc,cond_true,cond_false,Zg,Zx,Za,Zm,condC,Zi,Zh,Zl,ZH,ZP,Z5,hs,h10,Ztk]; simp only [Yu,Xu,if_true,if_false,Bool.false_eq_true,ne_eq,decide_not,gt_iff_lt,ge_iff_le]
 simp only [Zj,Zc,cond_true,cond_false,Zg,Zx,Za,Zm,condC,Zi,Zh,Zl,ZH,ZP,Z5,Jq,hmost,ZsM]
theorem Zrg (L:Nat)(p:Zk)(si:Int)(sc:ZN)(hs:ZJ p.Sites si=some sc)(c:Wp)(x o:Int)(so:ZN)(ho:ZJ p.Sites o=some so):ZW L (⟨p,si,c⟩,10,x,o,())=some (decide (0≤x) && decide (x < (so.Routines.length:Int))):=by
 have hmost:Y2 L (⟨p,si,c⟩,10,o,())=some (so.Routines.length:Int):=by
  rw [VF]; simp only [Zj,Zc,cond_true,cond_false,Zg,Zx,Za,Zm,condC,Zi,Zh,Zl,ZH,ZP,Z5,hs,ho,Int.reduceEq,decide_true,decide_false]
 simp only [Zj,Zc,cond_true,cond_false,Zg,Zx,Za,Zm,condC,Zi,Zh,Zl,ZH,ZP,Z5,Jq,hmost]
def ZzE (w:List UInt8):Int:=if w=[115,108,111,116] then 1 else if w=[118,97,114] then 2 else if w=[115,116,114,101,97,109] then 3 else if w=[105,110,115,116,114] then 4 else if w=[114,101,115,111,117,114,99,101] then 5 else if w=[115,116,111,114,101] then 6 else if w=[98,101,108,116] then 7 else if w=[113,117,101,117,101] then 8 else if w=[115,105,116,101] then 9 else if w=[116,97,108,108,121] then 11 else if w=[108,101,118,101,108] then 12 else if w=[99,111,117,110,116] then 13 else 0
def ZnF:List (List UInt8):=[[],[115,108,111,116],[118,97,114],[115,116,114,101,97,109],[105,110,115,116,114],[114,101,115,111,117,114,99,101],[115,116,111,114,101],[98,101,108,116],[113,117,101,117,101],[115,105,116,101],[116,97,108,108,121],[108,101,118,101,108],[99,111,117,110,116]]
theorem Znm (L:Nat)(p:Zk)(si:Int)(sc:ZN)(hs:ZJ p.Sites si=some sc)(c:Wp)(w:List UInt8)(hw:w ∈ ZnF)(x:Int):UL L (p,si,c,w,x,())=some (decide (ZzE w=0) || ZsM p sc.Decl c (ZzE w) x):=by
 simp only [ZnF,List.mem_cons,List.not_mem_nil,or_false] at hw
 rcases hw with rfl | rfl | rfl | rfl | rfl | rfl | rfl | rfl | rfl | rfl | rfl | rfl | rfl <;> (rw [Zj4,ZlA,hs,show decide (x ≥ 0)=decide (0≤x) from rfl]; unfold ZsM; generalize decide (0≤x)=b; cases b <;> rfl)
structure Rel (op:Int)(f:IX)(g:VA):Prop where
 rc:g.C=f.c
 re:g.E=f.e
 rf:g.F=f.f
 rargs:g.Args=f.args
 rflag:g.Flag=f.preempt
 rdist:f.dist=decide (op=3)
 rgdist:g.Dist=f.dist
 wa:g.A ∈ ZnF
 na:ZzE g.A=f.a
 wa0:decide (g.A=[])=decide (f.a=0)
 na10:f.a≠10
 wb0:decide (g.B=[])=decide (f.b=0)
 wb:op≠14→op≠15→g.B ∈ ZnF∧ZzE g.B=f.b∧f.b≠10
 f14:op=14→f.a=9
 f15:op=15→f.a=0
theorem Zqa (L:Nat)(op:Int)(h:1≤op∧op≤19):∃ f g gs,ZJ Ip op=some f∧XO L ()=some gs∧ZJ gs op=some g∧Rel op f g:=by
 have:op=1∨op=2∨op=3∨op=4∨op=5∨op=6∨op=7∨op=8∨op=9∨op=10∨op=11∨op=12∨op=13∨op=14∨op=15∨op=16∨op=17∨op=18∨op=19:=by omega
 rcases this with rfl | rfl | rfl | rfl | rfl | rfl | rfl | rfl | rfl | rfl | rfl | rfl | rfl | rfl | rfl | rfl | rfl | rfl | rfl <;>
  exact ⟨_,_,_,rfl,Zl8 L,rfl,⟨rfl,rfl,rfl,rfl,rfl,rfl,rfl,by decide,by decide,by decide,by decide,by decide,by decide,by decide,by decide⟩⟩
end Go.Proofs.YtgjcjbhhhlelnaaGreatDoor
end
section
namespace Go.Proofs.YtgjcjbhhhlelnaaGreatDoor
open Go Go.Proofs.YtgjcjbhhhlelnaaGreatDoor.Abs Go.Proofs.YtgjcjbhhhlelnaaGreatDoor.Tl
set_option maxRecDepth 100000
theorem Zx9 (c x:Bool):(bif c then false else x)=(!c && x):=by cases c <;> rfl
theorem Zkf (i:YK):SizeOf.sizeOf i.E < SizeOf.sizeOf i∧SizeOf.sizeOf i.F < SizeOf.sizeOf i∧SizeOf.sizeOf i.Args < SizeOf.sizeOf i∧SizeOf.sizeOf i.Dist < SizeOf.sizeOf i:=by cases i; simp; omega
def Zi4 (f:IX)(i:YK):Bool:=(!decide (f.a=0) || decide (i.A=0)) && (!decide (f.b=0) || decide (i.B=0)) && (f.c || decide (i.C=0)) && (f.e || FK i.E) && (f.f || FK i.F) && (f.args || decide ((i.Args.length:Int)=0)) && (f.dist || Nr i.Dist) && (f.preempt || !i.Flag)
theorem Zwv (L:Nat)(i:YK)(h:IQ i)(hL:2 * SizeOf.sizeOf i≤L)(f:IX)(hf:ZJ Ip i.Op=some f):I8 L (i,())=some (Zi4 f i):=by
 have hz:=Zkf i
 have z:=fun e (he:Yi e) (hl:SizeOf.sizeOf e≤L)=>show H7 L (e,())=some (FK e) by simp only [Zj,Zc,cond_true,cond_false,Zg,Zx,Za,Zm,condC,Zi,Zh,Zl,ZH,ZP,Z5,Zlk,Zrf L e _ he hl,Zai]
 rw [Zjo,hf]
 simp only [Zj,Zc,cond_true,cond_false,Zg,Zx,Za,Zm,condC,Zi,Zh,Zl,ZH,ZP,Z5,z i.E h.E (by omega),z i.F h.F (by omega),Zhm L i.Dist _ h.Dist (by omega),Gw,Zi4]
theorem Zu6 (n:Nat):(!decide ((n:Int) > 0))=decide ((n:Int)=0):=by rw [← decide_not]; exact decide_eq_decide.2 (by omega)
theorem Zw0 (L:Nat)(i:YK)(h:IQ i)(hL:2 * SizeOf.sizeOf i≤L)(f:IX)(g:VA)(gs:List VA)(hg:XO L ()=some gs)(hg':ZJ gs i.Op=some g)(r:Rel i.Op f g):MR L (i,())=some (Zi4 f i):=by
 have hz:=Zkf i
 rw [ZlD,hg,Za,Zx,hg',Zx]
 simp only [Zj,Zc,cond_true,cond_false,Zg,Zx,Za,Zm,condC,Zi,Zh,Zl,ZH,ZP,Z5,Zrm L i.E h.E (by omega),Zrm L i.F h.F (by omega),ZbP L i.Dist _ h.Dist (by omega),Gw,r.wa0,r.wb0,r.rc,r.re,r.rf,r.rargs,r.rflag,r.rgdist,Zx9,Bool.not_and,Bool.not_not,Zu6,Zi4]
 congr 1
 ac_rfl
def Zi8 (f:IX)(i:YK):List Zu:=(bif f.e then [i.E] else []) ++ ((bif f.f then [i.F] else []) ++ (bif f.args then i.Args else []))
theorem apE (l m:List Zu)(h:(l.length + m.length) * 56≤140737488355328):apT 56 l m=some (l ++ m):=by unfold apT; rw [if_pos h]
theorem Z1i (i:YK)(ha:i.Args.length * 56≤140737488351232):apT 56 [] [i.E]=some [i.E]∧apT 56 [] [i.F]=some [i.F]∧apT 56 [i.E] [i.F]=some ([i.E] ++ [i.F])∧apT 56 [] i.Args=some i.Args∧apT 56 [i.E] i.Args=some ([i.E] ++ i.Args)∧apT 56 [i.F] i.Args=some ([i.F] ++ i.Args)∧apT 56 ([i.E] ++ [i.F]) i.Args=some ([i.E] ++ [i.F] ++ i.Args) :=
 ⟨apE [] [i.E] (by simp),apE [] [i.F] (by simp),apE _ _ (by simp),apE [] i.Args (by simp only [List.length_nil]; omega),apE _ _ (by simp only [List.length_cons,List.length_nil]; omega),apE _ _ (by simp only [List.length_cons,List.length_nil]; omega),apE _ _ (by simp only [List.cons_append,List.nil_append,List.length_cons,List.length_nil]; omega)⟩
theorem Zjg (L:Nat)(n:Int):UH L (n,())=some (btw n 1 19):=Zjp L n
theorem ZfY (L:Nat)(n:Int):Ia L (n,())=some (btw n 1 19):=ZlC L n
theorem Zt9 (L:Nat)(i:YK)(h:IQ i)(hk:btw i.Op 1 19=true)(f:IX)(hf:ZJ Ip i.Op=some f):WS L (i,())=some (Zi8 f i):=by
 have ha:=h.Args.1
 simp only [Zj,Zc,cond_true,cond_false,Zg,Zx,Za,Zm,condC,Zi,Zh,Zl,ZH,ZP,Z5,Au,Zjg,hk,hf,Bool.not_true]
 unfold Zi8
 obtain ⟨a0,a1,a2,a3,a4,a5,a6⟩:=Z1i i ha
 cases f.e <;> cases f.f <;> cases f.args <;> simp only [cond_true,cond_false,a0,a1,a2,a3,a4,a5,a6,Zx,List.nil_append,List.append_nil,List.append_assoc]
theorem ZtD (L:Nat)(i:YK)(h:IQ i)(hk:btw i.Op 1 19=true)(f:IX)(g:VA)(gs:List VA)(hg:XO L ()=some gs)(hg':ZJ gs i.Op=some g)(r:Rel i.Op f g):MP L (i,())=some (Zi8 f i):=by
 have ha:=h.Args.1
 simp only [Zj,Zc,cond_true,cond_false,Zg,Zx,Za,Zm,condC,Zi,Zh,Zl,ZH,ZP,Z5,Zl7,ZfY,hk,hg,hg',r.re,r.rf,r.rargs,Bool.not_true]
 unfold Zi8
 obtain ⟨a0,a1,a2,a3,a4,a5,a6⟩:=Z1i i ha
 cases f.e <;> cases f.f <;> cases f.args <;> simp only [cond_true,cond_false,a0,a1,a2,a3,a4,a5,a6,Zx,List.nil_append,List.append_nil,List.append_assoc]
theorem ZxD (f:IX)(i:YK)(h:IQ i):(Zi8 f i).length≤4611686018427387∧(Zi8 f i).length≤2 + i.Args.length∧∀ x ∈ Zi8 f i,Yi x∧SizeOf.sizeOf x < SizeOf.sizeOf i:=by
 have hz:=Zkf i
 have ha:=h.Args.1
 have hl:(Zi8 f i).length≤2 + i.Args.length:=by
  unfold Zi8; cases f.e <;> cases f.f <;> cases f.args <;> simp <;> omega
 refine ⟨by omega,hl,fun x hx=>?_⟩
 unfold Zi8 at hx
 rcases List.mem_append.1 hx with hx | hx
 ·cases he:f.e <;> rw [he] at hx
  ·cases hx
  ·rw [List.mem_singleton.1 hx]; exact ⟨h.E,by omega⟩
 rcases List.mem_append.1 hx with hx | hx
 ·cases he:f.f <;> rw [he] at hx
  ·cases hx
  ·rw [List.mem_singleton.1 hx]; exact ⟨h.F,by omega⟩
 ·cases he:f.args <;> rw [he] at hx
  ·cases hx
  ·have hx:x ∈ i.Args:=hx
   exact ⟨h.Args.2 x hx,by have:=List.sizeOf_lt_of_mem hx; omega⟩
def esR (d:Ze)(c:Wp)(t:Int):List Zu→Int
 | []=>t
 | x :: r=>if decide (Qw true x≠0)=true then Qw true x else if (!(Zib (hdA d c) x))=true then 2 else esR d c t r
theorem lpA (L:Nat)(h1:1000≤L)(p:Zk)(si:Int)(sc:ZN)(hs:ZJ p.Sites si=some sc)(c:Wp)(i:YK)(h:IQ i)(hL:2 * SizeOf.sizeOf i≤L)(f:IX)(op:f.dist=decide (i.Op=3)):Zp (YL ⟨p,si,c⟩ i L f (Zi8 f i)) L (0,())=some (esR sc.Decl c (if decide (i.Op=3)=true then LQ i.Dist else 0) (Zi8 f i)):=by
 obtain ⟨e1,e2,e3⟩:=ZxD f i h
 have hz:=Zkf i; have hk:=ZI i.Args
 refine CU (Zi8 f i) (fun l=>some (esR sc.Decl c (if decide (i.Op=3)=true then LQ i.Dist else 0) l)) (by omega) (fun self j x r hx hi mem e=>?_) (fun self=>?_)
 ·obtain ⟨o1,o2⟩:=e3 x mem
  rw [YL]
  simp only [Zj,Zc,cond_true,cond_false,Zg,Zx,Za,Zm,condC,Zi,Zh,Zl,ZH,ZP,Z5,hi,hx,ZkY L x o1 (by omega),show Qi L (⟨p,si,c⟩,x,())=_ from Zrr L p si sc hs c L x o1 (by omega) (Nat.le_refl _),wrap_succ hi (by omega),e,esR]; simp only [Yu,Xu,if_true,if_false,Bool.false_eq_true,ne_eq,decide_not,gt_iff_lt,ge_iff_le]
 ·rw [YL]; simp only [Zj,Zc,cond_true,cond_false,Zg,Zx,Za,Zm,condC,Zi,Zh,Zl,ZH,ZP,Z5,op,Tv L i.Dist h.Dist (by omega) (by omega),esR]; simp only [Yu,Xu,if_true,if_false,Bool.false_eq_true,ne_eq,decide_not,gt_iff_lt,ge_iff_le]
theorem Zi2 (x:Zu)(h:Qw true x=0):JK true x=0:=by
 unfold Qw at h
 by_cases a:60 < ZpK x
 ·simp [a] at h
 by_cases b:12 < Zph x
 ·simp [a,b] at h
 simpa [a,b] using h
theorem lpB (L:Nat)(h1:1000≤L)(p:Zk)(si:Int)(sc:ZN)(hs:ZJ p.Sites si=some sc)(c:Wp)(i:YK)(h:IQ i)(hL:2 * SizeOf.sizeOf i≤L)(f:IX):Zp (Iy p si c i L (Zi8 f i)) L (0,())=some (esR sc.Decl c (if decide (i.Op=3)=true then LQ i.Dist else 0) (Zi8 f i)):=by
 obtain ⟨e1,e2,e3⟩:=ZxD f i h
 have hz:=Zkf i; have hk:=ZI i.Args
 refine CU (Zi8 f i) (fun l=>some (esR sc.Decl c (if decide (i.Op=3)=true then LQ i.Dist else 0) l)) (by omega) (fun self j x r hx hi mem e=>?_) (fun self=>?_)
 ·obtain ⟨o1,o2⟩:=e3 x mem
  rw [Iy]
  simp only [Zj,Zc,cond_true,cond_false,Zg,Zx,Za,Zm,condC,Zi,Zh,Zl,ZH,ZP,Z5,hi,hx,Zji L (by omega) x o1 (by omega),show Zaw L (p,si,c,x,())=_ from Zrq L p si sc hs c L x o1 (by omega) (Nat.le_refl _),wrap_succ hi (by omega),e,esR]
  by_cases z:Qw true x=0
  ·rw [Zuq sc.Decl c x (Zi2 x z)]
   cases Zib (hdB sc.Decl c) x <;> simp [z]
  ·simp [z]
 ·rw [Iy]; simp only [Zj,Zc,cond_true,cond_false,Zg,Zx,Za,Zm,condC,Zi,Zh,Zl,ZH,ZP,Z5,Dw L i.Dist h.Dist (by omega),esR]; simp only [Yu,Xu,if_true,if_false,Bool.false_eq_true,ne_eq,decide_not,gt_iff_lt,ge_iff_le]
end Go.Proofs.YtgjcjbhhhlelnaaGreatDoor
end
section
namespace Go.Proofs.YtgjcjbhhhlelnaaGreatDoor
open Go Go.Proofs.YtgjcjbhhhlelnaaGreatDoor.Abs Go.Proofs.YtgjcjbhhhlelnaaGreatDoor.Tl
set_option maxRecDepth 100000
theorem Zqd {α:Type}(l:List α)(n:Int)(h0:0≤n)(h:n < l.length):∃ x,ZJ l n=some x∧x ∈ l:=by
 have hn:n.toNat < l.length:=by omega
 refine ⟨l[n.toNat],?_,List.getElem_mem hn⟩
 unfold ZJ; rw [if_pos h0]; exact List.getElem?_eq_getElem hn
theorem Zf7 (L:Nat)(p:Zk)(o:Int)(so:ZN)(ho:ZJ p.Sites o=some so)(i:YK) :
  ((decide (0≤i.B) && decide (i.B < (so.Routines.length:Int)))=false∧Ug L (p,o,i,())=some 2) ∨
  ((decide (0≤i.B) && decide (i.B < (so.Routines.length:Int)))=true∧∃ cd,ZJ so.Routines i.B=some cd∧Ug L (p,o,i,())=some (bif !decide ((i.Args.length:Int)=cd.Params) then 8 else 0)):=by
 rw [Zl9,ho,Zx]
 by_cases h:0≤i.B∧i.B < (so.Routines.length:Int)
 ·refine .inr ⟨by simp [h.1,h.2],?_⟩
  obtain ⟨cd,hc,_⟩:=Zqd so.Routines i.B h.1 h.2
  refine ⟨cd,hc,?_⟩
  rw [show (decide (i.B < 0) || decide (i.B ≥ (so.Routines.length:Int)))=false by simp only [Bool.or_eq_false_iff,decide_eq_false_iff_not]; omega,hc]
  simp only [Zj,Zc,cond_true,cond_false,Zg,Zx,Za,Zm,condC,Zi,Zh,Zl,ZH,ZP,Z5]
 ·refine .inl ⟨by simp only [Bool.and_eq_false_iff,decide_eq_false_iff_not]; omega,?_⟩
  rw [show (decide (i.B < 0) || decide (i.B ≥ (so.Routines.length:Int)))=true by simp only [Bool.or_eq_true,decide_eq_true_eq]; omega]
  rfl
theorem orN (a b:Bool):(!b && !a)=!(a || b):=by cases a <;> cases b <;> rfl
theorem Zoi (L:Nat)(h1:1000≤L)(p:Zk)(hp:p.Links.length≤4611686018427387)(hpL:p.Links.length < L)(si:Int)(sc:ZN)(hs:ZJ p.Sites si=some sc)(c:Wp)(i:YK)(h:IQ i)(hL:2 * SizeOf.sizeOf i≤L) :
  ∃ v,YZ L (⟨p,si,c⟩,i,())=some v∧XP L (p,si,c,i,())=some v:=by
 rw [DZ,ZlB,show Uy=YL from rfl,show Uz=YL from rfl,Zjg,ZfY]
 by_cases hk:btw i.Op 1 19=true
 ·obtain ⟨f,g,gs,hf,hg,hg',r⟩:=Zqa L i.Op (by simpa [btw] using hk)
  rw [Zwv L i h hL f hf,Zw0 L i h hL f g gs hg hg' r,hf,Zt9 L i h hk f hf,ZtD L i h hk f g gs hg hg' r]
  have la:=lpA L h1 p si sc hs c i h hL f r.rdist
  have lb:=lpB L h1 p si sc hs c i h hL f
  generalize esR sc.Decl c (if decide (i.Op=3)=true then LQ i.Dist else 0) (Zi8 f i)=V at la lb
  cases hcl:Zi4 f i
  ·exact ⟨1,by simp only [Zj,Zc,cond_true,cond_false,Zg,Zx,Za,Zm,condC,Zi,Zh,Zl,ZH,ZP,Z5,hk,Bool.not_true,Bool.not_false,Bool.or_true,Bool.false_or],by simp only [Zj,Zc,cond_true,cond_false,Zg,Zx,Za,Zm,condC,Zi,Zh,Zl,ZH,ZP,Z5,hk,Bool.not_true,Bool.not_false,Bool.or_true,Bool.false_or]⟩
  simp only [Zh6,hg,Zx,hg',ZyV L p si sc hs c f.a i.A 0 r.na10]
  have iA:=Znm L p si sc hs c g.A r.wa i.A
  rw [r.na] at iA
  by_cases hA:(decide (f.a=0) || ZsM p sc.Decl c f.a i.A)=true
  ·have hA':(!(ZsM p sc.Decl c f.a i.A) && !decide (f.a=0))=false:=by rw [orN,hA]; rfl
   rw [hA] at iA
   by_cases h14:i.Op=14
   ·
    have ha9:=r.f14 h14
    rw [ha9] at hA
    have hA2:0≤i.A∧i.A < (p.Sites.length:Int):=by simpa [ZsM,Ztk] using hA
    obtain ⟨so,ho,_⟩:=Zqd p.Sites i.A hA2.1 hA2.2
    have e14:decide (i.Op=14)=true:=by simp [h14]
    have e15:decide (i.Op=15)=false:=by simp [h14]
    have hb10:=Zrg L p si sc hs c i.B i.A so ho
    simp only [ZH,Z5,e14,e15,cond_true,cond_false,Zx]
    simp only [hA',hk,iA,cond_true,cond_false,Zx,Bool.not_true,Bool.or_false,ZyO L p si i.A hp hpL,ZyZ L p si i.A hp hpL]
    simp only [Zh,hb10,ho,Zx,Za,cond_false,Bool.not_true,la,lb]
    cases hq:(!(Zxb p si i.A).2.1 || !decide ((Zxb p si i.A).1=i.C))
    ·rcases Zf7 L p i.A so ho i with ⟨b1,b2⟩ | ⟨b1,cd,b2,b3⟩
     ·exact ⟨2,by simp only [cond_true,cond_false,Zx,Za,Zm,condC,Zi,Zh,Zl,ZH,Z5,Bool.not_true,Bool.not_false,b1,Bool.not_false] <;> rfl,by simp only [cond_true,cond_false,Zx,Za,Zm,condC,Zi,Zh,Zl,ZH,Z5,Bool.not_true,Bool.not_false,b2] <;> rfl⟩
     ·cases hz:decide ((i.Args.length:Int)=cd.Params)
      ·exact ⟨8,by simp only [cond_true,cond_false,Zx,Za,Zm,condC,Zi,Zh,Zl,ZH,Z5,Bool.not_true,Bool.not_false,b1,b2,hz,Bool.not_true,Bool.not_false] <;> rfl,by simp only [cond_true,cond_false,Zx,Za,Zm,condC,Zi,Zh,Zl,ZH,Z5,Bool.not_true,Bool.not_false,b3,hz,Bool.not_true,Bool.not_false] <;> rfl⟩
      ·exact ⟨V,by simp only [cond_true,cond_false,Zx,Za,Zm,condC,Zi,Zh,Zl,ZH,Z5,Bool.not_true,Bool.not_false,b1,b2,hz,Bool.not_true,Bool.not_false] <;> rfl,by simp only [cond_true,cond_false,Zx,Za,Zm,condC,Zi,Zh,Zl,ZH,Z5,Bool.not_true,Bool.not_false,b3,hz,Bool.not_true,Bool.not_false] <;> rfl⟩
    ·exact ⟨16,by simp only [cond_true,cond_false,Zx,Za,Zm,condC,Zi,Zh,Zl,ZH,Z5,Bool.not_true,Bool.not_false] <;> rfl,by simp only [cond_true,cond_false,Zx,Za,Zm,condC,Zi,Zh,Zl,ZH,Z5,Bool.not_true,Bool.not_false] <;> rfl⟩
   ·by_cases h15:i.Op=15
    ·have e14:decide (i.Op=14)=false:=by simp [h15]
     have e15:decide (i.Op=15)=true:=by simp [h15]
     have hb10:=Zrg L p si sc hs c i.B si sc hs
     simp only [ZH,Z5,e14,e15,cond_true,cond_false,Zx]
     simp only [hA',hk,iA,cond_true,cond_false,Zx,Bool.not_true,Bool.or_false]
     simp only [Zh,hb10,hs,Zx,Za,cond_false,Bool.not_true,la,lb]
     rcases Zf7 L p si sc hs i with ⟨b1,b2⟩ | ⟨b1,cd,b2,b3⟩
     ·exact ⟨2,by simp only [cond_true,cond_false,Zx,Za,Zm,condC,Zi,Zh,Zl,ZH,Z5,Bool.not_true,Bool.not_false,b1,Bool.not_false] <;> rfl,by simp only [cond_true,cond_false,Zx,Za,Zm,condC,Zi,Zh,Zl,ZH,Z5,Bool.not_true,Bool.not_false,b2] <;> rfl⟩
     ·cases hz:decide ((i.Args.length:Int)=cd.Params)
      ·exact ⟨8,by simp only [cond_true,cond_false,Zx,Za,Zm,condC,Zi,Zh,Zl,ZH,Z5,Bool.not_true,Bool.not_false,b1,b2,hz,Bool.not_true,Bool.not_false] <;> rfl,by simp only [cond_true,cond_false,Zx,Za,Zm,condC,Zi,Zh,Zl,ZH,Z5,Bool.not_true,Bool.not_false,b3,hz,Bool.not_true,Bool.not_false] <;> rfl⟩
      ·exact ⟨V,by simp only [cond_true,cond_false,Zx,Za,Zm,condC,Zi,Zh,Zl,ZH,Z5,Bool.not_true,Bool.not_false,b1,b2,hz,Bool.not_true,Bool.not_false] <;> rfl,by simp only [cond_true,cond_false,Zx,Za,Zm,condC,Zi,Zh,Zl,ZH,Z5,Bool.not_true,Bool.not_false,b3,hz,Bool.not_true,Bool.not_false] <;> rfl⟩
    ·obtain ⟨w1,w2,w3⟩:=r.wb h14 h15
     have e14:decide (i.Op=14)=false:=by simp [h14]
     have e15:decide (i.Op=15)=false:=by simp [h15]
     have iB:=Znm L p si sc hs c g.B w1 i.B
     rw [w2] at iB
     simp only [cond_true,cond_false,Zx,Za,Zm,condC,Zi,Zh,Zl,ZH,Z5,Bool.not_true,Bool.not_false,hk,hA',iA,iB,e14,e15,Bool.not_true,Bool.or_false,ZyV L p si sc hs c f.b i.B 0 w3,la,lb]
     cases decide (f.b=0) <;> cases ZsM p sc.Decl c f.b i.B
     ·exact ⟨2,rfl,rfl⟩
     ·exact ⟨V,rfl,rfl⟩
     ·exact ⟨V,rfl,rfl⟩
     ·exact ⟨V,rfl,rfl⟩
  ·rw [Bool.not_eq_true] at hA
   have hA':(!(ZsM p sc.Decl c f.a i.A) && !decide (f.a=0))=true:=by rw [orN,hA]; rfl
   rw [hA] at iA
   exact ⟨2,by simp only [cond_true,cond_false,Zx,Za,Zm,condC,Zi,Zh,Zl,ZH,Z5,Bool.not_true,Bool.not_false,hk,hA',Bool.not_true,Bool.or_false] <;> rfl,by simp only [cond_true,cond_false,Zx,Za,Zm,condC,Zi,Zh,Zl,ZH,Z5,Bool.not_true,Bool.not_false,hk,iA,Bool.not_true,Bool.not_false,Bool.or_false] <;> rfl⟩
 ·rw [Bool.not_eq_true] at hk
  exact ⟨1,by simp only [cond_true,cond_false,Zx,Za,Zm,condC,Zi,Zh,Zl,ZH,Z5,Bool.not_true,Bool.not_false,hk,Bool.not_false,Bool.true_or] <;> rfl,by simp only [cond_true,cond_false,Zx,Za,Zm,condC,Zi,Zh,Zl,ZH,Z5,Bool.not_true,Bool.not_false,hk,Bool.not_false,Bool.true_or] <;> rfl⟩
end Go.Proofs.YtgjcjbhhhlelnaaGreatDoor
end
section
namespace Go.Proofs.YtgjcjbhhhlelnaaGreatDoor
open Go Go.Proofs.YtgjcjbhhhlelnaaGreatDoor.Abs Go.Proofs.YtgjcjbhhhlelnaaGreatDoor.Tl
set_option maxRecDepth 100000
theorem ZwQ (c:Wp):SizeOf.sizeOf c.Name < SizeOf.sizeOf c∧SizeOf.sizeOf c.Instrs < SizeOf.sizeOf c:=by cases c; simp; omega
theorem Zyn {α:Type}{f:(Int×PUnit→Option Int)→Int×PUnit→Option Int}(l:List α)(V:α→Int)(T:Option Int){m:Nat}(hm:l.length < m)
  (h1:∀ self (i:Nat) x,l[i]? = some x→i < l.length→x ∈ l→f self ((i:Int),())=bif !decide (V x=0) then some (V x) else self ((i:Int) + 1,()))
  (h2:∀ self,f self ((l.length:Int),())=T):Zp f m (0,())=if decide (Yk V l≠0)=true then some (Yk V l) else T :=
 CU l (fun l=>if decide (Yk V l≠0)=true then some (Yk V l) else T) hm (fun self i x r hx hi mem e=>by
  rw [h1 self i x hx hi mem,e,Yk]
  by_cases c:V x=0 <;> simp [c]) (fun self=>by rw [h2]; rfl)
theorem Zba (L:Nat)(h1:1000≤L)(p:Zk)(hp:p.Links.length≤4611686018427387)(hpL:p.Links.length < L)(si:Int)(sc:ZN)(hs:ZJ p.Sites si=some sc)(c:Wp)(h:Zpl c)(hL:2 * SizeOf.sizeOf c≤L) :
  ∃ v,Y3 L (p,si,c,())=some v∧YX L (p,si,c,())=some v:=by
 have hz:=ZwQ c
 have hk:=ZI c.Instrs; have hl:=h.Instrs.1
 have hn1:=QK L c.Name (by have:=h.Name; unfold Len; omega) (by have:=ZI c.Name; omega)
 have hn2:=JX L c.Name (by have:=h.Name; unfold Len; omega) (by have:=ZI c.Name; omega) (by omega)
 have hV:∀ i ∈ c.Instrs,YZ L (⟨p,si,c⟩,i,())=some ((XP L (p,si,c,i,())).getD 0)∧XP L (p,si,c,i,())=some ((XP L (p,si,c,i,())).getD 0):=fun i mem=>by
  have:=List.sizeOf_lt_of_mem mem
  obtain ⟨v,e1,e2⟩:=Zoi L h1 p hp hpL si sc hs c i (h.Instrs.2 i mem) (by omega)
  rw [e1,e2]; exact ⟨rfl,rfl⟩
 obtain ⟨V,hV'⟩:∃ V:YK→Int,∀ i ∈ c.Instrs,YZ L (⟨p,si,c⟩,i,())=some (V i)∧XP L (p,si,c,i,())=some (V i):=⟨_,hV⟩
 by_cases ge:c.Instrs=[]
 ·have e0:decide ((c.Instrs.length:Int)=0)=true:=by rw [ge]; rfl
  refine ⟨_,by rw [PV]; simp only [hn1,Zx,ZH,Z5,e0,cond_true,Zl]; rfl,?_⟩
  rw [Az]; simp only [hn2,Zx,ZH,Z5,e0,cond_true,Zl]
 ·have hpos:0 < c.Instrs.length:=List.length_pos_iff.2 ge
  have hw:IntKind.i64.wrap ((c.Instrs.length:Int) - 1)=((c.Instrs.length - 1:Nat):Int):=by rw [wrap_in (by omega) (by omega)]; omega
  have hx:=List.getElem?_eq_getElem (show c.Instrs.length - 1 < c.Instrs.length by omega)
  generalize c.Instrs[c.Instrs.length - 1]=x at hx
  have la:=Zyn (f := Jl p si c L) c.Instrs V (some (bif !decide (x.Op=19) && !decide (x.Op=4) then 8 else 0)) (m := L) (by omega) (fun self i y hy hi mem=>by
   rw [Jl]; simp only [Zj hi,cond_true,Zg,hy,Zx,(hV' y mem).1,Z5,wrap_succ hi (by omega)]) (fun self=>by
   rw [Jl]; simp only [Zc,cond_false,hw,Zg,hx,Zx,Z5,Zl])
  have lb:=Zyn (f := Ur p si c L) c.Instrs V (some (bif !decide (x.Op=19) && !decide (x.Op=4) then 8 else 0)) (m := L) (by omega) (fun self i y hy hi mem=>by
   rw [Ur]; simp only [Zj hi,cond_true,Zg,hy,Zx,Za,(hV' y mem).2,Z5,wrap_succ hi (by omega)]) (fun self=>by
   rw [Ur]; simp only [Zc,cond_false,hw,Zg,hx,Zx,Z5,Zl])
  rw [Xu] at la lb
  refine ⟨_,by rw [PV]; simp only [la,hn1,Zx,ZH,Z5,Zl]; rfl,?_⟩
  rw [Az]; simp only [lb,hn2,Zx,ZH,Z5,Zl]
end Go.Proofs.YtgjcjbhhhlelnaaGreatDoor
end
section
namespace Go.Proofs.YtgjcjbhhhlelnaaGreatDoor
open Go Go.Proofs.YtgjcjbhhhlelnaaGreatDoor.Abs Go.Proofs.YtgjcjbhhhlelnaaGreatDoor.Tl
set_option maxRecDepth 100000
def agL:List Wp→List ZU→Bool
 | c :: l,r :: m=>if (!(decide (c.Name=r.Name) && decide (c.Params=(r.Params.length:Int)) && decide ((r.Body.length:Int)=0)))=true then false else agL l m
 | _,_=>true
def agB (s:ZN):Bool:=decide ((s.Routines.length:Int)=(s.Decl.Routines.length:Int)) && agL s.Routines s.Decl.Routines
theorem Zt8 (L:Nat)(s:ZN)(h:s.Routines.length≤4611686018427387)(hL:s.Routines.length < L):Gi L (s,())=some (agB s):=by
 rcases Zxh s.Routines s.Decl.Routines with ⟨e1,e2⟩ | ⟨e1,e2⟩
 ·have lp:=ZeV (f := Uj s L) s.Routines s.Decl.Routines e1 (fun l m=>some (agL l m)) hL (fun self i x y r r' hx hy hi _ e=>by
   rw [Uj]; simp only [Zj,Zc,cond_true,cond_false,Zg,Zx,Za,Zm,condC,Zi,Zh,Zl,ZH,ZP,Z5,hi,hx,hy,Zd8,wrap_succ hi (by omega),e,agL]; simp only [Yu,Xu,if_true,if_false,Bool.false_eq_true,ne_eq,decide_not,gt_iff_lt,ge_iff_le]) (fun self=>by rw [Uj]; simp only [Zj,Zc,cond_true,cond_false,Zg,Zx,Za,Zm,condC,Zi,Zh,Zl,ZH,ZP,Z5,agL])
  rw [Ar,lp,agB,Z5,e2]; rfl
 ·rw [Ar,agB,Z5,e2]; rfl
theorem ZtA (L:Nat)(s:ZN)(h:s.Routines.length≤4611686018427387)(hL:s.Routines.length < L):OT L (s,())=some (agB s):=by
 rcases Zxh s.Routines s.Decl.Routines with ⟨e1,e2⟩ | ⟨e1,e2⟩
 ·have lp:=ZeV (f := TB s) s.Routines s.Decl.Routines e1 (fun l m=>some (agL l m)) hL (fun self i x y r r' hx hy hi _ e=>by
   rw [TB]; simp only [Zj,Zc,cond_true,cond_false,Zg,Zx,Za,Zm,condC,Zi,Zh,Zl,ZH,ZP,Z5,hi,hx,hy,wrap_succ hi (by omega),e,agL]
   rw [show decide ((y.Body.length:Int) > 0)=!decide ((y.Body.length:Int)=0) by rw [← Zu6,Bool.not_not],decide_eq_decide.2 (⟨Eq.symm,Eq.symm⟩:y.Name=x.Name↔x.Name=y.Name),decide_eq_decide.2 (⟨Eq.symm,Eq.symm⟩:(y.Params.length:Int)=x.Params↔x.Params=(y.Params.length:Int))]
   cases decide ((y.Body.length:Int)=0) <;> cases decide (x.Name=y.Name) <;> cases decide (x.Params=(y.Params.length:Int)) <;> rfl) (fun self=>by rw [TB]; simp only [Zj,Zc,cond_true,cond_false,Zg,Zx,Za,Zm,condC,Zi,Zh,Zl,ZH,ZP,Z5,agL])
  rw [Zgb,lp,agB,Z5,e2]; rfl
 ·rw [Zgb,agB,Z5,e2]; rfl
def NZ (l:VQ):Int×Int:=(l.From,l.To)
def N8 (p:Zk):List (Int×Int)→List VQ→Int
 | _,[]=>0
 | seen,x :: r=>if (decide (x.From < 0) || decide (x.From ≥ (p.Sites.length:Int)) || decide (x.To < 0) || decide (x.To ≥ (p.Sites.length:Int)) || decide (x.From=x.To) || decide (x.Delay < 1) || decide (x.Delay > 1000000000))=true then 2
  else if seen.contains (NZ x)=true then 4 else N8 p (seen ++ [NZ x]) r
theorem ZiL (l:List (Int×Int))(s:Int×Int):hasK (MK.pint IntKind.i64) l s=l.contains s:=by
 induction l with
 | nil=>rfl
 | cons x l ih =>
  rw [List.contains_cons,← ih]
  show (BEq.beq s.1 x.1 && BEq.beq s.2 x.2 || hasK (MK.pint IntKind.i64) l s)=_
  congr 1
theorem Zpp (l:List (Int×Int))(s:Int×Int)(h:l.contains s=false):ZaI (MK.pint IntKind.i64) l s=l ++ [s]:=by
 unfold ZaI; rw [ZiL,h]; rfl
theorem Zpu (x:VQ)(n:Int):(decide ((if x.To < x.From then x.To else x.From) < 0) || decide ((if x.To > x.From then x.To else x.From) ≥ n) || decide (x.From=x.To))=(decide (x.From < 0) || decide (x.From ≥ n) || decide (x.To < 0) || decide (x.To ≥ n) || decide (x.From=x.To)):=by
 rw [Bool.eq_iff_iff]
 simp only [Bool.or_eq_true,decide_eq_true_eq]
 split <;> split <;> omega
theorem Zre (L:Nat)(p:Zk)(h:p.Links.length≤4611686018427387)(hL:p.Links.length < L):H6 L (p,())=some (if decide (32 < (p.Links.length:Int))=true then 6 else N8 p [] p.Links):=by
 have lp:=ZiR (f := U4 p) p.Links (fun (s:List (Int×Int)) i=>(i,s,())) (fun l s=>some (N8 p s l)) (fun self s i x r hx hi mem e=>by
  rw [U4]
  simp only [Zj,Zc,cond_true,cond_false,Zg,Zx,Za,Zm,condC,Zi,Zh,Zl,ZH,ZP,Z5,hi,hx,Zpu,wrap_succ hi (by omega),e,ZiL,N8]
  generalize (decide (x.From < 0) || decide (x.From ≥ (p.Sites.length:Int)) || decide (x.To < 0) || decide (x.To ≥ (p.Sites.length:Int)) || decide (x.From=x.To))=a
  show _=some (if (a || decide (x.Delay < 1) || decide (x.Delay > 1000000000))=true then 2 else if s.contains (x.From,x.To)=true then 4 else N8 p (s ++ [(x.From,x.To)]) r)
  cases hc:s.contains (x.From,x.To)
  ·rw [Zpp _ _ hc,e]; cases a <;> cases decide (x.Delay < 1) <;> cases decide (x.Delay > 1000000000) <;> rfl
  ·cases a <;> cases decide (x.Delay < 1) <;> cases decide (x.Delay > 1000000000) <;> rfl) (fun self s=>by rw [U4]; simp only [Zj,Zc,cond_true,cond_false,Zg,Zx,Za,Zm,condC,Zi,Zh,Zl,ZH,ZP,Z5,N8]) L 0 [] (Nat.zero_le _) (by omega)
 rw [List.drop_zero] at lp
 rw [Zlj,show Zp (U4 p) L (0,[],())=_ from lp]
 simp only [Yu,Xu,if_true,if_false,Bool.false_eq_true,ne_eq,decide_not,gt_iff_lt,ge_iff_le]
end Go.Proofs.YtgjcjbhhhlelnaaGreatDoor
end
section
namespace Go.Proofs.YtgjcjbhhhlelnaaGreatDoor
open Go Go.Proofs.YtgjcjbhhhlelnaaGreatDoor.Abs Go.Proofs.YtgjcjbhhhlelnaaGreatDoor.Tl
set_option maxRecDepth 100000
theorem ZnI (L:Nat)(p:Zk)(h:p.Links.length≤4611686018427387)(self:Int×Int×PUnit→Option Int)(i:Nat)(hi:i≤p.Links.length)(hL:p.Links.length < L)(y:VQ) :
  Zp (He p self (0,(i:Int),()) y) L (0,0,())=if ((p.Links.take i).map NZ).contains (NZ y)=true then some 4 else self (0,IntKind.i64.wrap ((i:Int) + 1),()):=by
 have hlen:(p.Links.take i).length=i:=by rw [List.length_take]; omega
 have:=CV (f := He p self (0,(i:Int),()) y) i (fun j=>(0,j,())) (fun j=>if (((p.Links.take i).drop j).map NZ).contains (NZ y)=true then some 4 else self (0,IntKind.i64.wrap ((i:Int) + 1),())) (fun self1 j hj e=>by
  have hjl:j < p.Links.length:=by omega
  have hx:=List.getElem?_eq_getElem hjl
  have hd:(p.Links.take i).drop j=p.Links[j] :: (p.Links.take i).drop (j + 1):=by
   rw [List.drop_eq_getElem_cons (show j < (p.Links.take i).length by omega),List.getElem_take]
  rw [hd,He]
  simp only [show decide ((j:Int) < (i:Int))=true by simp only [decide_eq_true_eq]; omega,cond_true,Zg,hx,Zx,ZH,Zm,wrap_in (show -9223372036854775808≤(j:Int) + 1 by omega) (by omega),e,List.map_cons,List.contains_cons]
  generalize p.Links[j]=x
  have hb:(NZ y == NZ x)=(decide (x.From=y.From) && decide (x.To=y.To)):=by
   show (BEq.beq y.From x.From && BEq.beq y.To x.To)=_
   rw [ZH,ZH,decide_eq_decide.2 (⟨Eq.symm,Eq.symm⟩:y.From=x.From↔x.From=y.From),decide_eq_decide.2 (⟨Eq.symm,Eq.symm⟩:y.To=x.To↔x.To=y.To)]
  rw [hb]
  cases decide (x.From=y.From) <;> cases decide (x.To=y.To) <;> rfl) (fun self1=>by
  rw [He]
  simp only [Zc,cond_false]
  rw [List.drop_eq_nil_of_le (by omega)]; rfl) L 0 (Nat.zero_le _) (by omega)
 rw [List.drop_zero] at this
 exact this
theorem Zw2 (L:Nat)(p:Zk)(h:p.Links.length≤4611686018427387)(hL:p.Links.length < L):OQ L (p,())=some (if decide (32 < (p.Links.length:Int))=true then 6 else N8 p [] p.Links):=by
 have lp:=CV (f := Hf p L) p.Links.length (fun i=>(0,i,())) (fun i=>some (N8 p ((p.Links.take i).map NZ) (p.Links.drop i))) (fun self i hi e=>by
  have hx:=List.getElem?_eq_getElem hi
  have ht:(p.Links.take (i + 1)).map NZ=(p.Links.take i).map NZ ++ [NZ p.Links[i]]:=by
   rw [List.take_succ,hx,List.map_append]; rfl
  rw [List.drop_eq_getElem_cons hi,N8]
  rw [ht] at e
  rw [Hf]
  simp only [Zj hi,cond_true,Zg,hx,Zx,ZH,ZnI L p h self i (Nat.le_of_lt hi) hL,wrap_succ hi (by omega),e]
  rw [Yu]
  split
  ·rfl
  ·split <;> rfl) (fun self=>by
  rw [Hf,List.drop_length]; simp only [Zc,cond_false,N8]) L 0 (Nat.zero_le _) (by omega)
 rw [List.drop_zero] at lp
 rw [ZoE,show Zp (Hf p L) L (0,0,())=_ from lp]
 simp only [Yu,Xu,if_true,if_false,Bool.false_eq_true,ne_eq,decide_not,gt_iff_lt,ge_iff_le]
 rfl
end Go.Proofs.YtgjcjbhhhlelnaaGreatDoor
end
section
namespace Go.Proofs.YtgjcjbhhhlelnaaGreatDoor
open Go Go.Proofs.YtgjcjbhhhlelnaaGreatDoor.Abs Go.Proofs.YtgjcjbhhhlelnaaGreatDoor.Tl
set_option maxRecDepth 100000
def KE (n:List UInt8):Seen→List ZN→Int
 | _,[]=>0
 | seen,x :: r=>if decide (M1 n x.Decl≠0)=true then M1 n x.Decl else if seen.contains x.Decl.Name=true then 4 else if (!(agB x))=true then 8 else KE n (seen ++ [x.Decl.Name]) r
theorem Zxq (p:Zk){s:ZN}(h:s ∈ p.Sites):SizeOf.sizeOf s.Decl < SizeOf.sizeOf p∧SizeOf.sizeOf s.Routines < SizeOf.sizeOf p∧SizeOf.sizeOf p.Name < SizeOf.sizeOf p∧p.Sites.length < SizeOf.sizeOf p∧p.Links.length < SizeOf.sizeOf p:=by
 have h1:=List.sizeOf_lt_of_mem h
 have h2:SizeOf.sizeOf s.Decl < SizeOf.sizeOf s∧SizeOf.sizeOf s.Routines < SizeOf.sizeOf s:=by cases s; simp; omega
 have h3:SizeOf.sizeOf p.Sites < SizeOf.sizeOf p∧SizeOf.sizeOf p.Name < SizeOf.sizeOf p∧SizeOf.sizeOf p.Links < SizeOf.sizeOf p:=by cases p; simp; omega
 have h4:=ZI p.Sites; have h5:=ZI p.Links
 omega
theorem ZpB (L:Nat)(h1:1000≤L)(p:Zk)(h:Ux p)(hL:2 * SizeOf.sizeOf p≤L)(hne:p.Sites.length < L)(T:Int)(hT:∀ seen:Seen,(bT (H6 L (p,())) fun (y:Int)=>bif y != (0:Int) then some y else Zp (XT p L) L (0,0,seen,()))=some T) :
  Zp (Jk p L) L (0,0,[],())=some (if decide (KE p.Name [] p.Sites≠0)=true then KE p.Name [] p.Sites else T):=by
 have hl:=h.Sites.1
 have:=ZiR (f := Jk p L) p.Sites (fun (s:Seen) i=>(0,i,s,())) (fun l s=>some (if decide (KE p.Name s l≠0)=true then KE p.Name s l else T)) (fun self s i x r hx hi mem e=>by
  have hz:=Zxq p mem
  have ok:=h.Sites.2 x mem
  have hr:=ok.Routines.1
  have e1:=ZtC L (by omega) p.Name h.Name (by have:=ZI p.Name; omega) x.Decl ok.Decl (by omega)
  have e2:=Zt8 L x (by omega) (by have:=ZI x.Routines; omega)
  rw [Jk]
  simp only [Zj hi,cond_true,Zg,hx,Zx,e1,e2,Z5,ZgO,wrap_succ hi (by omega),e,KE]
  by_cases a:M1 p.Name x.Decl=0
  ·rcases Bool.eq_false_or_eq_true (s.contains x.Decl.Name) with b | b
   ·have b':x.Decl.Name ∈ s:=List.contains_iff_mem.1 b
    simp [a,b']
   ·have b':¬ x.Decl.Name ∈ s:=fun hm=>by rw [List.contains_iff_mem.2 hm] at b; cases b
    rw [Zmx _ _ b,e]
    rcases Bool.eq_false_or_eq_true (agB x) with g | g <;> simp [a,b',g]
  ·simp [a]) (fun self s=>by rw [Jk]; simp only [Zc,cond_false,hT,KE]; rfl) L 0 [] (Nat.zero_le _) (by omega)
 rw [List.drop_zero] at this
 exact this
end Go.Proofs.YtgjcjbhhhlelnaaGreatDoor
end
section
namespace Go.Proofs.YtgjcjbhhhlelnaaGreatDoor
open Go Go.Proofs.YtgjcjbhhhlelnaaGreatDoor.Abs Go.Proofs.YtgjcjbhhhlelnaaGreatDoor.Tl
set_option maxRecDepth 100000
theorem ZwM (L:Nat)(p:Zk)(h:p.Sites.length≤4611686018427387)(self:Int×Int×PUnit→Option Int)(i:Nat)(y:ZN)(hy:p.Sites[i]? = some y)(hi:i < p.Sites.length)(hL:p.Sites.length < L)(hf:OT L (y,())=some (agB y)) :
  Zp (UA p L self (0,(i:Int),())) L (0,0,())=if ((p.Sites.take i).map fun s=>s.Decl.Name).contains y.Decl.Name=true then some 4 else bif !(agB y) then some 8 else self (0,IntKind.i64.wrap ((i:Int) + 1),()):=by
 have hlen:(p.Sites.take i).length=i:=by rw [List.length_take]; omega
 have:=CV (f := UA p L self (0,(i:Int),())) i (fun j=>(0,j,())) (fun j=>if (((p.Sites.take i).drop j).map fun s=>s.Decl.Name).contains y.Decl.Name=true then some 4 else bif !(agB y) then some 8 else self (0,IntKind.i64.wrap ((i:Int) + 1),())) (fun self1 j hj e=>by
  have hjl:j < p.Sites.length:=by omega
  have hx:=List.getElem?_eq_getElem hjl
  have hd:(p.Sites.take i).drop j=p.Sites[j] :: (p.Sites.take i).drop (j + 1):=by
   rw [List.drop_eq_getElem_cons (show j < (p.Sites.take i).length by omega),List.getElem_take]
  rw [hd,UA]
  simp only [show decide ((j:Int) < (i:Int))=true by simp only [decide_eq_true_eq]; omega,cond_true,Zg,hx,hy,Zx,ZP,wrap_in (show -9223372036854775808≤(j:Int) + 1 by omega) (by omega),e,List.map_cons,List.contains_cons]
  generalize p.Sites[j]=x
  rw [decide_eq_decide.2 (⟨Eq.symm,Eq.symm⟩:y.Decl.Name=x.Decl.Name↔x.Decl.Name=y.Decl.Name)]
  cases decide (x.Decl.Name=y.Decl.Name) <;> rfl) (fun self1=>by
  rw [UA]
  simp only [Zc,cond_false,Zg,hy,Zx,hf]
  rw [List.drop_eq_nil_of_le (by omega)]; rfl) L 0 (Nat.zero_le _) (by omega)
 rw [List.drop_zero] at this
 exact this
theorem ZwG (L:Nat)(h1:1000≤L)(p:Zk)(h:Ux p)(hL:2 * SizeOf.sizeOf p≤L)(hne:p.Sites.length < L)(T:Int)(hT:(bT (OQ L (p,())) fun (y:Int)=>Zp (Xa p L) L (y,0,()))=some T) :
  Zp (UC p L) L (0,0,())=some (if decide (KE p.Name [] p.Sites≠0)=true then KE p.Name [] p.Sites else T):=by
 have hl:=h.Sites.1
 have:=CV (f := UC p L) p.Sites.length (fun i=>(0,i,())) (fun i=>some (if decide (KE p.Name ((p.Sites.take i).map fun s=>s.Decl.Name) (p.Sites.drop i)≠0)=true then KE p.Name ((p.Sites.take i).map fun s=>s.Decl.Name) (p.Sites.drop i) else T)) (fun self i hi e=>by
  have hx:=List.getElem?_eq_getElem hi
  have ht:((p.Sites.take (i + 1)).map fun s=>s.Decl.Name)=((p.Sites.take i).map fun s=>s.Decl.Name) ++ [p.Sites[i].Decl.Name]:=by
   rw [List.take_succ,hx,List.map_append]; rfl
  have mem:=List.getElem_mem hi
  rw [List.drop_eq_getElem_cons hi,KE]
  rw [ht] at e
  generalize p.Sites[i]=x at hx e mem
  have hz:=Zxq p mem
  have ok:=h.Sites.2 x mem
  have hr:=ok.Routines.1
  have e1:=Zri L h1 p.Name h.Name (by have:=ZI p.Name; omega) x.Decl ok.Decl (by omega)
  have e2:=ZtA L x (by omega) (by have:=ZI x.Routines; omega)
  rw [UC]
  simp only [Zj hi,cond_true,Zg,hx,Zx,Za,e1,Z5,ZwM L p (by omega) self i x hx hi hne e2,wrap_succ hi (by omega),e]
  by_cases a:M1 p.Name x.Decl=0
  ·by_cases b:x.Decl.Name ∈ (p.Sites.take i).map fun s=>s.Decl.Name
   ·rw [List.contains_iff_mem.2 b]
    simp only [a,ne_eq,not_true_eq_false,decide_false,decide_true,Bool.not_true,Bool.not_false,Bool.false_eq_true,if_false,if_true,cond_true,cond_false] <;> rfl
   ·have b':((p.Sites.take i).map fun s=>s.Decl.Name).contains x.Decl.Name=false:=by rw [← Bool.not_eq_true,List.contains_iff_mem]; exact b
    rw [b']
    rcases Bool.eq_false_or_eq_true (agB x) with g | g <;> simp only [a,g,ne_eq,not_true_eq_false,decide_false,decide_true,Bool.not_true,Bool.not_false,Bool.false_eq_true,if_false,if_true,cond_true,cond_false] <;> rfl
  ·simp [a]) (fun self=>by
  rw [UC,List.drop_length]; simp only [Zc,cond_false,hT,KE]; rfl) L 0 (Nat.zero_le _) (by omega)
 rw [List.drop_zero] at this
 exact this
end Go.Proofs.YtgjcjbhhhlelnaaGreatDoor
end
section
namespace Go.Proofs.YtgjcjbhhhlelnaaGreatDoor
open Go Go.Proofs.YtgjcjbhhhlelnaaGreatDoor.Abs Go.Proofs.YtgjcjbhhhlelnaaGreatDoor.Tl
set_option maxRecDepth 100000
def rX (V:Int→Wp→Int):Int→List ZN→Int
 | _,[]=>0
 | i,x :: r=>if decide (Yk (V i) x.Routines≠0)=true then Yk (V i) x.Routines else rX V (i + 1) r
theorem Zst (L:Nat)(p:Zk)(V:Int→Wp→Int)(self:Int×Int×List (List UInt8)×PUnit→Option Int)(i:Nat)(seen s0:Seen)(y:ZN)(hl:y.Routines.length≤4611686018427387)(hL:y.Routines.length < L)(hV:∀ c ∈ y.Routines,Y3 L (p,(i:Int),c,())=some (V i c)) :
  Zp (Jj p L self (0,(i:Int),s0,()) y) L (0,0,seen,())=if decide (Yk (V i) y.Routines≠0)=true then some (Yk (V i) y.Routines) else self (0,IntKind.i64.wrap ((i:Int) + 1),seen,()):=by
 have:=ZiR (f := Jj p L self (0,(i:Int),s0,()) y) y.Routines (fun (_:Unit) j=>(0,j,seen,())) (fun l _=>if decide (Yk (V i) l≠0)=true then some (Yk (V i) l) else self (0,IntKind.i64.wrap ((i:Int) + 1),seen,())) (fun self1 s j x r hx hi mem e=>by
  rw [Jj]
  simp only [Zj hi,cond_true,Zg,hx,Zx,hV x mem,Z5,wrap_succ hi (by omega),e (),Yk]
  by_cases a:V i x=0 <;> simp [a]) (fun self1 s=>by rw [Jj]; simp only [Zc,cond_false,Yk]; rfl) L 0 () (Nat.zero_le _) (by omega)
 rw [List.drop_zero] at this
 exact this
theorem Zx5 (L:Nat)(p:Zk)(V:Int→Wp→Int)(h:p.Sites.length≤4611686018427387)(hL:p.Sites.length < L)(hr:∀ y ∈ p.Sites,y.Routines.length≤4611686018427387∧y.Routines.length < L)(hV:∀ (i:Nat) y,p.Sites[i]? = some y→∀ c ∈ y.Routines,Y3 L (p,(i:Int),c,())=some (V i c))(seen:Seen) :
  Zp (XT p L) L (0,0,seen,())=some (rX V 0 p.Sites):=by
 have:=CV (f := XT p L) p.Sites.length (fun i=>(0,i,seen,())) (fun i=>some (rX V i (p.Sites.drop i))) (fun self i hi e=>by
  have hx:=List.getElem?_eq_getElem hi
  have mem:=List.getElem_mem hi
  rw [List.drop_eq_getElem_cons hi,rX]
  generalize p.Sites[i]=y at hx mem
  rw [XT]
  simp only [Zj hi,cond_true,Zg,hx,Zx,Zst L p V self i seen seen y (hr y mem).1 (hr y mem).2 (hV i y hx),wrap_succ hi (by omega),e]
  by_cases a:Yk (V i) y.Routines=0 <;> simp [a]) (fun self=>by rw [XT,List.drop_length]; simp only [Zc,cond_false,rX]) L 0 (Nat.zero_le _) (by omega)
 rw [List.drop_zero] at this
 exact this
theorem ZtS (L:Nat)(p:Zk)(V:Int→Wp→Int)(self:Int×Int×PUnit→Option Int)(i:Nat)(e0 n:Int)(y:ZN)(hy:p.Sites[i]? = some y)(hl:y.Routines.length≤4611686018427387)(hL:y.Routines.length < L)(hV:∀ c ∈ y.Routines,YX L (p,(i:Int),c,())=some (V i c)) :
  Zp (UB p L self (e0,(i:Int),())) L (n,0,())=self (if decide (n=0)=true then Yk (V i) y.Routines else n,IntKind.i64.wrap ((i:Int) + 1),()):=by
 refine NS (f := UB p L self (e0,(i:Int),())) y.Routines (fun l n=>self (if decide (n=0)=true then Yk (V i) l else n,IntKind.i64.wrap ((i:Int) + 1),())) hL n (fun self1 n j x r hx hi mem e=>?_) (fun self1 n=>?_)
 ·rw [UB]
  simp only [Zg,hy,Zx,Za,Zj hi,cond_true,hx,hV x mem,ZH,wrap_succ hi (by omega),e,Yk]
  by_cases a:n=0
  ·by_cases b:V i x=0 <;> simp [a,b]
  ·simp [a]
 ·rw [UB]
  simp only [Zg,hy,Zx,Zc,cond_false,Yk]
  by_cases a:n=0 <;> simp [a]
theorem Z0P (L:Nat)(p:Zk)(V:Int→Wp→Int)(h:p.Sites.length≤4611686018427387)(hL:p.Sites.length < L)(hr:∀ y ∈ p.Sites,y.Routines.length≤4611686018427387∧y.Routines.length < L)(hV:∀ (i:Nat) y,p.Sites[i]? = some y→∀ c ∈ y.Routines,YX L (p,(i:Int),c,())=some (V i c))(n:Int) :
  Zp (Xa p L) L (n,0,())=some (if decide (n=0)=true then rX V 0 p.Sites else n):=by
 have key:∀ (m i:Nat) (n:Int),i≤p.Sites.length→p.Sites.length - i < m→Zp (Xa p L) m (n,(i:Int),())=some (if decide (n=0)=true then rX V i (p.Sites.drop i) else n):=by
  intro m
  induction m with
  | zero=>intro i n _ h; exact absurd h (Nat.not_lt_zero _)
  | succ m ih =>
   intro i n hi hm
   show Xa p L (Zp (Xa p L) m) (n,(i:Int),())=_
   rcases Nat.lt_or_ge i p.Sites.length with hlt | hge
   ·have hx:=List.getElem?_eq_getElem hlt
    have mem:=List.getElem_mem hlt
    rw [List.drop_eq_getElem_cons hlt,rX]
    generalize p.Sites[i]=y at hx mem
    rw [Xa]
    simp only [Zj hlt,cond_true,ZtS L p V _ i n n y hx (hr y mem).1 (hr y mem).2 (hV i y hx),wrap_succ hlt (by omega)]
    rw [show ((i:Int) + 1)=((i + 1:Nat):Int) from rfl,ih (i + 1) _ hlt (by omega)]
    by_cases a:n=0
    ·by_cases b:Yk (V i) y.Routines=0 <;> simp [a,b]
    ·simp [a]
   ·have:i=p.Sites.length:=by omega
    subst this
    rw [Xa,List.drop_length]; simp only [Zc,cond_false,rX]
    by_cases a:n=0 <;> simp [a]
 have:=key L 0 n (Nat.zero_le _) (by omega)
 rw [List.drop_zero] at this
 exact this
end Go.Proofs.YtgjcjbhhhlelnaaGreatDoor
end
section
namespace Go.Proofs.YtgjcjbhhhlelnaaGreatDoor
open Go Go.Proofs.YtgjcjbhhhlelnaaGreatDoor.Abs Go.Proofs.YtgjcjbhhhlelnaaGreatDoor.Tl
set_option maxRecDepth 100000
theorem ZnX (L:Nat)(h1:1000≤L)(p:Zk)(h:Ux p)(hL:2 * SizeOf.sizeOf p≤L):∃ v,Wi L (p,())=some v∧VO L (p,())=some v:=by
 have h3:SizeOf.sizeOf p.Sites < SizeOf.sizeOf p∧SizeOf.sizeOf p.Name < SizeOf.sizeOf p∧SizeOf.sizeOf p.Links < SizeOf.sizeOf p:=by cases p; simp; omega
 have h4:=ZI p.Sites; have h5:=ZI p.Links; have h6:=ZI p.Name
 have hs:=h.Sites.1; have hl:=h.Links.1
 have hn1:=QK L p.Name (by have:=h.Name; unfold Len; omega) (by omega)
 have hn2:=JX L p.Name (by have:=h.Name; unfold Len; omega) (by omega) (by omega)
 have hr:∀ y ∈ p.Sites,y.Routines.length≤4611686018427387∧y.Routines.length < L:=fun y mem=>by
  have hz:=Zxq p mem
  have:=(h.Sites.2 y mem).Routines.1
  have:=ZI y.Routines
  omega
 have hV:∀ (i:Nat) y,p.Sites[i]? = some y→∀ c ∈ y.Routines,Y3 L (p,(i:Int),c,())=some ((YX L (p,(i:Int),c,())).getD 0)∧YX L (p,(i:Int),c,())=some ((YX L (p,(i:Int),c,())).getD 0):=fun i y hy c hc=>by
  have mem:=List.mem_of_getElem? hy
  have hz:=Zxq p mem
  have:=List.sizeOf_lt_of_mem hc
  obtain ⟨v,e1,e2⟩:=Zba L h1 p (by omega) (by omega) (i:Int) y (by rw [Zg]; exact hy) c ((h.Sites.2 y mem).Routines.2 c hc) (by omega)
  rw [e1,e2]; exact ⟨rfl,rfl⟩
 obtain ⟨V,hV'⟩:∃ V:Int→Wp→Int,∀ (i:Nat) y,p.Sites[i]? = some y→∀ c ∈ y.Routines,Y3 L (p,(i:Int),c,())=some (V i c)∧YX L (p,(i:Int),c,())=some (V i c):=⟨fun i c=>(YX L (p,i,c,())).getD 0,hV⟩
 have ca:=Zre L p (by omega) (by omega)
 have ra:=Zw2 L p (by omega) (by omega)
 generalize (if decide (32 < (p.Links.length:Int))=true then 6 else N8 p [] p.Links)=A at ca ra
 have c1:=ZpB L h1 p h hL (by omega) (if decide (A=0)=true then rX V 0 p.Sites else A) (fun seen=>by
  rw [ca,Zx,Zx5 L p V (by omega) (by omega) hr (fun i y hy c hc=>(hV' i y hy c hc).1) seen,Z5]
  by_cases a:A=0 <;> simp [a])
 have r1:=ZwG L h1 p h hL (by omega) (if decide (A=0)=true then rX V 0 p.Sites else A) (by
  rw [ra,Zx,Z0P L p V (by omega) (by omega) hr (fun i y hy c hc=>(hV' i y hy c hc).2) A])
 refine ⟨_,by rw [ZaQ]; simp only [c1,hn1,Zx,ZH,Z5,Zl]; rfl,?_⟩
 rw [Zl6]; simp only [r1,hn2,Zx,ZH,Z5,Zl]
end Go.Proofs.YtgjcjbhhhlelnaaGreatDoor
end
section
namespace Go.Proofs.YtgjcjbhhhlelnaaGreatDoor
open Go Go.Proofs.YtgjcjbhhhlelnaaGreatDoor.Abs Go.Proofs.YtgjcjbhhhlelnaaGreatDoor.Tl
set_option maxRecDepth 100000
theorem ZiD {α:Type}(V:α→Int):∀ l:List α,Yk V l=0→∀ c ∈ l,V c=0
 | [],_,c,h=>by cases h
 | x :: l,h,c,hc=>by
  rw [Yk] at h
  by_cases a:V x=0
  ·simp [a] at h
   rcases List.mem_cons.1 hc with rfl | hc
   ·exact a
   ·exact ZiD V l h c hc
  ·simp [a] at h
theorem Zzg (V:Int→Wp→Int):∀ (l:List ZN) (i:Nat),rX V i l=0→∀ (k:Nat) y,l[k]? = some y→∀ c ∈ y.Routines,V ((i + k:Nat):Int) c=0
 | [],_,_,k,y,h=>by simp at h
 | x :: l,i,h,k,y,hy=>by
  rw [rX] at h
  split at h
  ·rename_i a; simp only [decide_eq_true_eq] at a; exact absurd h a
  ·rename_i a
   have a:Yk (V i) x.Routines=0:=by simpa using a
   cases k with
   | zero=>simp at hy; subst hy; exact ZiD (V i) _ a
   | succ k =>
    have:=Zzg V l (i + 1) h k y (by simpa using hy)
    intro c hc
    have e:=this c hc
    rw [show i + (k + 1)=i + 1 + k by omega]; exact e
theorem Zm6 (L:Nat)(h1:1000≤L)(p:Zk)(h:Ux p)(hL:2 * SizeOf.sizeOf p≤L)(e:Wi L (p,())=some 0) :
  (1≤p.Sites.length∧p.Sites.length≤16)∧(p.Links.length≤32∧N8 p [] p.Links=0)∧∀ (i:Nat) y,p.Sites[i]? = some y→∀ c ∈ y.Routines,Y3 L (p,(i:Int),c,())=some 0:=by
 have h3:SizeOf.sizeOf p.Sites < SizeOf.sizeOf p∧SizeOf.sizeOf p.Name < SizeOf.sizeOf p∧SizeOf.sizeOf p.Links < SizeOf.sizeOf p:=by cases p; simp; omega
 have h4:=ZI p.Sites; have h5:=ZI p.Links; have h6:=ZI p.Name
 have hs:=h.Sites.1; have hl:=h.Links.1
 have hn1:=QK L p.Name (by have:=h.Name; unfold Len; omega) (by omega)
 have hr:∀ y ∈ p.Sites,y.Routines.length≤4611686018427387∧y.Routines.length < L:=fun y mem=>by
  have hz:=Zxq p mem
  have:=(h.Sites.2 y mem).Routines.1
  have:=ZI y.Routines
  omega
 obtain ⟨V,hV⟩:∃ V:Int→Wp→Int,∀ (i:Nat) y,p.Sites[i]? = some y→∀ c ∈ y.Routines,Y3 L (p,(i:Int),c,())=some (V i c):=⟨fun i c=>(Y3 L (p,i,c,())).getD 0,fun i y hy c hc=>by
  have mem:=List.mem_of_getElem? hy
  have hz:=Zxq p mem
  have:=List.sizeOf_lt_of_mem hc
  obtain ⟨v,e1,e2⟩:=Zba L h1 p (by omega) (by omega) (i:Int) y (by rw [Zg]; exact hy) c ((h.Sites.2 y mem).Routines.2 c hc) (by omega)
  show _=some ((Y3 L (p,(i:Int),c,())).getD 0)
  rw [e1]; rfl⟩
 have ca:=Zre L p (by omega) (by omega)
 generalize hA:(if decide (32 < (p.Links.length:Int))=true then 6 else N8 p [] p.Links)=A at ca
 have c1:=ZpB L h1 p h hL (by omega) (if decide (A=0)=true then rX V 0 p.Sites else A) (fun seen=>by
  rw [ca,Zx,Zx5 L p V (by omega) (by omega) hr hV seen,Z5]
  by_cases a:A=0 <;> simp [a])
 rw [ZaQ,hn1,Zx,c1] at e
 by_cases a1:VE p.Name=0
 rotate_left
 ·rw [Z5,decide_eq_false a1] at e; exact absurd (Option.some.inj e) a1
 by_cases a2:(p.Sites.length:Int)=0
 ·simp [a1,a2] at e
 by_cases a3:(p.Sites.length:Int) > 16
 ·have a3':decide ((p.Sites.length:Int) > 16)=true:=by simpa using a3
  rw [a3',Z5,a1,ZH,decide_eq_false a2] at e; cases e
 have a3':decide ((p.Sites.length:Int) > 16)=false:=by simpa using a3
 rw [a3',Z5,a1,ZH,decide_eq_false a2] at e
 replace e:(if decide (KE p.Name [] p.Sites≠0)=true then KE p.Name [] p.Sites else if decide (A=0)=true then rX V 0 p.Sites else A)=0:=Option.some.inj e
 split at e
 ·rename_i b; simp only [decide_eq_true_eq] at b; exact absurd e b
 rename_i b
 have b:KE p.Name [] p.Sites=0:=by simpa using b
 split at e
 rotate_left
 ·rename_i d; exact absurd e (by simpa using d)
 rename_i d
 have d:A=0:=by simpa using d
 rw [d] at hA
 refine ⟨⟨by omega,by omega⟩,?_,fun i y hy c hc=>?_⟩
 ·split at hA
  ·cases hA
  ·rename_i g; exact ⟨by simp at g; omega,hA⟩
 ·have:=Zzg V p.Sites 0 e i y hy c hc
  rw [Nat.zero_add] at this
  rw [hV i y hy c hc,this]
theorem Zkv (p:Zk):∀ (l:List VQ) (s:List (Int×Int)),N8 p s l=0→∀ x ∈ l,(0≤x.From∧x.From < p.Sites.length∧0≤x.To∧x.To < p.Sites.length∧x.From≠x.To∧1≤x.Delay∧x.Delay≤1000000000)∧NZ x ∉ s∧l.find? (fun y=>decide (y.From=x.From) && decide (y.To=x.To))=some x
 | [],_,_,x,h=>by cases h
 | y :: l,s,h,x,hx=>by
  rw [N8] at h
  split at h
  ·cases h
  rename_i a
  split at h
  ·cases h
  rename_i b
  have a':0≤y.From∧y.From < p.Sites.length∧0≤y.To∧y.To < p.Sites.length∧y.From≠y.To∧1≤y.Delay∧y.Delay≤1000000000:=by
   simp only [Bool.or_eq_true,decide_eq_true_eq,not_or] at a; omega
  have b':NZ y ∉ s:=fun m=>b (List.contains_iff_mem.2 m)
  rcases List.mem_cons.1 hx with rfl | hx
  ·exact ⟨a',b',by simp [List.find?_cons]⟩
  ·obtain ⟨c1,c2,c3⟩:=Zkv p l _ h x hx
   refine ⟨c1,fun m=>c2 (List.mem_append_left _ m),?_⟩
   have:(decide (y.From=x.From) && decide (y.To=x.To))=false:=by
    rw [← Bool.not_eq_true,Bool.and_eq_true,decide_eq_true_eq,decide_eq_true_eq]
    rintro ⟨d1,d2⟩
    exact c2 (List.mem_append_right _ (by simp [NZ,d1,d2]))
   rw [List.find?_cons,this]; exact c3
end Go.Proofs.YtgjcjbhhhlelnaaGreatDoor
end
section
namespace Go.Proofs.YtgjcjbhhhlelnaaGreatDoor
open Go Go.Proofs.YtgjcjbhhhlelnaaGreatDoor.Abs Go.Proofs.YtgjcjbhhhlelnaaGreatDoor.Tl
set_option maxRecDepth 100000
def at_ (l:List Int)(i:Int):Int:=l.getD i.toNat 0
theorem CG (l:List Int)(i:Int)(h0:0≤i)(h1:i < l.length):ZJ l i=some (at_ l i):=by
 rw [ZJ,if_pos h0,at_,List.getD_eq_getElem?_getD,List.getElem?_eq_getElem (by omega)]; rfl
def X4 (l:List Int)(m:List VQ):List VQ:=m.filter fun a=>at_ l a.From != at_ l a.To
def VL (m:List VQ)(n:Nat):Prop:=∀ a ∈ m,0≤a.From∧a.From < n∧0≤a.To∧a.To < n
theorem ZmB (l:List Int)(m:List VQ)(i:Nat)(x:VQ)(h:m[i]? = some x):X4 l (m.take (i + 1))=X4 l (m.take i) ++ (if (at_ l x.From != at_ l x.To)=true then [x] else []):=by
 rw [X4,List.take_add_one,h,List.filter_append]; exact congrArg _ (List.filter_cons ..)
theorem ZgE (l:List Int)(m:List VQ):(X4 l m).length≤m.length:=List.length_filter_le _ _
theorem ZmA (f:Zk→List Int→(List VQ×Int×PUnit→Option (List VQ))→List VQ×Int×PUnit→Option (List VQ))(hf:f=Qq)(L:Nat)(p:Zk)(l:List Int)(h:VL p.Links l.length)(hm:p.Links.length≤40)(hL:1000≤L) :
  Zp (f p l) L ([],0,())=some (X4 l p.Links):=by
 subst hf
 have:=CV (f := Qq p l) p.Links.length (fun i=>(X4 l (p.Links.take i.toNat),i,())) (fun _=>some (X4 l p.Links)) (fun self i hi e=>by
  have hx:=List.getElem?_eq_getElem hi
  generalize p.Links[i]=x at hx
  obtain ⟨a1,a2,a3,a4⟩:=h x (List.mem_of_getElem? hx)
  have e1:(X4 l (p.Links.take i)).length≤40:=Nat.le_trans (ZgE _ _) (by rw [List.length_take]; omega)
  have e2:apT 24 (X4 l (p.Links.take i)) [x]=some (X4 l (p.Links.take i) ++ [x]):=by rw [apT,if_pos (by simp only [List.length_singleton]; omega)]
  have ht:=ZmB l p.Links i x hx
  rw [show ((i:Int) + 1).toNat=i + 1 by omega,ht] at e
  rw [Qq]
  simp only [Int.toNat_natCast]
  simp only [Zj,Zc,cond_true,cond_false,Zg,Zx,Za,Zm,condC,Zi,Zh,Zl,ZH,ZP,Z5,hi,hx,CG l _ a1 a2,CG l _ a3 a4,e2,wrap_succ hi (by omega)]
  rw [Z5] at e
  by_cases c:at_ l x.From=at_ l x.To
  ·simp only [c,decide_true,Bool.not_true,cond_false,Bool.false_eq_true,if_false,List.append_nil] at e ⊢; exact e
  ·simp only [c,decide_false,Bool.not_false,cond_true,if_true] at e ⊢; exact e) (fun self=>by
  rw [Qq]; simp only [Int.toNat_natCast,List.take_length]; simp only [Zj,Zc,cond_true,cond_false,Zg,Zx,Za,Zm,condC,Zi,Zh,Zl,ZH,ZP,Z5]) L 0 (Nat.zero_le _) (by omega)
 exact this
def mnA:List VQ→Int→Int
 | [],d=>d
 | x :: r,d=>mnA r (if x.Delay < d then x.Delay else d)
def VY:List VQ→Int×Bool×PUnit
 | []=>(0,false,())
 | a :: r=>(mnA (a :: r) a.Delay,true,())
theorem ZfO (L:Nat)(c:List VQ)(hc:c.length≤40)(hL:1000≤L)(d:Int):Zp (Qz c) L (d,0,())=some (mnA c d,true,()):=by
 refine NS (f := Qz c) c (fun l s=>some (mnA l s,true,())) (by omega) d (fun self s i x r hx hi mem e=>?_) (fun self s=>?_)
 ·rw [Qz]; simp only [Zj,Zc,cond_true,cond_false,Zg,Zx,Za,Zm,condC,Zi,Zh,Zl,ZH,ZP,Z5,hi,hx,wrap_succ hi (by omega),e,mnA]
 ·rw [Qz]; simp only [Zj,Zc,cond_true,cond_false,Zg,Zx,Za,Zm,condC,Zi,Zh,Zl,ZH,ZP,Z5,mnA]
theorem Zos (L:Nat)(c:List VQ)(hc:c.length≤40)(hL:1000≤L):Uw L (c,c,())=some true:=by
 rw [Zfd,CU (f := Js c c) c (fun _=>some true) (by omega) (fun self i x r hx hi mem e=>by
  rw [Js]; simp only [Zj,Zc,cond_true,cond_false,Zg,Zx,Za,Zm,condC,Zi,Zh,Zl,ZH,ZP,Z5,hi,hx,wrap_succ hi (by omega),e]; simp) (fun self=>by rw [Js]; simp only [Zj,Zc,cond_true,cond_false,Zg,Zx,Za,Zm,condC,Zi,Zh,Zl,ZH,ZP,Z5])]
 simp
theorem ZcB (v:Int)(a b:Nat)(r:Int):Vt v a b r=0↔v=0∧a=b∧r=0:=by
 unfold Vt
 by_cases h1:v=0
 ·by_cases h2:a=b
  ·simp [h1,h2]
  ·have:¬ (a:Int)=b:=by omega
   simp [h1,h2,this]
 ·simp [h1]
section
variable (L:Nat)(h1:1000≤L)(p:Zk)(h:Ux p)(hL:2 * SizeOf.sizeOf p≤L)
include h1 h hL
theorem Zga:∃ v,Wi L (p,())=some v∧∀ l:List Int,l.length≤40→Qd L (p,l,())=some (Vt v l.length p.Sites.length (pcA l WI 0))∧Ib L (p,l,())=some (Vt v l.length p.Sites.length (pcA l WI 0)):=by
 obtain ⟨v,e1,e2⟩:=ZnX L h1 p h hL
 refine ⟨v,e1,fun l hl=>⟨?_,?_⟩⟩
 ·show bT (Wi L (p,())) _=_
  rw [e1,Zx]
  exact if_pos ⟨by show l.length < L; omega,by show l.length < 4611686018427387904; omega⟩
 ·show bT (VO L (p,())) _=_
  rw [e2,Zx]
  refine (if_pos ⟨by show l.length < L; omega,by show l.length < 4611686018427387904; omega⟩).trans (congrArg some ?_)
  show Vt v l.length p.Sites.length (rcA l WI 0)=_
  by_cases hv:v=0
  ·subst hv
   by_cases hn:l.length=p.Sites.length
   ·rw [Zi3 l]
    rintro rfl
    have:=(Zm6 L h1 p h hL e1).1
    simp at hn
    omega
   ·have:¬ (l.length:Int)=p.Sites.length:=by omega
    simp [Vt,this]
  ·simp [Vt,hv]
theorem Zqf {v:Int}(e:Wi L (p,())=some v){l:List Int}(hw:Vt v l.length p.Sites.length (pcA l WI 0)=0):VL p.Links l.length∧Good l∧l≠[]∧l.length=p.Sites.length∧p.Links.length≤32∧v=0∧∀ a ∈ p.Links,1≤a.Delay:=by
 obtain ⟨rfl,h2,h3⟩:=(ZcB _ _ _ _).1 hw
 have hk:=Zm6 L h1 p h hL e
 have hne:l≠[]:=by rintro rfl; have:=hk.1; simp at h2; omega
 refine ⟨fun a ha=>?_,(ZmP l hne).1 h3,hne,h2,hk.2.1.1,rfl,fun a ha=>?_⟩
 ·have:=(Zkv p p.Links [] hk.2.1.2 a ha).1
  rw [h2]; exact ⟨this.1,this.2.1,this.2.2.1,this.2.2.2.1⟩
 ·exact (Zkv p p.Links [] hk.2.1.2 a ha).1.2.2.2.2.2.1
def Zz8 (w:Int)(l:List Int)(m:List VQ):List VQ:=if w=0 then X4 l m else []
theorem Zns {v:Int}(e:Wi L (p,())=some v)(l:List Int)(hl:l.length≤40)(hpl:p.Links.length≤40)(k:Qd L (p,l,())=some (Vt v l.length p.Sites.length (pcA l WI 0))∧Ib L (p,l,())=some (Vt v l.length p.Sites.length (pcA l WI 0))) :
  YE L (p,l,())=some (Zz8 (Vt v l.length p.Sites.length (pcA l WI 0)) l p.Links)∧OU L (p,l,())=some (Zz8 (Vt v l.length p.Sites.length (pcA l WI 0)) l p.Links):=by
 have hg:=@Zqf L h1 p h hL v e l
 rw [ZdE,Zrz,k.1,k.2,Zx,Zx]
 generalize Vt v l.length p.Sites.length (pcA l WI 0)=w at hg
 rw [Z5]
 by_cases hw:w=0
 ·have hv:=(hg hw).1
  rw [ZmA Qq rfl L p l hv hpl h1,ZmA Zgf rfl L p l hv hpl h1]
  simp [hw,Zz8]
 ·simp [hw,Zz8]
omit h hL in
theorem Zoz (l:List Int)(c:List VQ)(hc:c.length≤40)(k:YE L (p,l,())=some c∧OU L (p,l,())=some c):Vb L (p,l,())=some (VY c)∧ZeC L (p,l,())=some (VY c):=by
 rw [Zab,ZlE,k.1,k.2,Zx,Zx]
 cases c with
 | nil=>exact ⟨rfl,rfl⟩
 | cons a r =>
  have e:ZJ (a :: r) 0=some a:=rfl
  have e0:((((a :: r).length:Nat):Int) == 0)=false:=by rw [ZH]; simp; omega
  rw [e,Zx,Zx,e0,cond_false,cond_false]
  exact ⟨ZfO L _ hc h1 _,ZfO L _ hc h1 _⟩
end
end Go.Proofs.YtgjcjbhhhlelnaaGreatDoor
end
section
namespace Go.Proofs.YtgjcjbhhhlelnaaGreatDoor
open Go Go.Proofs.YtgjcjbhhhlelnaaGreatDoor.Abs Go.Proofs.YtgjcjbhhhlelnaaGreatDoor.Tl
set_option maxRecDepth 100000
theorem Zu5:∀ (l:List VQ) (d:Int),mnA l d≤d∧∀ x ∈ l,mnA l d≤x.Delay
 | [],d=>⟨Int.le_refl _,fun x h=>by cases h⟩
 | y :: r,d=>by
  have:=Zu5 r (if y.Delay < d then y.Delay else d)
  rw [mnA]
  refine ⟨by have:=this.1; split at this <;> omega,fun x hx=>?_⟩
  rcases List.mem_cons.1 hx with rfl | hx
  ·have:=this.1; split at this <;> omega
  ·exact this.2 x hx
theorem ZqI:∀ (l:List VQ) (d:Int),mnA l d=d∨∃ x ∈ l,x.Delay=mnA l d
 | [],d=>.inl rfl
 | y :: r,d=>by
  rw [mnA]
  rcases ZqI r (if y.Delay < d then y.Delay else d) with h | ⟨x,h1,h2⟩
  ·rw [h]; split
   ·exact .inr ⟨y,List.mem_cons_self ..,rfl⟩
   ·exact .inl rfl
  ·exact .inr ⟨x,List.mem_cons_of_mem _ h1,h2⟩
theorem Ztd (c:List VQ):∀ x ∈ c,(VY c).1≤x.Delay:=fun x hx=>by
 cases c with
 | nil=>cases hx
 | cons a r=>exact (Zu5 (a :: r) a.Delay).2 x hx
theorem ZiP (c:List VQ):(c.any fun x=>decide (x.Delay=(VY c).1))=(VY c).2.1∧(VY c).2.1=decide ((c.length:Int) > 0):=by
 cases c with
 | nil=>exact ⟨rfl,rfl⟩
 | cons a r =>
  refine ⟨?_,?_⟩
  ·show _=true
   rw [List.any_eq_true]
   rcases ZqI (a :: r) a.Delay with h | ⟨x,h1,h2⟩
   ·exact ⟨a,List.mem_cons_self ..,decide_eq_true h.symm⟩
   ·exact ⟨x,h1,decide_eq_true h2⟩
  ·show true=_
   simp
theorem Zvq (l:List Int)(m:List VQ)(i:Nat)(x:VQ)(h:m[i]? = some x)(hx:at_ l x.From≠at_ l x.To):(X4 l m)[(X4 l (m.take i)).length]? = some x:=by
 have hi:=(List.getElem?_eq_some_iff.1 h).1
 have e:X4 l m=X4 l (m.take i) ++ X4 l (m.drop i):=by rw [X4,X4,X4,← List.filter_append,List.take_append_drop]
 have e2:X4 l (m.drop i)=x :: X4 l (m.drop (i + 1)):=by
  rw [List.drop_eq_getElem_cons hi,(List.getElem?_eq_some_iff.1 h).2,X4,List.filter_cons,if_pos (by simpa using hx)]; rfl
 rw [e,List.getElem?_append_right (Nat.le_refl _),Nat.sub_self,e2]; rfl
theorem Zvr (l:List Int)(m:List VQ)(f:Int→Int)(hf:∀ x y,f x=f y→x=y)(h:VL m l.length):X4 (l.map f) m=X4 l m:=by
 unfold X4
 refine List.filter_congr fun a ha=>?_
 obtain ⟨a1,a2,a3,a4⟩:=h a ha
 have g:∀ i:Int,0≤i→i < l.length→at_ (l.map f) i=f (at_ l i):=fun i h1 h2=>by
  rw [at_,at_,List.getD_eq_getElem?_getD,List.getD_eq_getElem?_getD,List.getElem?_map,List.getElem?_eq_getElem (by omega)]; rfl
 rw [g _ a1 a2,g _ a3 a4,Z5,Z5]
 congr 2
 exact propext ⟨hf _ _,fun e=>by rw [e]⟩
theorem Zvs (l:List Int)(m:List VQ)(h:VL m l.length):X4 (l.map fun _=>0) m=[]:=by
 unfold X4
 rw [List.filter_eq_nil_iff]
 intro a ha
 obtain ⟨a1,a2,a3,a4⟩:=h a ha
 have g:∀ i:Int,0≤i→i < l.length→at_ (l.map fun _=>0) i=0:=fun i h1 h2=>by
  rw [at_,List.getD_eq_getElem?_getD,List.getElem?_map,List.getElem?_eq_getElem (by omega)]; rfl
 rw [g _ a1 a2,g _ a3 a4]; simp
section
variable (L:Nat)(h1:1000≤L)(p:Zk)(h:Ux p)(hL:2 * SizeOf.sizeOf p≤L)(l:List Int)(hl:l.length≤40)(hpl:p.Links.length≤40)
include h1 h hL hl hpl
theorem Zvt (hv:Wi L (p,())=some 0)(hg:Good l)(hne:l≠[])(hn:l.length=p.Sites.length)(hV:VL p.Links l.length)(i1 i2 i3:Int) :
  Zp (YA p l L (X4 l p.Links) (VY (X4 l p.Links)) (mxA l 0,i1,()) ((X4 l p.Links).length,i2,()) ((VY (X4 l p.Links)).2.1,i3,())) L ([],[],0,())=some true:=by
 have hm:=ZqJ l 0
 have hz:(0:Int) ∈ l:=hg.2 0 hm.1
 have hM:mxA l 0 < 16:=by
  rcases Zdr l 0 with e | e
  ·omega
  ·exact (hg.1 _ e).2
 have hc:(X4 l p.Links).length≤40:=Nat.le_trans (ZgE _ _) hpl
 obtain ⟨v,e,hk⟩:=Zga L h1 p h hL
 obtain rfl:v=0:=by rw [hv] at e; exact (Option.some.inj e).symm
 have good:∀ m:List Int,m.length=l.length→Good m→Qd L (p,m,())=some 0∧YE L (p,m,())=some (X4 m p.Links):=fun m h2 h3=>by
  have hmne:m≠[]:=by rintro rfl; exact hne (List.eq_nil_of_length_eq_zero h2.symm)
  have k:=hk m (by omega)
  have kc:=Zns L h1 p h hL e m (by omega) hpl k
  have z:Vt 0 m.length p.Sites.length (pcA m WI 0)=0:=(ZcB _ _ _ _).2 ⟨rfl,by omega,(ZmP m hmne).2 h3⟩
  rw [z] at k kc
  exact ⟨k.1,kc.1⟩
 have o1:=(good (l.map fun x=>mxA l 0 - x) (by simp) (Zof l hg hne)).2
 have o2:=good (l.map fun _=>0) (by simp) (ZsG l hne)
 rw [Zvr l p.Links (fun x=>mxA l 0 - x) (fun x y hxy=>by have:mxA l 0 - x=mxA l 0 - y:=hxy; omega) hV] at o1
 rw [Zvs l p.Links hV] at o2
 have ks:=Zos L (X4 l p.Links) hc h1
 have:=CV (f := YA p l L (X4 l p.Links) (VY (X4 l p.Links)) (mxA l 0,i1,()) ((X4 l p.Links).length,i2,()) ((VY (X4 l p.Links)).2.1,i3,())) l.length
  (fun i=>((l.take i.toNat).map (fun x=>mxA l 0 - x),(l.take i.toNat).map (fun _=>0),i,())) (fun _=>some true) (fun self i hi e=>by
  have hx:=List.getElem?_eq_getElem hi
  generalize l[i]=x at hx
  have hxm:=List.mem_of_getElem? hx
  have b1:=hg.1 x hxm
  have b2:=hm.2 x hxm
  have ew:IntKind.i64.wrap (mxA l 0 - x)=mxA l 0 - x:=i64_in (by omega) (by omega)
  have et:l.take (i + 1)=l.take i ++ [x]:=by rw [List.take_add_one,hx]; rfl
  have hli:(l.take i).length≤40:=by rw [List.length_take]; omega
  have e2:apT 8 ((l.take i).map (fun x=>mxA l 0 - x)) [mxA l 0 - x]=some ((l.take (i + 1)).map (fun x=>mxA l 0 - x)):=by rw [apT,if_pos (by simp only [List.length_singleton,List.length_map]; omega),et,List.map_append]; rfl
  have e3:apT 8 ((l.take i).map (fun _=>(0:Int))) [(0:Int)]=some ((l.take (i + 1)).map (fun _=>(0:Int))):=by rw [apT,if_pos (by simp only [List.length_singleton,List.length_map]; omega),et,List.map_append]; rfl
  rw [show ((i:Int) + 1).toNat=i + 1 by omega] at e
  rw [YA]
  simp only [Int.toNat_natCast]
  simp only [Zj,Zc,cond_true,cond_false,Zg,Zx,Za,Zm,condC,Zi,Zh,Zl,ZH,ZP,Z5,hi,hx,ew,e2,e3,wrap_succ hi (by omega),e]) (fun self=>by
  have la:=(ZiP (X4 l p.Links)).2
  rw [YA]
  simp only [Int.toNat_natCast,List.take_length]
  simp only [Zj,Zc,cond_true,cond_false,Zg,Zx,Za,Zm,condC,Zi,Zh,Zl,ZH,ZP,Z5,o1,o2.1,o2.2,ks,la]
  simp [Zx]) L 0 (Nat.zero_le _) (by omega)
 exact this
theorem Sl:QC L (p,l,())=some true:=by
 rw [U8,ZdA,Zx]
 by_cases hf:(decide ((p.2.length:Int)≤20) && decide ((p.3.length:Int)≤40) && decide ((l.length:Int)≤40))=true
 rotate_left
 ·rw [Bool.not_eq_true] at hf
  rw [hf]; rfl
 rw [hf]
 obtain ⟨v,e,hk⟩:=Zga L h1 p h hL
 have k:=hk l hl
 have kc:=Zns L h1 p h hL e l hl hpl k
 have hgo:=@Zqf L h1 p h hL v e l
 rw [k.2]
 generalize hw:Vt v l.length p.Sites.length (pcA l WI 0)=w at *
 by_cases h0:w=0
 rotate_left
 ·have:(w != 0)=true:=by simpa using h0
  simp [Zx,this]
 obtain ⟨hV,hg,hne,hn,h32,rfl,hd⟩:=hgo h0
 rw [h0] at kc
 have hc:(X4 l p.Links).length≤40:=Nat.le_trans (ZgE _ _) hpl
 replace kc:YE L (p,l,())=some (X4 l p.Links)∧OU L (p,l,())=some (X4 l p.Links):=kc
 have kl:=(Zoz L h1 p l _ hc kc).1
 rw [kc.1,kl,h0]
 simp only [Zx,Bool.not_true,beq_self_eq_true,cond_true]
 show Zp (Wv p l L (X4 l p.Links) (VY (X4 l p.Links))) L (0,0,())=some true
 have a0:=Zvt L h1 p h hL l hl hpl e hg hne hn hV
 have a1:∀ i1 i2:Int,Zp (Wu p l L (X4 l p.Links) (VY (X4 l p.Links)) (mxA l 0,i1,()) ((X4 l p.Links).length,i2,())) L (false,0,())=some true:=fun i1 i2=>by
  rw [NS (f := Wu p l L (X4 l p.Links) (VY (X4 l p.Links)) (mxA l 0,i1,()) ((X4 l p.Links).length,i2,())) (X4 l p.Links)
   (fun r s=>Zp (YA p l L (X4 l p.Links) (VY (X4 l p.Links)) (mxA l 0,i1,()) ((X4 l p.Links).length,i2,()) ((s || r.any fun x=>decide (x.Delay=(VY (X4 l p.Links)).1)),(X4 l p.Links).length,())) L ([],[],0,())) (by omega) false
   (fun self s i x r hx hi mem e=>by
    rw [Wu]
    cases s with
    | true=>simp only [Zj,Zc,cond_true,cond_false,Zg,Zx,Za,Zm,condC,Zi,Zh,Zl,ZH,ZP,Z5,hi,hx,wrap_succ hi (by omega),e]; simp [Zx,e]
    | false=>simp only [Zj,Zc,cond_true,cond_false,Zg,Zx,Za,Zm,condC,Zi,Zh,Zl,ZH,ZP,Z5,hi,hx,wrap_succ hi (by omega),e]; simp [Zx,e])
   (fun self s=>by
    rw [Wu]
    simp only [Zj,Zc,cond_true,cond_false,Zg,Zx,Za,Zm,condC,Zi,Zh,Zl,ZH,ZP,Z5]; simp),Bool.false_or,(ZiP _).1]
  exact a0 _ _ _
 have a2:∀ i1:Int,Zp (YB p l L (X4 l p.Links) (VY (X4 l p.Links)) (mxA l 0,i1,())) L (0,0,())=some true:=fun i1=>by
  have:=CV (f := YB p l L (X4 l p.Links) (VY (X4 l p.Links)) (mxA l 0,i1,())) p.Links.length
   (fun i=>(((X4 l (p.Links.take i.toNat)).length:Int),i,())) (fun _=>some true) (fun self i hi e=>by
   have hx:=List.getElem?_eq_getElem hi
   generalize p.Links[i]=x at hx
   have mem:=List.mem_of_getElem? hx
   obtain ⟨b1,b2,b3,b4⟩:=hV x mem
   have hlen:(X4 l (p.Links.take i)).length≤40:=Nat.le_trans (ZgE _ _) (by rw [List.length_take]; omega)
   have ht:=ZmB l p.Links i x hx
   rw [show ((i:Int) + 1).toNat=i + 1 by omega,ht] at e
   rw [YB]
   simp only [Int.toNat_natCast]
   by_cases c:at_ l x.From=at_ l x.To
   ·rw [if_neg (by simp [c]),List.append_nil] at e
    simp only [Zj,Zc,cond_true,cond_false,Zg,Zx,Za,Zm,condC,Zi,Zh,Zl,ZH,ZP,Z5,hi,hx,CG l _ b1 b2,CG l _ b3 b4,wrap_succ hi (by omega),c,e]
    simp [e]
   ·rw [if_pos (by simpa using c),List.length_append] at e
    have g1:=Zvq l p.Links i x hx c
    have g2:=(List.getElem?_eq_some_iff.1 g1).1
    have g3:=Ztd (X4 l p.Links) x (List.mem_of_getElem? g1)
    have g4:decide (((X4 l (p.Links.take i)).length:Int) ≥ (X4 l p.Links).length)=false:=by simp; omega
    have g5:ZJ (X4 l p.Links) ((X4 l (p.Links.take i)).length:Int)=some x:=by rw [Zg]; exact g1
    have g6:decide ((VY (X4 l p.Links)).1 > x.Delay)=false:=by simp; omega
    have g7:IntKind.i64.wrap (((X4 l (p.Links.take i)).length:Int) + 1)=(((X4 l (p.Links.take i)).length + [x].length:Nat):Int):=MF _ (by omega)
    simp only [Zj,Zc,cond_true,cond_false,Zg,Zx,Za,Zm,condC,Zi,Zh,Zl,ZH,ZP,Z5,hi,hx,CG l _ b1 b2,CG l _ b3 b4,wrap_succ hi (by omega),c,g4,g5,g6,g7]
    simp [Zx]
    simpa using e) (fun self=>by
   rw [YB]
   simp only [Int.toNat_natCast,List.take_length]
   simp only [Zj,Zc,cond_true,cond_false,Zg,Zx,Za,Zm,condC,Zi,Zh,Zl,ZH,ZP,Z5,a1]) L 0 (Nat.zero_le _) (by omega)
  exact this
 rw [NS (f := Wv p l L (X4 l p.Links) (VY (X4 l p.Links))) l
  (fun r s=>Zp (YB p l L (X4 l p.Links) (VY (X4 l p.Links)) (mxA r s,l.length,())) L (0,0,())) (by omega) 0
  (fun self s i x r hx hi mem e=>by
   rw [Wv]
   simp only [Zj,Zc,cond_true,cond_false,Zg,Zx,Za,Zm,condC,Zi,Zh,Zl,ZH,ZP,Z5,hi,hx,wrap_succ hi (by omega),e,mxA])
  (fun self s=>by
   rw [Wv]
   simp only [Zj,Zc,cond_true,cond_false,Zg,Zx,Za,Zm,condC,Zi,Zh,Zl,ZH,ZP,Z5,mxA])]
 exact a2 _
end
end Go.Proofs.YtgjcjbhhhlelnaaGreatDoor
end
