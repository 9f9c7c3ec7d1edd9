import Derived.Lib.ItoaLen
import Derived.Test.YtbcfddaocfpckaaGreatDoorRows
import Derived.Test.YtbcfddaocfpckaaGreatDoorHMo15
set_option linter.all false
open Bool renaming false_eq_true→aK,eq_false_or_eq_true→jQ,or_eq_false_iff→iJ,not_eq_true→je,not_false→ja,not_true→fF,and_eq_true→fG,or_eq_true→aJ,not_eq_true'→fH,not_eq_false→jf,false_and→jg
open Int renaming reduceEq→jh,reduceBEq→ji,toNat_natCast→jk
open List renaming sizeOf_lt_of_mem→jR,length_nil→az,length_append→aZ,mem_append→bf,length_cons→dB,getElem?_eq_getElem→bG,length_map→dF,length_take→bU,map_append→gp,take_length→jl,mem_cons→gZ,not_mem_nil→jm,pairwise_map→jo,map_cons→cO,contains_iff_mem→jq,mem_of_getElem?→aS,getElem_mem→bZ,drop_eq_getElem_cons→jb,drop_length→jc,getElem?_map→aP,drop_zero→iZ,length→iM,intercalate→jr,cons_append→gB,intercalate_cons_cons→jv,take_succ_cons→iT,mem_map_of_mem→iQ,eq_nil_of_length_eq_zero→bg,map_map→iO,nil_append→bn,getElem?_cons_zero→aY,getElem?_cons_succ→ak,mem_cons_of_mem→ai,mem_of_mem_take→dA,replicate→aO,length_replicate→jy,append_assoc→bJ,singleton_append→kC,take_append_drop→jC,range→ah,range_succ_eq_map→kD,map_congr_left→iP,all_eq_true→aQ,mem_cons_self→aj,append_nil→fZ,getElem?_eq_some_iff→ag,flatten_cons→cu
open Nat renaming zero_le→eG,not_lt_zero→gz,lt_or_ge→dJ,le_refl→dI,le_trans→dK,zero_add→dR,mul_le_mul_left→kE,add_mul→dV
open Option.some renaming inj→ed
section
namespace Go.Proofs.YtbcfddaocfpckaaGreatDoor
open Go Abs Tl
set_option maxRecDepth 100000
theorem z9:type_of% (And.intro @Zg (And.intro @Zd (And.intro @cond_true.{1} (And.intro @cond_false.{1} (And.intro @Zf (And.intro @Zn (And.intro @Ze (And.intro @Zv (And.intro @condC (And.intro @Zj (And.intro @Zk (And.intro @Zw (And.intro @ZQ (And.intro @ZV @ZI)))))))))))))):=And.intro @Zg (And.intro @Zd (And.intro @cond_true.{1} (And.intro @cond_false.{1} (And.intro @Zf (And.intro @Zn (And.intro @Ze (And.intro @Zv (And.intro @condC (And.intro @Zj (And.intro @Zk (And.intro @Zw (And.intro @ZQ (And.intro @ZV @ZI)))))))))))))
theorem Dw {α:Type}(nm:α→List UInt8)(s:List UInt8)(l:List α):decide (JE (fun x=>decide (nm x=s)) l 0≥0)=(l.map nm).contains s:=by
 rw [show decide (JE (fun x=>decide (nm x=s)) l 0≥0)=_ from AA _ l 0 (Int.le_refl _),← Zgm,List.any_map]
 congr 1;funext x;exact decide_eq_decide.2 ⟨Eq.symm,Eq.symm⟩
theorem Wh (d:Za):SizeOf.sizeOf d.Name<SizeOf.sizeOf d∧SizeOf.sizeOf d.Vars<SizeOf.sizeOf d∧SizeOf.sizeOf d.Resources<SizeOf.sizeOf d∧SizeOf.sizeOf d.Stores<SizeOf.sizeOf d∧SizeOf.sizeOf d.Belts<SizeOf.sizeOf d∧SizeOf.sizeOf d.Queues<SizeOf.sizeOf d∧SizeOf.sizeOf d.Streams<SizeOf.sizeOf d∧SizeOf.sizeOf d.Tallies<SizeOf.sizeOf d∧SizeOf.sizeOf d.Levels<SizeOf.sizeOf d∧SizeOf.sizeOf d.Counts<SizeOf.sizeOf d∧SizeOf.sizeOf d.Routines<SizeOf.sizeOf d∧SizeOf.sizeOf d.Starts<SizeOf.sizeOf d∧SizeOf.sizeOf d.Laws<SizeOf.sizeOf d:=by
 cases d;simp;omega
structure Sh (L:Nat)(d:Za):Prop where
 nm:d.Name.length<L
 vars:d.Vars.length<L
 res:d.Resources.length<L
 sto:d.Stores.length<L
 bel:d.Belts.length<L
 que:d.Queues.length<L
 str:d.Streams.length<L
 tal:d.Tallies.length<L
 lev:d.Levels.length<L
 cnt:d.Counts.length<L
 rou:d.Routines.length<L
 sta:d.Starts.length<L
 law:d.Laws.length<L
theorem Sh.of {L:Nat}{d:Za}(h:SizeOf.sizeOf d≤L):Sh L d:=by
 have:=Wh d
 constructor
 ·have:=Z4 d.Name;omega
 ·have:=Z4 d.Vars;omega
 ·have:=Z4 d.Resources;omega
 ·have:=Z4 d.Stores;omega
 ·have:=Z4 d.Belts;omega
 ·have:=Z4 d.Queues;omega
 ·have:=Z4 d.Streams;omega
 ·have:=Z4 d.Tallies;omega
 ·have:=Z4 d.Levels;omega
 ·have:=Z4 d.Counts;omega
 ·have:=Z4 d.Routines;omega
 ·have:=Z4 d.Starts;omega
 ·have:=Z4 d.Laws;omega
theorem ZhM (L:Nat)(d:Za)(t:Vl)(h:Z8 d)(hL:d.Stores.length<L):loopT (Xi d t) L (0,())=some (JE (fun x:ZO=>decide (x.Name=t.Name)) d.Stores 0):=by
 have:=h.st
 exact ZeI d.Stores (fun l i=>some (JE (fun x:ZO=>decide (x.Name=t.Name)) l i)) hL (fun self i x r hx hi _ e=>by
  rw [Xi];simp only [z9,hi,hx,wrap_succ hi (by omega),e,JE];simp only [Y4,XI,if_true,if_false,aK,ne_eq,decide_not,gt_iff_lt,ge_iff_le]) (fun self=>by rw [Xi];simp only [z9,JE])
theorem Znn (L:Nat)(d:Za)(t:Vl)(h:Z8 d)(hs:Sh L d):KD L (d,t,())=some (En d t):=by
 have:=h.st
 have sl:=ZhM L d t h hs.sto
 rw [ZdH,show D9=Xi from rfl,show DC=Xi from rfl]
 simp only [z9,PW L d t.Name (by unfold Len;omega) hs.rou,sl,Zbd L d.Counts t.Name (by unfold Len;omega) hs.cnt,Vu,Dw,En,Eo];simp only [Y4,XI,if_true,if_false,aK,ne_eq,decide_not,gt_iff_lt,ge_iff_le]
theorem ZnG {l:List Oj}{x:Oj}(h:x∈l):x.Terms.length<SizeOf.sizeOf l∧x.Name.length<SizeOf.sizeOf l:=by
 have:=jR h
 have h1:=Z4 x.Terms;have h2:=Z4 x.Name
 have:SizeOf.sizeOf x.Terms<SizeOf.sizeOf x∧SizeOf.sizeOf x.Name<SizeOf.sizeOf x:=by cases x;simp;omega
 omega
theorem Bc {α σ:Type}(f:α→Int)(s:σ):∀l:List α,ZZ (fun x s=>(f x,s)) l s=(W9 f l,s)
 | []=>rfl
 |x::l=>by rw [ZZ,Bc f s l,W9];split<;>rfl
theorem ZmV (L:Nat)(d:Za)(h:Z8 d)(hL:SizeOf.sizeOf d≤L):KA L (d,())=some (OC d):=by
 have hs:=Sh.of hL
 have hz:=Wh d
 have hl:d.Laws.length≤4611686018427387:=by have:=h.Laws.1;omega
 have lp:=AU (f := JO d L) d.Laws (fun l:Oj=>ZN l.Name (Zgu d l)) hs.law ([]:Seen) (fun self s i x hx hi mem=>by
  have hsz:=ZnG mem
  have ok:=h.Laws.2 x mem
  have hn:=QN L x.Name (by have:=ok.Name;unfold Len;omega) (by omega)
  have ht:=ok.t
  have tl:=fun s:Seen=>AU (f := JM d L x) x.Terms (fun t s=>(En d t,s)) (show x.Terms.length<L by omega) s (fun self s i t hx hi mem=>by
   rw [JM];simp only [z9,hi,hx,Znn L d t h hs,wrap_succ hi (by omega)]) (fun self s=>by rw [JM];simp only [z9])
  simp only [Bc] at tl
  rw [JO]
  simp only [Zg,cond_true,Zf,Zn,ZI,Jf,hi,hx,hn]
  simp only [z9,Zom,tl,wrap_succ hi (by omega)]
  simp only [ZN,Zgu,Oa]
  by_cases a:(Yt x.Name s).1=0<;>by_cases b:x.Terms=[]<;>by_cases c:8<(x.Terms.length:Int)<;>by_cases e:W9 (En d) x.Terms=0<;>rcases jQ (inB x.Total) with g|g<;>simp [a,b,c,e,g,Zn])
  (fun self s=>by rw [JO];simp only [z9])
 rw [ZdF,VM 32 (fun l:Oj=>ZN l.Name (Zgu d l)) d.Laws [] lp,Zn]
 rfl
theorem Zkc (L:Nat)(a b:List ZX)(h:a.length+b.length≤1000)(hL:2<L):ZW L ([a,b],())=some (a++b):=by
 have w1:IntKind.i64.wrap (0+(a.length:Int))=a.length:=by rw [Int.zero_add];exact wrap_in (by omega) (by omega)
 have w2:IntKind.i64.wrap ((a.length:Int)+b.length)=(a.length:Int)+b.length:=wrap_in (by omega) (by omega)
 have n1:decide ((a.length:Int)<0)=false:=by simp only [decide_eq_false_iff_not];omega
 have n2:decide ((a.length:Int)+b.length<0)=false:=by simp only [decide_eq_false_iff_not];omega
 have g:ZjM [] ((a.length:Int)+b.length)=some []:=by unfold ZjM;rw [if_pos ⟨rfl,by omega,by omega⟩]
 have p1:apT 24 [] a=some a:=by unfold apT;rw [if_pos (by simp only [az];omega)];rfl
 have p2:apT 24 a b=some (a++b):=by unfold apT;rw [if_pos (by omega)]
 rw [Xw,ZjS _ hL]
 simp only [Wn,two,w01,Zn,cond_true,cond_false,w1,w2,n1,n2,g,ZjS (Yn _) hL,Yn,p1,p2]
theorem Zoi {α σ:Type}{f:(Int×σ×PUnit→Option Int)→Int×σ×PUnit→Option Int}(l:List α)(step:α→σ→Int×σ)(e:Int){m:Nat}(hm:l.length<m)(s:σ)
  (h1:∀self s (i:Nat) x,l[i]? = some x→i<l.length→x∈l→f self ((i:Int),s,())=bif !decide ((step x s).1=0) then some (step x s).1 else self ((i:Int)+1,(step x s).2,()))
  (h2:∀self s,f self ((l.length:Int),s,())=some e):loopT f m (0,s,())=some (if decide ((ZZ step l s).1≠0)=true then (ZZ step l s).1 else e) :=
 ZeJ l (fun s i=>(i,s,())) (fun l s=>some (if decide ((ZZ step l s).1≠0)=true then (ZZ step l s).1 else e)) (fun self s i x r hx hi mem e=>by
  rw [h1 self s i x hx hi mem,e,ZZ]
  by_cases c:(step x s).1=0<;>simp [c]) (fun self s=>by rw [h2];rfl) m 0 s (eG _) (by omega)
theorem ZnF {l:List ZX}{x:ZX}(h:x∈l):x.Name.length<SizeOf.sizeOf l:=by
 have:=jR h
 have h2:=Z4 x.Name
 have:SizeOf.sizeOf x.Name<SizeOf.sizeOf x:=by cases x;simp;omega
 omega
theorem Zet (r:Zx):SizeOf.sizeOf r.Name<SizeOf.sizeOf r∧SizeOf.sizeOf r.Params<SizeOf.sizeOf r∧SizeOf.sizeOf r.Locals<SizeOf.sizeOf r∧SizeOf.sizeOf r.Body<SizeOf.sizeOf r:=by cases r;simp;omega
theorem ZiP (L:Nat)(h1:100≤L)(r:Zx)(h:X3 r)(hL:SizeOf.sizeOf r≤L):VA L (r,())=some (YY r):=by
 have hz:=Zet r
 have hp:=h.p
 have hw:IntKind.i64.wrap ((r.Params.length:Int)+(r.Locals.length:Int))=(r.Params.length:Int)+(r.Locals.length:Int):=wrap_in (by omega) (by omega)
 rw [Fv,hw,YY]
 by_cases hc:6<(r.Params.length:Int)∨16<(r.Params.length:Int)+(r.Locals.length:Int)
 ·rw [if_pos (by simpa using hc),show (decide ((r.Params.length:Int)>6)||decide ((r.Params.length:Int)+(r.Locals.length:Int)>16))=true by simpa using hc];rfl
 ·have hf:(decide ((r.Params.length:Int)>6)||decide ((r.Params.length:Int)+(r.Locals.length:Int)>16))=false:=by
   simp only [iJ,decide_eq_false_iff_not];omega
  have hf':¬((decide (6<(r.Params.length:Int))||decide (16<(r.Params.length:Int)+(r.Locals.length:Int)))=true):=by simpa using hc
  rw [if_neg hf',hf,cond_false,Zkc L _ _ (by omega) (by omega),Zn]
  have hlen:(r.Params++r.Locals).length≤16:=by rw [aZ];omega
  exact Zoi (f := XJ r L (r.Params++r.Locals)) (r.Params++r.Locals) (fun f:ZX=>ZN f.Name (Du f)) (LC r.Body) (by omega) [] (fun self s i x hx hi mem=>by
   have ok:E8 x∧x.Name.length<L:=by
    rcases bf.1 mem with m|m
    ·exact ⟨h.Params.2 x m,by have:=ZnF m;omega⟩
    ·exact ⟨h.Locals.2 x m,by have:=ZnF m;omega⟩
   have hn:=QN L x.Name (by have:=ok.1.Name;unfold Len;omega) ok.2
   rw [XJ]
   simp only [Zg,cond_true,Zf,Zn,ZI,Jf,hi,hx,hn]
   simp only [z9,ZbU,wrap_succ hi (by omega)]
   simp only [ZN,Du]
   by_cases a:(Yt x.Name s).1=0<;>rcases jQ (btw x.Ty 1 3) with g|g<;>simp [a,g]) (fun self s=>by
   rw [XJ];simp only [z9,Zkq L h1 r.Body h.p.2.2 (by omega)])
theorem Ze0 {α:Type}[SizeOf α](g:α→List UInt8)(hg:∀x,SizeOf.sizeOf (g x)<SizeOf.sizeOf x){l:List α}{x:α}(h:x∈l):(g x).length<SizeOf.sizeOf l∧SizeOf.sizeOf x<SizeOf.sizeOf l:=by
 have h1:=jR h
 have h2:=Z4 (g x)
 have h3:=hg x
 omega
theorem Zi0 (L:Nat)(d:Za)(h:d.Queues.length*16≤140737488351232∧∀y∈d.Queues,y.length≤140737488351232)(hL:SizeOf.sizeOf d.Queues≤L)(s:Seen):loopT (JU d L) L (0,s,())=some ((ZZ Yt d.Queues s).1,(ZZ Yt d.Queues s).2,()):=by
 have hk:=Z4 d.Queues
 refine AU d.Queues Yt (by omega) s (fun self s i x hx hi mem=>?_) (fun self s=>by rw [JU];simp only [z9])
 have h1:=jR mem
 have hn:=QN L x (by have:=h.2 x mem;unfold Len;omega) (by have:=Z4 x;omega)
 rw [JU]
 simp only [Zg,cond_true,Zf,Zn,ZI,Jf,hi,hx,hn]
 simp only [z9,wrap_succ hi (by omega)]
theorem ZmC (L:Nat)(d:Za)(h:Z8 d)(hL:SizeOf.sizeOf d≤L)(s:Seen):loopT (JP d L) L (0,s,())=some ((ZZ (fun v:Yc=>ZN v.Name (Wu v)) d.Vars s).1,(ZZ (fun v:Yc=>ZN v.Name (Wu v)) d.Vars s).2,()):=by
 have hz:=Wh d
 have hs:=Sh.of hL
 have hl:=h.Vars.1
 refine AU d.Vars _ hs.vars s (fun self s i x hx hi mem=>?_) (fun self s=>by rw [JP];simp only [z9])
 have hm:=Ze0 (fun v:Yc=>v.Name) (fun x=>by cases x;simp;omega) mem
 have hn:=QN L x.Name (by have:=(h.Vars.2 x mem).Name;unfold Len;omega) (by omega)
 rw [JP]
 simp only [Zg,cond_true,Zf,Zn,ZI,Jf,hi,hx,hn]
 simp only [z9,ZbU,ZiH,wrap_succ hi (by omega)]
 simp only [ZN,Wu]
 by_cases a:(Yt x.Name s).1=0<;>rcases jQ (btw x.Ty 1 3) with g|g<;>rcases jQ (fitsT x.Ty x.N) with g' | g' <;> simp [a,g,g']
theorem Zob (L:Nat)(h1:100≤L)(d:Za)(h:Z8 d)(hL:SizeOf.sizeOf d≤L)(s:Seen):loopT (JQ d L) L (0,s,())=some ((ZZ (fun v:Zi=>ZN v.Name (ZcV d v)) d.Resources s).1,(ZZ (fun v:Zi=>ZN v.Name (ZcV d v)) d.Resources s).2,()):=by
 have hz:=Wh d
 have hs:=Sh.of hL
 have hl:=h.Resources.1
 refine AU d.Resources _ hs.res s (fun self s i x hx hi mem=>?_) (fun self s=>by rw [JQ];simp only [z9])
 have hm:=Ze0 (fun v:Zi=>v.Name) (fun x=>by cases x;simp;omega) mem
 have ok:=h.Resources.2 x mem
 have hx2:SizeOf.sizeOf x.Fault<SizeOf.sizeOf x∧SizeOf.sizeOf x.Shift<SizeOf.sizeOf x:=by cases x;simp;omega
 have hsh:=Z4 x.Shift
 have hn:=QN L x.Name (by have:=ok.Name;unfold Len;omega) (by omega)
 rw [JQ]
 simp only [Zg,cond_true,Zf,Zn,ZI,Jf,hi,hx,hn]
 simp only [z9,Vu,Zhq L x ok (by omega),Zhn L d h hL x.Fault ok.Fault (by omega) h1,wrap_succ hi (by omega)]
 simp only [ZN,ZcV]
 by_cases a:(Yt x.Name s).1=0<;>rcases jQ (btw x.Units 0 1000) with g|g<;>by_cases b:Zj7 x=0<;>simp [a,g,b]
theorem Zof (L:Nat)(d:Za)(h:Z8 d)(hL:SizeOf.sizeOf d≤L)(s:Seen):loopT (JR d L) L (0,s,())=some ((ZZ (fun v:ZO=>ZN v.Name (VK v)) d.Stores s).1,(ZZ (fun v:ZO=>ZN v.Name (VK v)) d.Stores s).2,()):=by
 have hz:=Wh d
 have hs:=Sh.of hL
 have hl:=h.Stores.1
 refine AU d.Stores _ hs.sto s (fun self s i x hx hi mem=>?_) (fun self s=>by rw [JR];simp only [z9])
 have hm:=Ze0 (fun v:ZO=>v.Name) (fun x=>by cases x;simp;omega) mem
 have hn:=QN L x.Name (by have:=(h.Stores.2 x mem).Name;unfold Len;omega) (by omega)
 rw [JR]
 simp only [Zg,cond_true,Zf,Zn,ZI,Jf,hi,hx,hn]
 simp only [z9,Vu,wrap_succ hi (by omega)]
 simp only [ZN,VK]
 by_cases a:(Yt x.Name s).1=0<;>rcases jQ (btw x.Room 1 1000) with g|g<;>by_cases b:x.Policy<1<;>by_cases c:3<x.Policy<;>simp [a,g,b,c]
theorem ZnZ (L:Nat)(d:Za)(h:Z8 d)(hL:SizeOf.sizeOf d≤L)(s:Seen):loopT (JS d L) L (0,s,())=some ((ZZ (fun v:Yv=>ZN v.Name (Ec v)) d.Belts s).1,(ZZ (fun v:Yv=>ZN v.Name (Ec v)) d.Belts s).2,()):=by
 have hz:=Wh d
 have hs:=Sh.of hL
 have hl:=h.Belts.1
 refine AU d.Belts _ hs.bel s (fun self s i x hx hi mem=>?_) (fun self s=>by rw [JS];simp only [z9])
 have hm:=Ze0 (fun v:Yv=>v.Name) (fun x=>by cases x;simp;omega) mem
 have hn:=QN L x.Name (by have:=(h.Belts.2 x mem).Name;unfold Len;omega) (by omega)
 rw [JS]
 simp only [Zg,cond_true,Zf,Zn,ZI,Jf,hi,hx,hn]
 simp only [z9,Vu,wrap_succ hi (by omega)]
 simp only [ZN,Ec]
 by_cases a:(Yt x.Name s).1=0<;>rcases jQ (btw x.Length 1 1000) with g|g<;>rcases jQ (btw x.Step 1 1000) with g' | g' <;> simp [a,g,g']
theorem Zoc (L:Nat)(h1:100≤L)(d:Za)(h:Z8 d)(hL:SizeOf.sizeOf d≤L)(s:Seen):loopT (JV d L) L (0,s,())=some ((ZZ (fun v:Zx=>ZN v.Name (YY v)) d.Routines s).1,(ZZ (fun v:Zx=>ZN v.Name (YY v)) d.Routines s).2,()):=by
 have hz:=Wh d
 have hs:=Sh.of hL
 have hl:=h.Routines.1
 refine AU d.Routines _ hs.rou s (fun self s i x hx hi mem=>?_) (fun self s=>by rw [JV];simp only [z9])
 have hm:=Ze0 (fun v:Zx=>v.Name) (fun x=>by cases x;simp;omega) mem
 have ok:=h.Routines.2 x mem
 have hn:=QN L x.Name (by have:=ok.Name;unfold Len;omega) (by omega)
 rw [JV]
 simp only [Zg,cond_true,Zf,Zn,ZI,Jf,hi,hx,hn]
 simp only [z9,ZiP L h1 x ok (by omega),wrap_succ hi (by omega)]
 simp only [ZN]
 by_cases a:(Yt x.Name s).1=0<;>simp [a]
theorem Zoe (L:Nat)(d:Za)(h:Z8 d)(hL:SizeOf.sizeOf d≤L)(s:Seen):loopT (Q8 d L) L (0,s,())=some (W9 (WQ d) d.Starts,s,()):=by
 have hz:=Wh d
 have hs:=Sh.of hL
 have hl:=h.Starts.1
 have:=AU (f := Q8 d L) d.Starts (fun x s=>(WQ d x,s)) hs.sta s (fun self s i x hx hi mem=>by
  have hm:=Ze0 (fun v:Y1=>v.Routine) (fun x=>by cases x;simp;omega) mem
  have hx2:SizeOf.sizeOf x.Args<SizeOf.sizeOf x:=by cases x;simp;omega
  have ha:=Z4 x.Args
  rw [Q8]
  simp only [z9,hi,hx,ZlU L d h hs.rou x (h.Starts.2 x mem) (by omega),wrap_succ hi (by omega)]) (fun self s=>by rw [Q8];simp only [z9])
 rw [Bc] at this
 exact this
theorem Ti {σ:Type}(P:Int×σ)(r:List (σ→Int×σ)){X:Option (Int×σ×PUnit)}(h:X=some ((Oh r P.2).1,(Oh r P.2).2,()))(f:σ→Int×σ)(s:σ)(hP:f s=P):(bif P.1 != 0 then some (P.1,P.2,()) else X)=some ((Oh (f::r) s).1,(Oh (f::r) s).2,()):=by
 subst h;subst hP
 rw [Oh]
 by_cases c:(f s).1=0<;>simp [c,ZI]
theorem Zna (L:Nat)(h1:100≤L)(d:Za)(h:Z8 d)(hL:SizeOf.sizeOf d≤L):KC L (d,())=some (Oe d):=by
 have hz:=Wh d
 have e0:=fun s=>VM 32 (fun v:Yc=>ZN v.Name (Wu v)) d.Vars s (ZmC L d h hL s)
 have e1:=fun s=>VM 32 (fun v:Zi=>ZN v.Name (ZcV d v)) d.Resources s (Zob L h1 d h hL s)
 have e2:=fun s=>VM 32 (fun v:ZO=>ZN v.Name (VK v)) d.Stores s (Zof L d h hL s)
 have e3:=fun s=>VM 32 (fun v:Yv=>ZN v.Name (Ec v)) d.Belts s (ZnZ L d h hL s)
 have e4:=fun s=>VM 32 Yt d.Queues s (Zi0 L d h.Queues (by omega) s)
 have e5:=fun s:Seen=>VM 32 Yt d.Streams s (show loopT (D5 d L) L (0,s,())=_ from Zi0 L { d with Queues:=d.Streams } h.Streams (show SizeOf.sizeOf d.Streams≤L by omega) s)
 have e6:=fun s:Seen=>VM 32 Yt d.Tallies s (show loopT (D6 d L) L (0,s,())=_ from Zi0 L { d with Queues:=d.Tallies } h.Tallies (show SizeOf.sizeOf d.Tallies≤L by omega) s)
 have e7:=fun s:Seen=>VM 32 Yt d.Levels s (show loopT (D7 d L) L (0,s,())=_ from Zi0 L { d with Queues:=d.Levels } h.Levels (show SizeOf.sizeOf d.Levels≤L by omega) s)
 have e8:=fun s:Seen=>VM 32 Yt d.Counts s (show loopT (D8 d L) L (0,s,())=_ from Zi0 L { d with Queues:=d.Counts } h.Counts (show SizeOf.sizeOf d.Counts≤L by omega) s)
 have e9:=fun s=>VM 16 (fun v:Zx=>ZN v.Name (YY v)) d.Routines s (Zoc L h1 d h hL s)
 have ea:∀s:Seen,(bif decide ((d.Starts.length:Int)>32) then some (6,s,()) else loopT (Q8 d L) L (0,s,()))=some (Oa 32 (WQ d) d.Starts,s,()):=fun s=>by
  rw [Zoe L d h hL s];unfold Oa;by_cases c:32<(d.Starts.length:Int)<;>simp [c]
 rw [ZdG]
 simp only [e0,e1,e2,e3,e4,e5,e6,e7,e8,e9,ea,Zn,ZmV L d h hL]
 have fin:∀s:Seen,(bif OC d != 0 then some (OC d,s,()) else some (0,s,()))=some ((Oh [fun s:Seen=>(OC d,s)] s).1,(Oh [fun s:Seen=>(OC d,s)] s).2,()):=fun s=>by
  rw [Oh,Oh,ZI];by_cases c:OC d=0<;>simp [c]
 have key:=Ti _ _ (Ti _ _ (Ti _ _ (Ti _ _ (Ti _ _ (Ti _ _ (Ti _ _ (Ti _ _ (Ti _ _ (Ti _ _ (Ti (Oa 32 (WQ d) d.Starts,_) _ (fin _) (fun s=>(Oa 32 (WQ d) d.Starts,s)) _ rfl) (YK 16 (fun v:Zx=>ZN v.Name (YY v)) d.Routines) _ rfl) (YK 32 Yt d.Counts) _ rfl) (YK 32 Yt d.Levels) _ rfl) (YK 32 Yt d.Tallies) _ rfl) (YK 32 Yt d.Streams) _ rfl) (YK 32 Yt d.Queues) _ rfl) (YK 32 (fun v:Yv=>ZN v.Name (Ec v)) d.Belts) _ rfl) (YK 32 (fun v:ZO=>ZN v.Name (VK v)) d.Stores) _ rfl) (YK 32 (fun v:Zi=>ZN v.Name (ZcV d v)) d.Resources) _ rfl) (YK 32 (fun v:Yc=>ZN v.Name (Wu v)) d.Vars) ([]:Seen) rfl
 exact (congrArg (fun o:Option (Int×Seen×PUnit)=>bT o fun y=>some y.1) key).trans rfl
theorem Vw (L:Nat)(a b c:Int):ZH L (a,b,c,())=some (btw a b c):=ZdQ L a b c
theorem Vt (L:Nat)(a b:Int):Z5 L (a,b,())=some (Y3 a b):=by
 simp only [z9,Zfu,Y3];simp only [Y4,XI,if_true,if_false,aK,ne_eq,decide_not,gt_iff_lt,ge_iff_le]
theorem QO (L:Nat)(a:Bool)(b:Int):Zp L (a,b,())=some (Ya a b):=by
 simp only [z9,ZdP,Ya];simp only [Y4,XI,if_true,if_false,aK,ne_eq,decide_not,gt_iff_lt,ge_iff_le]
theorem ZeT (L:Nat)(t:Int):Jb L (t,())=some (Zeu t):=Zft L t
theorem ZiE (L:Nat)(t n:Int):Uu L (t,n,())=some (fitsT t n):=by
 simp only [z9,Zhz,ZlM,Vw,fitsT];simp only [Y4,XI,if_true,if_false,aK,ne_eq,decide_not,gt_iff_lt,ge_iff_le]
theorem Zgs (s:List UInt8)(l:List (List UInt8)):decide (JE (fun k=>decide (k=s)) l 0<0)=!(l.contains s):=by
 have:=Dw (fun x:List UInt8=>x) s l
 rw [List.map_id'] at this
 rw [← this,show decide (JE (fun k=>decide (k=s)) l 0<0)=!decide (JE (fun k=>decide (k=s)) l 0≥0) by rw [← decide_not];congr 1;exact propext Int.not_le.symm]
theorem DL (L:Nat)(h1:100≤L)(s:List UInt8)(seen:Seen)(hs:Len s)(hsL:s.length<L)(hl:Len seen)(hL:seen.length<L):Xf L (s,seen,())=some (DF s seen):=by
 simp only [z9,Zfw,Gj L s hs hsL h1,Zd0 L seen s hl hL,QO,Vt,Zgs,DF]
theorem apS {l:List (List UInt8)}{a:List UInt8}(h:l.length≤8000000000000):apT 16 l [a]=some (l++[a]):=by unfold apT;rw [if_pos (by simp only [dB,az];omega)]
theorem Zi4 {α τ ρ:Type}{f:(τ→Option ρ)→τ→Option ρ}(l:List α)(nm:α→List UInt8)(pk:List (List UInt8)→Int→τ)(o:Option ρ){m:Nat}(hm:l.length<m)
  (h1:∀self s (i:Nat) x,l[i]? = some x→i<l.length→s.length≤i→f self (pk s i)=self (pk (s++[nm x]) ((i:Int)+1)))
  (h2:∀self,f self (pk (l.map nm) (l.length:Nat))=o):loopT f m (pk [] 0)=o:=by
 have key:∀(m i:Nat),i≤l.length→l.length - i<m→loopT f m (pk ((l.take i).map nm) i)=o:=by
  intro m
  induction m with
  |zero=>intro i _ h;exact absurd h (gz _)
  |succ m ih =>
   intro i hi hm
   show f (loopT f m) _=_
   rcases dJ i l.length with hlt|hge
   ·have hx:=bG hlt
    rw [h1 _ _ i _ hx hlt (by rw [dF,bU];omega),← ih (i+1) hlt (by omega)]
    rw [List.take_succ,hx,gp];rfl
   ·have:i=l.length:=by omega
    subst this
    rw [jl,h2]
 exact key m 0 (eG _) (by omega)
theorem ZeS (L:Nat)(d:Za)(h:Z8 d)(hs:Sh L d):Ja L (d,())=some ((X9 d).map (·.2)):=by
 have a1:=h.Vars.1;have a2:=h.Resources.1;have a3:=h.Stores.1;have a4:=h.Belts.1;have a5:=h.Routines.1
 rw [Zfs]
 refine Zi4 d.Vars (·.Name) (fun s i=>(i,s,[],[],[],[],[],[],[],[],[],())) _ hs.vars (fun self s i x hx hi hsl=>by
  rw [OY];simp only [z9,hi,hx,wrap_succ hi (by omega),apS (show s.length≤8000000000000 by omega)]) (fun self=>?_)
 rw [OY];simp only [z9]
 refine Zi4 d.Resources (·.Name) (fun s i=>(i,_,s,[],[],[],[],[],[],[],[],())) _ hs.res (fun self s i x hx hi hsl=>by
  rw [OX];simp only [z9,hi,hx,wrap_succ hi (by omega),apS (show s.length≤8000000000000 by omega)]) (fun self=>?_)
 rw [OX];simp only [z9]
 refine Zi4 d.Stores (·.Name) (fun s i=>(i,_,_,s,[],[],[],[],[],[],[],())) _ hs.sto (fun self s i x hx hi hsl=>by
  rw [OW];simp only [z9,hi,hx,wrap_succ hi (by omega),apS (show s.length≤8000000000000 by omega)]) (fun self=>?_)
 rw [OW];simp only [z9]
 refine Zi4 d.Belts (·.Name) (fun s i=>(i,_,_,_,s,[],[],[],[],[],[],())) _ hs.bel (fun self s i x hx hi hsl=>by
  rw [OV];simp only [z9,hi,hx,wrap_succ hi (by omega),apS (show s.length≤8000000000000 by omega)]) (fun self=>?_)
 rw [OV];simp only [z9]
 refine Zi4 d.Routines (·.Name) (fun s i=>(i,_,_,_,_,_,_,_,_,_,s,())) _ hs.rou (fun self s i x hx hi hsl=>by
  rw [OU];simp only [z9,hi,hx,wrap_succ hi (by omega),apS (show s.length≤8000000000000 by omega)]) (fun self=>?_)
 rw [OU];simp only [z9]
 rfl
theorem Zdw (L:Nat)(d:Za)(h:Z8 d)(hs:Sh L d):∀p∈X9 d,Len p.2∧p.2.length<L:=by
 have a1:=h.Vars.1;have a2:=h.Resources.1;have a3:=h.Stores.1;have a4:=h.Belts.1;have a5:=h.Routines.1
 have b1:=h.Queues.1;have b2:=h.Streams.1;have b3:=h.Tallies.1;have b4:=h.Levels.1;have b5:=h.Counts.1
 obtain ⟨c1,c2,c3,c4,c5,c6,c7,c8,c9,c10,c11,c12,c13⟩:=hs
 intro p hp
 simp only [X9,gZ,jm,or_false] at hp
 unfold Len
 rcases hp with rfl|rfl|rfl|rfl|rfl|rfl|rfl|rfl|rfl|rfl<;>simp only [dF]<;>omega
theorem Zlt (s:List UInt8)(l:List (List UInt8)):decide (JE (fun k=>decide (k=s)) l 0≥0)=l.contains s:=by
 have:=Dw (fun x:List UInt8=>x) s l
 rwa [List.map_id'] at this
theorem ZmN (L:Nat)(d:Za)(h:Z8 d)(hs:Sh L d)(hL:100≤L)(s:List UInt8):Qa L (d,s,())=some (Gf s (X9 d)):=by
 rw [Zh0,ZeS L d h hs,Zn]
 have lp:=ZeK (f := Hg s L ((X9 d).map (·.2))) ((X9 d).map (·.2)) ((X9 d).map (·.1)) (by simp) (fun l l'=>some (Gf s (l'.zip l))) (m := L) (show 10<L by omega) (fun self i x y r r' hx hy hi mem e=>by
  have hi2:i<10:=hi
  obtain ⟨p,hp,rfl⟩:=List.mem_map.1 mem
  have hk:=Zdw L d h hs p hp
  have hy':[[118,97,114],[114,101,115,111,117,114,99,101],[115,116,111,114,101],[98,101,108,116],[113,117,101,117,101],[115,116,114,101,97,109],[116,97,108,108,121],[108,101,118,101,108],[99,111,117,110,116],[114,111,117,116,105,110,101]][i]? = some y:=hy
  rw [Hg]
  simp only [z9,hi,hx,Zd0 L p.2 s hk.1 hk.2,Zlt]
  rw [wrap_in (by omega) (by omega),e]
  simp only [hy',Zn,Zw,List.zip_cons_cons,Gf];simp only [Y4,XI,if_true,if_false,aK,ne_eq,decide_not,gt_iff_lt,ge_iff_le]) (fun self=>by rw [Hg];simp only [z9,List.zip_nil_right,Gf])
 rw [lp]
 congr 2
theorem PT (d:Za)(h:(Oh ((QJ d).map stepD) []).1=0)(nm:List UInt8)(p:List UInt8×List (List UInt8))(hp:p∈X9 d):decide (Gf nm (X9 d)=p.1)=p.2.contains nm:=by
 have key:Gf nm (X9 d)=p.1↔nm∈p.2:=by
  refine ZaZ nm (X9 d) ?_ ?_ ?_ p hp
  ·have:=(ZkS _ _ h).1
   have h2:((QJ d).map Ef).Pairwise (fun a b=>∀x∈a,x∉b):=jo.2 this
   rw [← Zgt] at h2
   exact jo.1 h2
  ·simp only [X9,cO,List.map_nil];decide
  ·simp only [X9,cO,List.map_nil];decide
 rw [← jq] at key
 by_cases c:Gf nm (X9 d)=p.1
 ·rw [key.1 c];simp [c]
 ·have:p.2.contains nm=false:=by
   rw [← je];exact fun e=>c (key.2 e)
  rw [this];simp [c]
theorem Zk8 (t:Vl)(b:Bool):Y3 (Y3 (Ya true 1) (Ya b 5)) (Ya (btw t.Coef (-1000) 1000&&!decide (t.Coef=0)) 2)=Eo t b:=by
 unfold Eo
 rcases jQ (btw t.Coef (-1000) 1000) with h3|h3<;>by_cases c:t.Coef=0<;>cases b<;>simp [Y3,Ya,c,h3]
theorem ZlS (L:Nat)(d:Za)(h:Z8 d)(hs:Sh L d)(hL:100≤L)(hd:(Oh ((QJ d).map stepD) []).1=0)(t:Vl):MP L (d,t,())=some (En d t):=by
 have hR:=PT d hd t.Name ([114,111,117,116,105,110,101],d.Routines.map (·.Name)) (by simp [X9])
 have hS:=PT d hd t.Name ([115,116,111,114,101],d.Stores.map (·.Name)) (by simp [X9])
 have hQ:=PT d hd t.Name ([99,111,117,110,116],d.Counts) (by simp [X9])
 simp only at hR hS hQ
 have z:∀x,Y3 (Y3 (Ya false 1) x)=fun _=>1:=fun x=>by funext y;simp [Y3,Ya]
 simp only [z9,Zh3,QO,Vt,ZmN L d h hs hL,Vw,hR,hS,hQ,reduceCtorEq,decide_false,decide_true,ja,fF,Zk8,z,En]
 simp only [Y4,XI,if_true,if_false,aK,ne_eq,decide_not,gt_iff_lt,ge_iff_le]
theorem Zgp (a b c:Int):Y3 (Y3 a b) c=Y3 a (Y3 b c):=by
 unfold Y3
 by_cases h:a=0<;>by_cases h2:b=0<;>simp [h,h2]
theorem ZjI {α:Type}(f:α→Int)(x:α)(r:List α):Y3 (f x) (W9 f r)=W9 f (x::r):=by
 unfold Y3;rw [W9]
theorem ZjJ (a:Int):Y3 a 0=a:=by unfold Y3;by_cases h:a=0<;>simp [h]
theorem Zon (L:Nat)(d:Za)(h:Z8 d)(hs:Sh L d)(hL:100≤L)(hd:(Oh ((QJ d).map stepD) []).1=0)(l:Oj)(ok:ZcW l)(hl:l.Terms.length<L)(hn:l.Name.length<L)(seen:Seen)(h1:Len seen)(h2:seen.length<L):PG L (d,l,seen,())=some (ZN l.Name (Zgu d l) seen).1:=by
 have ht:=ok.t
 have lp:=fun n=>AQ (f := MF d l L) l.Terms (fun r n=>some (Y3 (Y3 n (W9 (En d) r)) (Ya (inB l.Total) 2))) hl n (fun self n i x r hx hi mem e=>by
  rw [MF];simp only [z9,hi,hx,ZlS L d h hs hL hd x,Vt,wrap_succ hi (by omega),e,Zgp,← ZjI]) (fun self n=>by
  rw [MF];simp only [z9,ZlM,QO,Vt,W9,ZjJ])
 simp only [z9,ZiY,DL L hL l.Name seen (by have:=ok.Name;unfold Len;omega) hn h1 h2,QO,Vt,lp]
 rw [Nk]
 simp only [Zgp]
 congr 2
 unfold Zgu Oa
 by_cases a:l.Terms=[]<;>by_cases b:8<(l.Terms.length:Int)<;>by_cases c:W9 (En d) l.Terms=0<;>rcases jQ (inB l.Total) with g|g<;>simp [a,b,c,g,Y3,Ya]
theorem Zgr {α:Type}(nm:α→List UInt8)(s:List UInt8):∀(l:List α) (i:Int),JE (fun k=>decide (k=s)) (l.map nm) i=JE (fun x=>decide (nm x=s)) l i
 | [],_=>rfl
 |x::l,i=>by simp only [cO,JE,Zgr nm s l]
theorem Zbe (L:Nat)(d:Za)(h:Z8 d)(hs:Sh L d)(s:List UInt8):VC L (d,s,())=some (JE (fun r:Zx=>decide (r.Name=s)) d.Routines 0):=by
 have hk:=Zdw L d h hs ([114,111,117,116,105,110,101],d.Routines.map (·.Name)) (by simp [X9])
 rw [Zco,ZeS L d h hs,Zn,show getT ((X9 d).map (·.2)) 9=some (d.Routines.map (·.Name)) from Zf _ 9,Zn,Zd0 L _ s hk.1 hk.2,Zn,Zgr]
theorem Zh9 (L:Nat)(s:Y1)(r:Zx)(hp:r.Params.length≤4611686018427387)(he:r.Params.length=s.Args.length)(hL:r.Params.length<L):loopT (Ko s L r) L (0,())=some (argsT (Pj s) r.Params s.Args):=by
 refine ZeK r.Params s.Args he (fun p a=>some (argsT (Pj s) p a)) hL (fun self i x y q q' hx hy hi _ e=>?_) (fun self=>?_)
 ·rw [Ko];simp only [z9,hi,hx,hy,ZiE,wrap_succ hi (by omega),e,argsT];simp only [Y4,XI,if_true,if_false,aK,ne_eq,decide_not,gt_iff_lt,ge_iff_le]
 ·rw [Ko,← Zjk];simp only [z9,Vw,QO,argsT,ZfU];simp only [Y4,XI,if_true,if_false,aK,ne_eq,decide_not,gt_iff_lt,ge_iff_le]
theorem Zko (L:Nat)(d:Za)(h:Z8 d)(hs:Sh L d)(s:Y1)(hs':Ux s)(hsL:s.Args.length<L):Iq L (d,s,())=some (WQ d s):=by
 rw [Zfx,Zbe L d h hs s.Routine,Zn,WQ]
 rcases Es (fun r:Zx=>decide (r.Name=s.Routine)) d.Routines 0 with ⟨a,b⟩|⟨k,r,a,b,c⟩
 ·rw [a,b];rfl
 ·have ok:=h.Routines.2 r (aS c)
  rw [a,b,Int.zero_add,show decide ((k:Int)<0)=false by simp only [decide_eq_false_iff_not];omega,cond_false,Zf,c,Zn]
  simp only
  rcases Zog s.Args r.Params with ⟨e1,e2⟩|⟨e1,e2⟩
  ·rw [Zh9 L s r ok.p.1 e1.symm (by omega),ZI,e2];simp only [Y4,XI,if_true,if_false,aK,ne_eq,decide_not,gt_iff_lt,ge_iff_le,e2,fF,cond_false]
  ·rw [ZI,e2];simp only [Y4,XI,if_true,if_false,aK,ne_eq,decide_not,gt_iff_lt,ge_iff_le,e2,ja,cond_true]
theorem Zi6 {α τ:Type}{f:(τ→Option Int)→τ→Option Int}(pk:Seen→Int→τ)(l:List α)(step:α→Seen→Int×Seen)(c:Nat)(e:Seen→Option Int){m:Nat}(hm:l.length<m)
  (hst:∀x s,(step x s).2.length≤s.length+1)
  (h1:∀self s (i:Nat) x,l[i]? = some x→i<l.length→x∈l→s.length≤c+i→f self (pk s i)=bif !decide ((step x s).1=0) then some (step x s).1 else self (pk (step x s).2 ((i:Int)+1)))
  (h2:∀self s,s.length≤c+l.length→f self (pk s (l.length:Nat))=e s) (s:Seen) (hs:s.length≤c):loopT f m (pk s 0)=if decide ((ZZ step l s).1≠0)=true then some (ZZ step l s).1 else e (ZZ step l s).2:=by
 have key:∀(m i:Nat) (s:Seen),i≤l.length→l.length - i<m→s.length≤c+i→loopT f m (pk s i)=if decide ((ZZ step (l.drop i) s).1≠0)=true then some (ZZ step (l.drop i) s).1 else e (ZZ step (l.drop i) s).2:=by
  intro m
  induction m with
  |zero=>intro i s _ h;exact absurd h (gz _)
  |succ m ih =>
   intro i s hi hm hsl
   show f (loopT f m) _=_
   rcases dJ i l.length with hlt|hge
   ·have hx:=bG hlt
    have:=ih (i+1) (step l[i] s).2 hlt (by omega) (by have:=hst l[i] s;omega)
    rw [h1 _ s i _ hx hlt (bZ hlt) hsl,jb hlt,ZZ,show ((i:Int)+1)=((i+1:Nat):Int) from rfl,this]
    by_cases z:(step l[i] s).1=0<;>simp [z]
   ·have:i=l.length:=by omega
    subst this
    rw [jc,h2 _ s hsl];rfl
 exact key m 0 s (eG _) (by omega) (by omega)
theorem TR (s:List UInt8)(r:Int)(seen:Seen):(ZN s r seen).2.length≤seen.length+1:=by
 have h:(Yt s seen).2.length≤seen.length+1:=by
  unfold Yt
  split
  ·exact Nat.le_succ _
  ·split
   ·exact Nat.le_succ _
   ·simp
 unfold ZN
 split<;>exact h
theorem TS {s:List UInt8}{r:Int}{seen:Seen}(h:(ZN s r seen).1=0):(ZN s r seen).2=seen++[s]:=(ZfW h).1
theorem Zhp (L:Nat)(h1:100≤L)(r:Zx)(h:X3 r)(hL:SizeOf.sizeOf r≤L):Uk L (r,())=some (YY r):=by
 have hz:=Zet r
 have hp:=h.p
 have hw:IntKind.i64.wrap ((r.Params.length:Int)+(r.Locals.length:Int))=(r.Params.length:Int)+(r.Locals.length:Int):=wrap_in (by omega) (by omega)
 rw [Zcp,hw,YY]
 by_cases hc:6<(r.Params.length:Int)∨16<(r.Params.length:Int)+(r.Locals.length:Int)
 ·rw [if_pos (by simpa using hc),show (decide ((r.Params.length:Int)>6)||decide ((r.Params.length:Int)+(r.Locals.length:Int)>16))=true by simpa using hc];rfl
 ·have hf:(decide ((r.Params.length:Int)>6)||decide ((r.Params.length:Int)+(r.Locals.length:Int)>16))=false:=by
   simp only [iJ,decide_eq_false_iff_not];omega
  have hf':¬((decide (6<(r.Params.length:Int))||decide (16<(r.Params.length:Int)+(r.Locals.length:Int)))=true):=by simpa using hc
  have hlen:(r.Params++r.Locals).length≤16:=by rw [aZ];omega
  have p1:apT 24 [] r.Params=some r.Params:=by unfold apT;rw [if_pos (by simp only [az];omega)];rfl
  have p2:apT 24 r.Params r.Locals=some (r.Params++r.Locals):=by unfold apT;rw [if_pos (by omega)]
  rw [if_neg hf',hf,cond_false,p1,Zn,p2,Zn]
  rw [Zi6 (f := Jk r L (r.Params++r.Locals)) (fun s i=>(s,i,())) (r.Params++r.Locals) (fun f:ZX=>ZN f.Name (Du f)) 0 (fun _=>some (LC r.Body)) (by omega) (fun x s=>TR _ _ _) (fun self s i x hx hi mem hsl=>by
   have ok:E8 x∧x.Name.length<L:=by
    rcases bf.1 mem with m|m
    ·exact ⟨h.Params.2 x m,by have:=ZnF m;omega⟩
    ·exact ⟨h.Locals.2 x m,by have:=ZnF m;omega⟩
   have hn:=DL L h1 x.Name s (by have:=ok.1.Name;unfold Len;omega) ok.2 (by unfold Len;omega) (by omega)
   rw [Jk]
   simp only [z9,hi,hx,hn,ZeT,QO,Vt,Zm4,apS (show s.length≤8000000000000 by omega),wrap_succ hi (by omega)]
   rw [← Nk]
   by_cases c:(ZN x.Name (Du x) s).1=0
   ·rw [TS c]
   ·simp [c]) (fun self s hsl=>by
   rw [Jk];simp only [z9,ZiQ L h1 r.Body h.p.2.2 (by omega)]) [] (dI _)]
  rw [XI];rfl
theorem ZfB (L:Nat)(d:Zi)(h:Yw d)(hL:d.Shift.length<L)(hc:IntKind.i64.wrap (d.Cycle - 1)=d.Cycle - 1):loopT (QX d L) L (0,())=some (Zj8 d.Cycle none d.Shift):=by
 have hl:=h.s
 refine Zi5 (f := QX d L) d.Shift.length (fun i=>(i,())) (fun i=>some (Zj8 d.Cycle (Zca d.Shift i) (d.Shift.drop i))) (fun self i hi e=>?_) (fun self=>?_) L 0 (eG _) (by omega)
 ·have hx:=bG hi
  rw [jb hi,Zj8]
  rw [show Zca d.Shift (i+1)=some (d.Shift[i].At_) by rw [Zca,hx];rfl] at e
  rw [QX]
  simp only [z9,hi,hx,Vw,wrap_succ hi (by omega),e,hc,ZiW _ _ _ hi hl];simp only [Y4,XI,if_true,if_false,aK,ne_eq,decide_not,gt_iff_lt,ge_iff_le]
 ·rw [QX];simp only [z9,jc,Zj8]
theorem ZeW (L:Nat)(d:Zi)(h:Yw d)(hL:d.Shift.length<L):Jp L (d,())=some (Zj7 d):=by
 simp only [z9,Za4,Vw,QO,Zj7]
 by_cases hc:btw d.Cycle 1 1000000000=true
 ·have:=ZfB L d h hL (by simp only [btw,fG,decide_eq_true_eq] at hc;exact wrap_in (by omega) (by omega))
  rw [this];simp only [Y4,XI,if_true,if_false,aK,ne_eq,decide_not,gt_iff_lt,ge_iff_le,Ya]
  by_cases a:d.Cycle=0<;>simp [a]
 ·rw [je] at hc
  simp only [Y4,XI,if_true,if_false,aK,ne_eq,decide_not,gt_iff_lt,ge_iff_le,hc,ja,Ya]
  by_cases a:d.Cycle=0<;>simp [a]
theorem Zho (L:Nat)(h1:100≤L)(d:Za)(h:Z8 d)(hs:Sh L d)(x:Zi)(ok:Yw x)(hx:SizeOf.sizeOf x≤L):Jq L (d,x,())=some (ZcV d x):=by
 have hx2:SizeOf.sizeOf x.Fault<SizeOf.sizeOf x∧SizeOf.sizeOf x.Shift<SizeOf.sizeOf x∧SizeOf.sizeOf x.Fault.Up<SizeOf.sizeOf x.Fault∧SizeOf.sizeOf x.Fault.Down<SizeOf.sizeOf x.Fault:=by
  obtain ⟨a,b,c,d,⟨e,f,g⟩⟩:=x;simp;omega
 have hsh:=Z4 x.Shift
 have hst:=h.st
 rw [← ZlY]
 simp only [z9,Za5,Vw,QO,Vt,ZeW L x ok (by omega),ZbW L x.Fault.Up _ ok.Fault.Up (by omega),ZbW L x.Fault.Down _ ok.Fault.Down (by omega),MB,Zd0 L d.Streams x.Fault.Stream (by unfold Len;omega) hs.str,MC L x.Fault.Up ok.Fault.Up (by omega),MC L x.Fault.Down ok.Fault.Down (by omega),Zgs,Zo2];simp only [Y4,XI,if_true,if_false,aK,ne_eq,decide_not,gt_iff_lt,ge_iff_le]
theorem ZmP (L:Nat)(d:Za)(j:Nat)(x:Yc)(hx:d.Vars[j]? = some x):YC L (d,0,(j:Int),())=some (Wu x):=by
 rw [QC];simp only [z9,hx,jh,decide_true,decide_false,ZeT,QO,ZiE,Vt,valueR]
theorem ZmQ (L:Nat)(h1:100≤L)(d:Za)(h:Z8 d)(hL:SizeOf.sizeOf d≤L)(j:Nat)(x:Zi)(hx:d.Resources[j]? = some x):YC L (d,1,(j:Int),())=some (ZcV d x):=by
 have hz:=Wh d
 have mem:=aS hx
 have hm:=jR mem
 rw [QC];simp only [z9,hx,jh,decide_true,decide_false,Zho L h1 d h (Sh.of hL) x (h.Resources.2 x mem) (by omega)]
theorem ZmR (L:Nat)(d:Za)(j:Nat)(x:ZO)(hx:d.Stores[j]? = some x):YC L (d,2,(j:Int),())=some (VK x):=by
 rw [QC];simp only [z9,hx,jh,decide_true,decide_false,Vw,QO,Vt,ge_iff_le,Zn6]
theorem ZmS (L:Nat)(d:Za)(j:Nat)(x:Yv)(hx:d.Belts[j]? = some x):YC L (d,3,(j:Int),())=some (Ec x):=by
 rw [QC];simp only [z9,hx,jh,decide_true,decide_false,Vw,QO,ZnQ]
theorem ZmT (L:Nat)(h1:100≤L)(d:Za)(h:Z8 d)(hL:SizeOf.sizeOf d≤L)(j:Nat)(x:Zx)(hx:d.Routines[j]? = some x):YC L (d,9,(j:Int),())=some (YY x):=by
 have hz:=Wh d
 have mem:=aS hx
 have hm:=jR mem
 have e:=Zhp L h1 x (h.Routines.2 x mem) (by omega)
 generalize YY x=z at e ⊢
 rw [QC,show ((9:Int)==0)=false from rfl,show ((9:Int)==1)=false from rfl,show ((9:Int)==2)=false from rfl,show ((9:Int)==3)=false from rfl,show ((9:Int)==9)=true from rfl,cond_false,cond_false,cond_false,cond_false,cond_true,Zf,hx,Zn,e,Zn]
theorem Zd2 (L:Nat)(d:Za)(k j:Int)(h:k=4∨k=5∨k=6∨k=7∨k=8):YC L (d,k,j,())=some 0:=by
 rw [QC];rcases h with rfl|rfl|rfl|rfl|rfl<;>simp only [z9,jh,decide_true,decide_false]
theorem Zhm (L:Nat)(h1:100≤L)(d:Za)(h:Z8 d)(hL:SizeOf.sizeOf d≤L)(k:Nat)(p:Int×List (List UInt8×Int))(hp:(QJ d)[k]? = some p)(j:Nat)(q:List UInt8×Int)(hq:p.2[j]? = some q):YC L (d,(k:Int),(j:Int),())=some q.2:=by
 rcases k with _|_|_|_|_|_|_|_|_|_|k
 ·obtain rfl:=ed hp;obtain ⟨x,hx,rfl⟩:=KP hq;exact ZmP L d j x hx
 ·obtain rfl:=ed hp;obtain ⟨x,hx,rfl⟩:=KP hq;exact ZmQ L h1 d h hL j x hx
 ·obtain rfl:=ed hp;obtain ⟨x,hx,rfl⟩:=KP hq;exact ZmR L d j x hx
 ·obtain rfl:=ed hp;obtain ⟨x,hx,rfl⟩:=KP hq;exact ZmS L d j x hx
 ·obtain rfl:=ed hp;obtain ⟨x,hx,rfl⟩:=KP hq;exact Zd2 L d 4 j (by simp)
 ·obtain rfl:=ed hp;obtain ⟨x,hx,rfl⟩:=KP hq;exact Zd2 L d 5 j (by simp)
 ·obtain rfl:=ed hp;obtain ⟨x,hx,rfl⟩:=KP hq;exact Zd2 L d 6 j (by simp)
 ·obtain rfl:=ed hp;obtain ⟨x,hx,rfl⟩:=KP hq;exact Zd2 L d 7 j (by simp)
 ·obtain rfl:=ed hp;obtain ⟨x,hx,rfl⟩:=KP hq;exact Zd2 L d 8 j (by simp)
 ·obtain rfl:=ed hp;obtain ⟨x,hx,rfl⟩:=KP hq;exact ZmT L h1 d h hL j x hx
 ·exact absurd hp (by simp [QJ])
theorem Zhc (L:Nat)(d:Za)(h:Z8 d)(hL:SizeOf.sizeOf d≤L):∀p∈QJ d,∀q∈p.2,Len q.1∧q.1.length<L:=by
 have hz:=Wh d
 intro p hp q hq
 simp only [QJ,gZ,jm,or_false] at hp
 unfold Len
 rcases hp with rfl|rfl|rfl|rfl|rfl|rfl|rfl|rfl|rfl|rfl<;>obtain ⟨x,mem,rfl⟩:=List.mem_map.1 hq
 ·have:=Ze0 (fun v:Yc=>v.Name) (fun x=>by cases x;simp;omega) mem;have:=(h.Vars.2 x mem).Name;simp only;omega
 ·have:=Ze0 (fun v:Zi=>v.Name) (fun x=>by cases x;simp;omega) mem;have:=(h.Resources.2 x mem).Name;simp only;omega
 ·have:=Ze0 (fun v:ZO=>v.Name) (fun x=>by cases x;simp;omega) mem;have:=(h.Stores.2 x mem).Name;simp only;omega
 ·have:=Ze0 (fun v:Yv=>v.Name) (fun x=>by cases x;simp;omega) mem;have:=(h.Belts.2 x mem).Name;simp only;omega
 ·have:=jR mem;have:=Z4 x;have:=h.Queues.2 x mem;simp only;omega
 ·have:=jR mem;have:=Z4 x;have:=h.Streams.2 x mem;simp only;omega
 ·have:=jR mem;have:=Z4 x;have:=h.Tallies.2 x mem;simp only;omega
 ·have:=jR mem;have:=Z4 x;have:=h.Levels.2 x mem;simp only;omega
 ·have:=jR mem;have:=Z4 x;have:=h.Counts.2 x mem;simp only;omega
 ·have:=Ze0 (fun v:Zx=>v.Name) (fun x=>by cases x;simp;omega) mem;have:=(h.Routines.2 x mem).Name;simp only;omega
theorem inner (L:Nat)(h1:1000≤L)(d:Za)(h:Z8 d)(hL:SizeOf.sizeOf d≤L)(k:Nat)(p:Int×List (List UInt8×Int))(hp:(QJ d)[k]? = some p)(hl:p.2.length≤32)(hk:k<10)(self:Int×List (List UInt8)×Int×PUnit→Option Int)(s0 s:Seen)(hs:s.length≤32*k) :
  loopT (U7 d L ((QJ d).map Ef) self (0,s0,(k:Int),())) L (0,s,0,())=if decide ((ZZ UG p.2 s).1≠0)=true then some (ZZ UG p.2 s).1 else self (0,(ZZ UG p.2 s).2,(k:Int)+1,()):=by
 have hg:getT ((QJ d).map Ef) (k:Int)=some (Ef p):=by rw [Zf,aP,hp];rfl
 have hlen:(Ef p).length=p.2.length:=by simp [Ef]
 refine Zi6 (f := U7 d L ((QJ d).map Ef) self (0,s0,(k:Int),())) (fun s i=>(0,s,i,())) p.2 UG (32*k) (fun s=>self (0,s,(k:Int)+1,())) (by omega) (fun x s=>TR _ _ _) (fun self1 s i x hx hi mem hsl=>?_) (fun self1 s hsl=>?_) s hs
 ·have hq:(Ef p)[i]? = some x.1:=by unfold Ef;rw [aP,hx];rfl
  have hi':i<(Ef p).length:=by omega
  have hnl:=Zhc L d h hL p (aS hp) x mem
  have hn:=DL L (by omega) x.1 s hnl.1 hnl.2 (by unfold Len;omega) (by omega)
  have hd:=Zhm L (by omega) d h hL k p hp i x hx
  rw [U7]
  simp only [hg,Zn]
  simp only [z9,hi',hq,hn,hd,Vt,apS (show s.length≤8000000000000 by omega),wrap_in (show -9223372036854775808≤(i:Int)+1 by omega) (by omega)]
  rw [← Nk]
  show _=bif !decide ((ZN x.1 x.2 s).1=0) then some (ZN x.1 x.2 s).1 else self1 (0,(ZN x.1 x.2 s).2,(i:Int)+1,())
  by_cases c:(ZN x.1 x.2 s).1=0
  ·rw [TS c]
  ·simp [c]
 ·rw [U7,← hlen]
  simp only [hg,Zn]
  simp only [z9,wrap_in (show -9223372036854775808≤(k:Int)+1 by omega) (by omega)]
theorem outer (L:Nat)(h1:1000≤L)(d:Za)(h:Z8 d)(hL:SizeOf.sizeOf d≤L)(E:Option Int)(hE:(bif decide ((d.Starts.length:Int)>32) then some (6:Int) else loopT (U8 d L) L (0,0,()))=E):∀(m k:Nat) (s:Seen),k≤10→10 - k<m→s.length≤32*k →
  loopT (VO d L ((QJ d).map Ef)) m (0,s,(k:Int),())=if decide ((Oh (((QJ d).drop k).map stepD) s).1≠0)=true then some (Oh (((QJ d).drop k).map stepD) s).1 else E
 |0,_,_,_,h,_=>absurd h (gz _)
 |m+1,k,s,hk,hm,hs=>by
  show VO d L ((QJ d).map Ef) (loopT (VO d L ((QJ d).map Ef)) m) (0,s,(k:Int),())=_
  have hlen:(QJ d).length=10:=rfl
  have hlm:((QJ d).map Ef).length=10:=by rw [dF,hlen]
  rcases dJ k 10 with hlt|hge
  ·have hp:=bG (show k<(QJ d).length by omega)
   generalize (QJ d)[k]=p at hp
   have hg:getT ((QJ d).map Ef) (k:Int)=some (Ef p):=by rw [Zf,aP,hp];rfl
   have hnl:(Ef p).length=p.2.length:=by simp [Ef]
   have hmost:=Zhb d k p hp
   have hdrop:(QJ d).drop k=p::(QJ d).drop (k+1):=by
    rw [jb (show k<(QJ d).length by omega)]
    congr 1
    exact ed ((bG (show k<(QJ d).length by omega)).symm.trans hp)
   have hguard:(decide ((p.2.length:Int)>32)||(decide ((k:Int)=9)&&decide ((p.2.length:Int)>16)))=decide (p.1<(p.2.length:Int)):=by
    rw [hmost]
    by_cases c:k=9
    ·subst c;simp;omega
    ·rw [if_neg c,show decide ((k:Int)=9)=false by simp only [decide_eq_false_iff_not];omega];simp
   rw [VO,hdrop,cO,Oh]
   simp only [hlm,show decide ((k:Int)<((10:Nat):Int))=true by simp only [decide_eq_true_eq];omega,cond_true,hg,Zn,hnl]
   simp only [z9,hguard]
   by_cases c:p.1<(p.2.length:Int)
   ·have e:stepD p s=(6,s):=by unfold stepD YK;rw [if_pos (by simpa using c)]
    simp [c,e]
   ·have e:stepD p s=ZZ UG p.2 s:=by unfold stepD YK;rw [if_neg (by simpa using c)]
    have hpl:p.2.length≤32:=by rw [hmost] at c;split at c<;>omega
    rw [show decide (p.1<(p.2.length:Int))=false by simpa using c,cond_false,inner L h1 d h hL k p hp hpl hlt,e]
    have hsl:(ZZ UG p.2 s).2.length≤32*(k+1):=by have:=ZgF p.2 s;omega
    have ih:=outer L h1 d h hL E hE m (k+1) (ZZ UG p.2 s).2 hlt (by omega) hsl
    by_cases z:(ZZ UG p.2 s).1=0
    ·simp only [z,ne_eq,not_true_eq_false,decide_false,aK,if_false]
     exact ih
    ·simp [z]
    exact hs
  ·have:k=10:=by omega
   subst this
   rw [VO,hlm,show (QJ d).drop 10=[] from rfl]
   simp only [z9,show decide (((10:Nat):Int)<((10:Nat):Int))=false from rfl,hE]
   simp [Oh]
theorem Zi2 (L:Nat)(h1:1000≤L)(d:Za)(h:Z8 d)(hL:SizeOf.sizeOf d≤L)(hd:(Oh ((QJ d).map stepD) []).1=0)(hl:d.Laws.length≤32):loopT (VN d L) L ([],0,())=some (ZZ (fun l:Oj=>ZN l.Name (Zgu d l)) d.Laws []).1:=by
 have hs:=Sh.of hL
 have hz:=Wh d
 rw [Zi6 (f := VN d L) (fun s i=>(s,i,())) d.Laws (fun l:Oj=>ZN l.Name (Zgu d l)) 0 (fun _=>some 0) hs.law (fun x s=>TR _ _ _) (fun self s i x hx hi mem hsl=>by
  have hm:=ZnG mem
  have e:=Zon L d h hs (by omega) hd x (h.Laws.2 x mem) (by omega) (by omega) s (by unfold Len;omega) (by omega)
  rw [VN]
  simp only [z9,hi,hx,e,apS (show s.length≤8000000000000 by omega),wrap_succ hi (by omega)]
  by_cases c:(ZN x.Name (Zgu d x) s).1=0
  ·rw [TS c]
  ·simp [c]) (fun self s hsl=>by rw [VN];simp only [z9]) [] (dI _)]
 by_cases c:(ZZ (fun l:Oj=>ZN l.Name (Zgu d l)) d.Laws []).1=0<;>simp [c]
theorem ZlR (L:Nat)(h1:1000≤L)(d:Za)(h:Z8 d)(hL:SizeOf.sizeOf d≤L):MO L (d,())=some (Oe d):=by
 have hs:=Sh.of hL
 have hz:=Wh d
 rw [Zh2,ZeS L d h hs,Zn,Zgt,Zmc]
 have o:=outer L h1 d h hL _ rfl L 0 [] (eG _) (by omega) (dI _)
 rw [iZ] at o
 rw [show ((0:Int))=((0:Nat):Int) from rfl]
 refine o.trans ?_
 unfold Zn5
 by_cases hd:(Oh ((QJ d).map stepD) []).1=0
 ·rw [if_neg (by simp [hd]),if_neg (by simp [hd])]
  have st:loopT (U8 d L) L (0,0,())=some (if decide (W9 (WQ d) d.Starts≠0)=true then W9 (WQ d) d.Starts else OC d):=by
   have hl:=h.Starts.1
   have lw:(bif decide ((d.Laws.length:Int)>32) then some (6:Int) else loopT (VN d L) L ([],0,()))=some (OC d):=by
    unfold OC YK
    by_cases c:32<(d.Laws.length:Int)
    ·simp [c]
    ·rw [Zi2 L h1 d h hL hd (by omega)];simp [c]
   refine AQ d.Starts (fun l _=>some (if decide (W9 (WQ d) l≠0)=true then W9 (WQ d) l else OC d)) hs.sta 0 (fun self n i x r hx hi mem e=>?_) (fun self n=>?_)
   ·have hm:=Ze0 (fun v:Y1=>v.Routine) (fun x=>by cases x;simp;omega) mem
    have hx2:SizeOf.sizeOf x.Args<SizeOf.sizeOf x:=by cases x;simp;omega
    have ha:=Z4 x.Args
    rw [U8]
    simp only [z9,hi,hx,Zko L d h hs x (h.Starts.2 x mem) (by omega),wrap_succ hi (by omega),e,W9]
    by_cases c:WQ d x=0<;>simp [c]
   ·rw [U8];simp only [z9,lw,W9];rfl
  rw [st]
  unfold Ez Oa
  by_cases c:32<(d.Starts.length:Int)<;>simp [c]
 ·rw [if_pos (by simp [hd]),if_pos (by simp [hd])]
abbrev bd (n:Int):Prop:=-9223372036854775808≤n∧n≤9223372036854775807
theorem Zh {β:Type}{a b:List UInt8}{k:List UInt8→Option β}(h:a.length+b.length≤4611686018427387904):bT (catS a b) k=k (a++b):=by unfold catS;rw [if_pos h];rfl
theorem Ze4 {β:Type}{a b:List UInt8}{k:List UInt8→Option β}(h:a.length+b.length≤140737488355328)(h2:0<a.length+b.length):bT (catB a b) k=k (a++b):=by
 unfold catB
 rw [if_pos ⟨h,fun e=>by have:=congrArg iM e;rw [aZ,az] at this;omega⟩];rfl
theorem ZR {n:Int}(h:bd n):Yu n=some (Lib.itoa n):=if_pos h
theorem Z9 {n:Int}(h:bd n):(Lib.itoa n).length≤21:=Lib.itoa_length_le n h.1 h.2
theorem Ah {α:Type}{b:Nat}{l m:List α}{β:Type}{k:List α→Option β}(h:(l.length+m.length)*b≤140737488355328):bT (apT b l m) k=k (l++m):=by unfold apT;rw [if_pos h];rfl
theorem ZbN {l:List (List UInt8)}{s:List UInt8}(h1:l.length≤140737488355328)(h2:(Lib.join l s).length≤140737488355328):ZbM l s=some (Lib.join l s):=if_pos ⟨h1,h2⟩
theorem loopK {τ α σ ρ:Type}{f:(τ→Option ρ)→τ→Option ρ}(l:List α)(pk:σ→Int→τ)(P:Nat→σ→Prop)(A:Option ρ)
  (h1:∀self s (i:Nat) x,P i s→l[i]? = some x→i<l.length→x∈l→(∀s',P (i+1) s'→self (pk s' ((i:Int)+1))=A)→f self (pk s i)=A)
  (h2:∀self s,P l.length s→f self (pk s (l.length:Nat))=A):∀(m i:Nat) (s:σ),P i s→i≤l.length→l.length - i<m→loopT f m (pk s i)=A
 |0,_,_,_,_,h=>absurd h (gz _)
 |m+1,i,s,hP,hi,hm=>by
  show f (loopT f m) (pk s i)=_
  rcases dJ i l.length with hlt|hge
  ·exact h1 _ s i _ hP (bG hlt) hlt (bZ hlt) fun s' hP'=>loopK l pk P A h1 h2 m (i+1) s' hP' hlt (by omega)
  ·have:i=l.length:=by omega
   subst this
   exact h2 _ s hP
theorem Gi {α σ ρ:Type}{f:(σ×Int×PUnit→Option ρ)→σ×Int×PUnit→Option ρ}(l:List α)(P:Nat→σ→Prop)(A:Option ρ){m:Nat}(hm:l.length<m)(s:σ)(hP:P 0 s)
  (h1:∀self s (i:Nat) x,P i s→l[i]? = some x→i<l.length→x∈l→(∀s',P (i+1) s'→self (s',(i:Int)+1,())=A)→f self (s,(i:Int),())=A)
  (h2:∀self s,P l.length s→f self (s,(l.length:Int),())=A):loopT f m (s,0,())=A :=
 loopK l (fun s i=>(s,i,())) P A h1 h2 m 0 s hP (eG _) (by omega)
theorem take_succ' {α:Type}{l:List α}{i:Nat}{x:α}(h:l[i]? = some x):l.take (i+1)=l.take i++[x]:=by
 rw [List.take_succ,h];rfl
theorem Rw (sep x:List UInt8):∀a:List (List UInt8),Lib.join (a++[x]) sep=if a=[] then x else Lib.join a sep++(sep++x)
 | []=>by simp [Lib.join,jr]
 | [y]=>by simp [Lib.join,jr]
 |y::z::a=>by
  have:=Rw sep x (z::a)
  rw [if_neg (by simp)] at this ⊢
  simp only [Lib.join,gB] at this ⊢
  rw [jv,jv,this]
  simp
theorem Ru (sep x y:List UInt8)(a:List (List UInt8)):Lib.join (x::y::a) sep=x++(sep++Lib.join (y::a) sep):=by
 simp [Lib.join,jv]
theorem Ziy:∀(a:List (List UInt8)) (p q:UInt8),2*a.length≤(Lib.join a [p,q]).length+2
 | [],_,_=>by simp
 | [x],_,_=>by simp [Lib.join,jr]
 |x::y::a,p,q=>by
  have:=Ziy (y::a) p q
  rw [Ru]
  simp only [dB,aZ,az] at this ⊢
  omega
theorem ZbL (sep:List UInt8):∀(a:List (List UInt8)) (i:Nat),(Lib.join (a.take i) sep).length≤(Lib.join a sep).length
 |_,0=>by simp [Lib.join,jr]
 | [],i+1=>by simp
 | [x],i+1=>by simp
 |x::y::a,1=>by rw [Ru];simp [Lib.join,jr]
 |x::y::a,i+2=>by
  have:=ZbL sep (y::a) (i+1)
  rw [iT,iT] at *
  rw [Ru,Ru]
  simp only [aZ]
  omega
theorem Dz (sep:List UInt8):∀{a:List (List UInt8)} {x:List UInt8},x∈a→x.length≤(Lib.join a sep).length
 | [y],x,h=>by simp at h;subst h;simp [Lib.join,jr]
 |y::z::a,x,h=>by
  rw [Ru]
  rcases gZ.1 h with rfl|h
  ·simp only [aZ];omega
  ·have:=Dz sep h
   simp only [aZ];omega
def sgX (o:Int):List UInt8:=if decide (o=19)=true then [111,114] else if decide (o=18)=true then [97,110,100] else if decide (o=14)=true then [61] else if decide (o=15)=true then [33,61] else if decide (o=16)=true then [60] else if decide (o=17)=true then [60,61] else if decide (o=9)=true then [43] else if decide (o=10)=true then [45] else if decide (o=11)=true then [42] else if decide (o=12)=true then [47] else if decide (o=13)=true then [37] else []
def lvX (o:Int):Int:=if decide (o=19)=true then 1 else if decide (o=18)=true then 2 else if decide (o=6)=true then 3 else if decide (o=14)=true then 4 else if decide (o=15)=true then 4 else if decide (o=16)=true then 4 else if decide (o=17)=true then 4 else if decide (o=9)=true then 5 else if decide (o=10)=true then 5 else if decide (o=11)=true then 6 else if decide (o=12)=true then 6 else if decide (o=13)=true then 6 else if decide (o=5)=true then 7 else 8
def ZnB (l least:Int)(s:List UInt8):List UInt8:=if l<least then 40::(s++[41]) else s
def Fb (least:Int)(k:Int×List UInt8):List UInt8:=ZnB k.1 least k.2
def GK (w:List UInt8)(ts:List (List UInt8)):List UInt8:=w++40::(Lib.join ts [44,32]++[41])
def k0 (ks:List (Int×List UInt8)):Int×List UInt8:=ks.getD 0 (0,[])
def k1 (ks:List (Int×List UInt8)):Int×List UInt8:=ks.getD 1 (0,[])
def JW (o:Int)(nm:List UInt8)(n:Int)(ks:List (Int×List UInt8)):List UInt8 :=
 if o=1 then (if n<0 then 40::(Lib.itoa n++[41]) else Lib.itoa n)
 else if o=2 then (if n=1 then [116,114,117,101] else [102,97,108,115,101])
 else if o=3 then nm
 else if o=4 then [110,111,119]
 else if o=7 then GK [100,117,114] (ks.map (·.2))
 else if o=8 then GK [116,105,99,107,115] (ks.map (·.2))
 else if o=20 then GK [109,105,110] (ks.map (·.2))
 else if o=21 then GK [109,97,120] (ks.map (·.2))
 else if o=22 then [102,114,101,101,40]++(nm++[41])
 else if o=23 then [115,105,122,101,40]++(nm++[41])
 else if o=24 then [119,97,105,116,105,110,103,40]++(nm++[41])
 else if o=6 then [110,111,116,32]++Fb 3 (k0 ks)
 else if o=5 then 45::Fb 7 (k0 ks)
 else Fb (if lvX o=4 then 5 else lvX o) (k0 ks)++32::(sgX o++32::Fb (lvX o+1) (k1 ks))
mutual
def txX:Zt→List UInt8
 |⟨o,a,n,ks⟩=>JW o a n (Zjq ks)
def Zjq:List Zt→List (Int×List UInt8)
 | []=>[]
 |e::l=>(lvX e.Op,txX e)::Zjq l
end
theorem ZfV:∀l:List Zt,Zjq l=l.map fun e=>(lvX e.Op,txX e)
 | []=>by rw [Zjq];rfl
 |e::l=>by rw [Zjq,ZfV l];rfl
theorem JJ (e:Zt):txX e=JW e.Op e.Name e.N (e.Kids.map fun e=>(lvX e.Op,txX e)):=by cases e;rw [txX,ZfV]
theorem Az {e:Zt}(h:WF false e=0):DI false e=0∧∀x∈e.Kids,WF false x=0:=by
 rw [AY] at h
 by_cases c:DI false e=0
 ·rw [if_neg (by simp [c])] at h
  refine ⟨c,?_⟩
  generalize e.Kids=l at h
  induction l with
  |nil=>intro x hx;cases hx
  |cons y l ih =>
   rw [W9] at h
   by_cases c2:WF false y=0
   ·rw [if_neg (by simp [c2])] at h
    intro x hx
    rcases gZ.1 hx with rfl|hx
    ·exact c2
    ·exact ih h x hx
   ·rw [if_pos (by simp [c2])] at h;exact absurd h c2
 ·rw [if_pos (by simp [c])] at h;exact absurd h c
theorem Zbb {e:Zt}(h:DI false e=0):1≤e.Op∧e.Op≤24∧(e.Kids.length:Int)=Rx e.Op∧(e.Op=2→e.N=0∨e.N=1):=by
 unfold DI at h
 split at h
 ·cases h
 rename_i h1
 simp only [aJ,fH,decide_eq_true_eq,not_or,jf,ne_eq,Decidable.not_not] at h1
 obtain ⟨⟨k1,k2⟩,k3⟩:=h1
 have hr:1≤e.Op∧e.Op≤24:=by
  unfold AO Rx at k1
  simp only [ja] at k1
  by_cases c1:e.Op=25
  ·simp [c1] at k1
  by_cases c2:e.Op=26
  ·simp [c2] at k1
  repeat' split at k1
  all_goals simp_all
  all_goals omega
 refine ⟨hr.1,hr.2,k2,fun e2=>?_⟩
 rw [e2] at h
 simp only [Zj4,decide_true,if_true,fF,jg,Bool.true_and] at h
 by_cases c:e.N=0∨e.N=1
 ·exact c
 ·rw [if_neg (by decide),if_neg (by decide),if_pos (by simp only [aJ,decide_eq_true_eq];omega)] at h
  cases h
def lv0 (o:Int):Int:=if decide (o=19)=true then 1 else if decide (o=18)=true then 2 else if decide (o=14)=true then 4 else if decide (o=15)=true then 4 else if decide (o=16)=true then 4 else if decide (o=17)=true then 4 else if decide (o=9)=true then 5 else if decide (o=10)=true then 5 else if decide (o=11)=true then 6 else if decide (o=12)=true then 6 else if decide (o=13)=true then 6 else 8
theorem Zg4 (L:Nat)(e:Zt):UO L (e,())=some (lvX e.Op):=by
 rw [Zfz];simp only [z9];simp only [Y4,XI,if_true,if_false,aK,ne_eq,decide_not,gt_iff_lt,ge_iff_le];rfl
theorem ZlQ (L:Nat)(o:Int):G5 L (o,())=some (sgX o):=by
 rw [Zh7];simp only [z9];simp only [Y4,XI,if_true,if_false,aK,ne_eq,decide_not,gt_iff_lt,ge_iff_le];rfl
theorem ZkQ (L:Nat)(o:Int):∃b,Q5 L (o,())=some (sgX o,lv0 o,b,()):=by
 rw [Ei]
 unfold sgX lv0
 simp only [ZQ]
 by_cases c19:o=19
 ·exact ⟨true,by simp [c19]⟩
 by_cases c18:o=18
 ·exact ⟨true,by simp [c18]⟩
 by_cases c14:o=14
 ·exact ⟨true,by simp [c14]⟩
 by_cases c15:o=15
 ·exact ⟨true,by simp [c15]⟩
 by_cases c16:o=16
 ·exact ⟨true,by simp [c16]⟩
 by_cases c17:o=17
 ·exact ⟨true,by simp [c17]⟩
 by_cases c9:o=9
 ·exact ⟨true,by simp [c9]⟩
 by_cases c10:o=10
 ·exact ⟨true,by simp [c10]⟩
 by_cases c11:o=11
 ·exact ⟨true,by simp [c11]⟩
 by_cases c12:o=12
 ·exact ⟨true,by simp [c12]⟩
 by_cases c13:o=13
 ·exact ⟨true,by simp [c13]⟩
 exact ⟨false,by simp [c19,c18,c14,c15,c16,c17,c9,c10,c11,c12,c13]⟩
theorem ZkL {o:Int}(h5:o≠5)(h6:o≠6):lv0 o=lvX o:=by
 unfold lv0 lvX
 rw [if_neg (c := decide (o=6)=true) (by simp [h6]),if_neg (c := decide (o=5)=true) (by simp [h5])]
theorem ZlH (L:Nat)(e:Zt):Uh L (e,())=some (lvX e.Op):=by
 rw [Zck]
 obtain ⟨b,hb⟩:=ZkQ L e.Op
 by_cases c6:e.Op=6
 ·simp [c6,lvX]
 by_cases c5:e.Op=5
 ·simp [c5,lvX]
 rw [show (e.1==6)=false by simpa using c6,show (e.1==5)=false by simpa using c5,cond_false,cond_false,hb,Zn]
 exact congrArg some (ZkL c5 c6)
theorem Zkg {L m:Nat}{e:Zt}(least:Int)(h:YJ L m (e,())=some (txX e))(hb:(txX e).length≤2199023255552):YM L (m+1) (e,least,())=some (Fb least (lvX e.Op,txX e)):=by
 rw [F5,ZlH,Zn,h]
 unfold Fb ZnB
 simp only [Zn]
 by_cases c:lvX e.Op<least
 ·rw [show decide (lvX e.Op<least)=true by simpa using c,cond_true,if_pos c]
  (simp (disch := (((try simp only [aZ,dB,az] at *);omega))) only [Zh,Zn]);rfl
 ·rw [show decide (lvX e.Op<least)=false by simpa using c,cond_false,if_neg c]
theorem Zg5 {L m:Nat}{e:Zt}(least:Int)(h:YU L m (e,())=some (txX e))(hb:(txX e).length≤2199023255552):WB L (m+1) (e,least,())=some (Fb least (lvX e.Op,txX e)):=by
 rw [Zcq,Zg4,Zn,h]
 unfold Fb ZnB
 simp only [Zn]
 by_cases c:lvX e.Op<least
 ·rw [show decide (lvX e.Op<least)=true by simpa using c,cond_true,if_pos c]
  (simp (disch := (((try simp only [aZ,dB,az] at *);omega))) only [Zh,Zn]);rfl
 ·rw [show decide (lvX e.Op<least)=false by simpa using c,cond_false,if_neg c]
theorem Xv (least:Int)(k:Int×List UInt8):k.2.length≤(Fb least k).length∧(Fb least k).length≤k.2.length+2:=by
 unfold Fb ZnB;split<;>simp<;>omega
theorem ZiI {L:Nat}{ρ:Type}{f:(List (List UInt8)×Int×PUnit→Option ρ)→List (List UInt8)×Int×PUnit→Option ρ}(g:Zt→Option (List UInt8))(k:List UInt8→Option ρ)(l:List Zt)
  (h0:∀x∈l,g x=some (txX x)) (hL:l.length<L) (hb:(Lib.join (l.map txX) [44,32]).length≤2199023255552)
  (hf:∀self acc,f self acc=bif decide (acc.2.1<(l.length:Int)) then bT (getT l acc.2.1) fun y=>bT (g y) fun y=>bT (apT 16 acc.1 [y]) fun y=>self (y,IntKind.i64.wrap (acc.2.1+1),()) else bT (ZbM acc.1 [44,32]) k) :
  loopT f L ([],0,())=k (Lib.join (l.map txX) [44,32]):=by
 have hn:=Ziy (l.map txX) 44 32
 rw [dF] at hn
 refine Gi l (fun i s=>s=(l.take i).map txX) _ hL [] rfl (fun self s i x hP hx hi mem e'=>?_) (fun self s hP=>?_)
 ·subst hP
  rw [hf]
  simp only [Zg hi,cond_true,Zf,hx,Zn,h0 x mem,wrap_succ hi (by omega)]
  rw [Ah (by simp only [dF,bU,dB,az];omega)]
  exact e' _ (by rw [take_succ' hx];simp)
 ·rw [jl] at hP
  subst hP
  rw [hf]
  simp only [Zd,cond_false]
  rw [ZbN (by simp only [dF];omega) (by omega),Zn]
theorem Zki {L:Nat}{f:(List UInt8×Int×PUnit→Option (List UInt8))→List UInt8×Int×PUnit→Option (List UInt8)}(g:Zt→Option (List UInt8))(l:List Zt)
  (h0:∀x∈l,g x=some (txX x)) (hL:l.length<L) (hb:(Lib.join (l.map txX) [44,32]).length≤2199023255552)
  (hf:∀self acc,f self acc=bif decide (acc.2.1<(l.length:Int)) then bif decide (acc.2.1>0) then bT (catS acc.1 [44,32]) fun y=>bT (getT l acc.2.1) fun y_1=>bT (g y_1) fun y_2=>bT (catS y y_2) fun y=>self (y,IntKind.i64.wrap (acc.2.1+1),()) else bT (getT l acc.2.1) fun y=>bT (g y) fun y=>bT (catS acc.1 y) fun y=>self (y,IntKind.i64.wrap (acc.2.1+1),()) else bT (catS [40] acc.1) fun y=>bT (catS y [41]) fun y=>some y) :
  loopT f L ([],0,())=some (40::(Lib.join (l.map txX) [44,32]++[41])):=by
 have hn:=Ziy (l.map txX) 44 32
 rw [dF] at hn
 refine Gi l (fun i s=>s=Lib.join ((l.map txX).take i) [44,32]) _ hL [] rfl (fun self s i x hP hx hi mem e'=>?_) (fun self s hP=>?_)
 ·subst hP
  have b1:=ZbL [44,32] (l.map txX) i
  have b2:=Dz [44,32] (iQ (f := txX) mem)
  rw [hf]
  have hx':(l.map txX)[i]? = some (txX x):=by rw [aP,hx];rfl
  have hs:=take_succ' hx'
  by_cases c:i=0
  ·subst c
   simp only [show decide (((0:Nat):Int)<(l.length:Int))=true from Zg hi,cond_true,show decide (((0:Nat):Int)>0)=false from rfl,cond_false,Zf,hx,Zn,h0 x mem,wrap_succ hi (by omega)]
   rw [Zh (by simp [Lib.join,jr];omega)]
   refine e' _ ?_
   rw [hs,Rw,if_pos (by simp)]
   simp [Lib.join,jr]
  ·simp only [Zg hi,cond_true,show decide ((i:Int)>0)=true by simp;omega,Zf,hx,Zn,h0 x mem,wrap_succ hi (by omega)]
   rw [Zh (by simp only [dB,az];omega),Zh (by simp only [aZ,dB,az];omega)]
   refine e' _ ?_
   rw [hs,Rw,if_neg (by
    intro e
    have:=congrArg iM e
    rw [bU,dF] at this
    simp only [az] at this
    omega)]
   simp
 ·have e:(l.map txX).take l.length=l.map txX:=by rw [← dF (f := txX),jl]
  rw [e] at hP
  subst hP
  rw [hf]
  simp only [Zd,cond_false]
  (simp (disch := (((try simp only [aZ,dB,az] at *);omega))) only [Zh,Zn])
  simp
theorem ZoD {l:List Zt}(h:(l.length:Int)=1):∃a,l=[a]:=by
 match l,h with
 | [a],_=>exact ⟨a,rfl⟩
 | [],h=>simp at h
 |_::_::_,h=>simp only [dB] at h;omega
theorem ZoE {l:List Zt}(h:(l.length:Int)=2):∃a b,l=[a,b]:=by
 match l,h with
 | [a,b],_=>exact ⟨a,b,rfl⟩
 | [],h=>simp at h
 | [_],h=>simp at h
 |_::_::_::_,h=>simp only [dB] at h;omega
theorem ZoT {l:List Zt}(h:(l.length:Int)=0):l=[]:=bg (by omega)
inductive Zb4:Zt→Prop
 |int (a n ks):Zb4 ⟨1,a,n,ks⟩
 |bool (a n ks) (h:n=0∨n=1):Zb4 ⟨2,a,n,ks⟩
 |name (a n ks):Zb4 ⟨3,a,n,ks⟩
 |now (a n ks):Zb4 ⟨4,a,n,ks⟩
 |call (o a n x ks) (h:o=7∨o=8∨o=20∨o=21):Zb4 ⟨o,a,n,x::ks⟩
 |obj (o a n) (h:o=22∨o=23∨o=24):Zb4 ⟨o,a,n,[]⟩
 |un (o a n x) (h:o=5∨o=6):Zb4 ⟨o,a,n,[x]⟩
 |bi (o a n x y) (h:9≤o∧o≤19):Zb4 ⟨o,a,n,[x,y]⟩
theorem Zn4 {e:Zt}(h:DI false e=0):Zb4 e:=by
 obtain ⟨h1,h2,h3,h4⟩:=Zbb h
 obtain ⟨o,a,n,ks⟩:=e
 simp only at h1 h2 h3 h4
 have cs:o=1∨o=2∨o=3∨o=4∨(o=7∨o=8)∨(o=20∨o=21)∨(o=22∨o=23∨o=24)∨(o=5∨o=6)∨(9≤o∧o≤19):=by omega
 rcases cs with rfl|rfl|rfl|rfl|c|c|c|c|c
 ·exact .int ..
 ·exact .bool _ _ _ (h4 rfl)
 ·exact .name ..
 ·exact .now ..
 ·have:Rx o=1:=by rcases c with rfl|rfl<;>rfl
  rw [this] at h3
  obtain ⟨x,rfl⟩:=ZoD h3
  exact .call _ _ _ _ _ (by omega)
 ·have:Rx o=2:=by rcases c with rfl|rfl<;>rfl
  rw [this] at h3
  obtain ⟨x,y,rfl⟩:=ZoE h3
  exact .call _ _ _ _ _ (by omega)
 ·have:Rx o=0:=by rcases c with rfl|rfl|rfl<;>rfl
  rw [this] at h3
  obtain rfl:=ZoT h3
  exact .obj _ _ _ c
 ·have:Rx o=1:=by rcases c with rfl|rfl<;>rfl
  rw [this] at h3
  obtain ⟨x,rfl⟩:=ZoD h3
  exact .un _ _ _ _ c
 ·have:Rx o=2:=by
   unfold Rx
   rw [if_neg (by simp;omega),if_neg (by simp;omega),if_pos (by simp;omega)]
  rw [this] at h3
  obtain ⟨x,y,rfl⟩:=ZoE h3
  exact .bi _ _ _ _ _ c
theorem ZjT (l:List Zt):(Zjq l).map (·.2)=l.map txX:=by rw [ZfV,iO];rfl
theorem OE (l:List Zt):(l.map fun e=>(lvX e.Op,txX e)).map (·.2)=l.map txX:=by rw [iO];rfl
theorem Zmx {o:Int}(h:9≤o∧o≤19):o≠1∧o≠2∧o≠3∧o≠4∧o≠7∧o≠8∧o≠20∧o≠21∧o≠22∧o≠23∧o≠24∧o≠6∧o≠5:=by omega
theorem ZmH {o:Int}(h:9≤o∧o≤19):1≤lvX o∧lvX o≤6∧lvX o≠3:=by
 have:o=9∨o=10∨o=11∨o=12∨o=13∨o=14∨o=15∨o=16∨o=17∨o=18∨o=19:=by omega
 rcases this with rfl|rfl|rfl|rfl|rfl|rfl|rfl|rfl|rfl|rfl|rfl<;>decide
theorem Zjh (o:Int):(sgX o).length≤3:=by
 unfold sgX
 repeat' split
 all_goals simp
theorem Zi7 {o:Int}(h:9≤o∧o≤19)(a:List UInt8)(n:Int)(p q:Int×List UInt8):JW o a n [p,q]=Fb (if lvX o=4 then 5 else lvX o) p++32::(sgX o++32::Fb (lvX o+1) q):=by
 obtain ⟨h1,h2,h3,h4,h7,h8,h20,h21,h22,h23,h24,h6,h5⟩:=Zmx h
 unfold JW
 simp only [h1,h2,h3,h4,h7,h8,h20,h21,h22,h23,h24,h6,h5,if_false]
 rfl
theorem Zjz {o:Int}(h:1≤lvX o∧lvX o≤6):IntKind.i64.wrap (lvX o+1)=lvX o+1:=ZaH (by omega) (by omega)
theorem ZmO {L m:Nat}(w:List UInt8)(hw:w.length≤100)(o:Int)(a:List UInt8)(n:Int)(x:Zt)(ks:List Zt)(h0:∀y∈x::ks,YJ L m (y,())=some (txX y))(hL:(x::ks).length<L)(hb:(GK w ((x::ks).map txX)).length≤2199023255552) :
  Wy L (m+1) (w,⟨o,a,n,x::ks⟩,())=some (GK w ((x::ks).map txX)):=by
 unfold GK at hb ⊢
 simp only [aZ,dB,az] at hb
 rw [NS,show ((((x::ks:List Zt).length:Nat):Int)==0)=false by simp;omega,cond_false]
 rw [ZiI (fun y=>YJ L m (y,())) (fun y=>some y) (x::ks) h0 hL (by omega) (fun self acc=>by rw [DV])]
 simp only [Zn]
 (simp (disch := (((try simp only [aZ,dB,az] at *);omega))) only [Zh,Zn])
 simp
theorem ZiN {L m:Nat}(l:List Zt)(h0:∀y∈l,YU L m (y,())=some (txX y))(hL:l.length<L)(hb:(Lib.join (l.map txX) [44,32]).length≤2199023255552) :
  XV L (m+1) (l,())=some (40::(Lib.join (l.map txX) [44,32]++[41])):=by
 rw [Zh6]
 exact Zki (fun y=>YU L m (y,())) l h0 hL hb fun self acc=>by rw [F7]
theorem ZeG {ks:List Zt}{x:Zt}(h:x∈ks):(txX x).length≤(Lib.join (ks.map txX) [44,32]).length:=Dz _ (iQ h)
theorem ZiV (L:Nat):∀(m:Nat) (e:Zt),Yi e→WF false e=0→(txX e).length≤2199023255552→2*SizeOf.sizeOf e≤m→m≤L→YJ L m (e,())=some (txX e)
 |0,e,_,_,_,h,_=>absurd h (by have:=IU e;omega)
 |1,e,_,_,_,h,_=>absurd h (by have:=IU e;omega)
 |m+2,e,ok,hg,hb,hs,hm=>by
  obtain ⟨h1,hk⟩:=Az hg
  have ih:∀x∈e.Kids,(txX x).length≤2199023255552→YJ L m (x,())=some (txX x):=fun x hx hb' =>
   ZiV L m x (ok.Kids.2 x hx) (hk x hx) hb' (by have:=LD hx;omega) (by omega)
  have hks:=Z4 e.Kids;have hz:=Zj9 e
  rw [ZdK]
  cases Zn4 h1 with
  |int a n ks =>
   have hN:=ok.N
   have hl:=Z9 hN
   simp only [ji,cond_true,cond_false,ZR hN,Zn,txX,JW,if_true,BEq.rfl]
   by_cases c:n<0
   ·rw [show decide (n<0)=true by simpa using c,cond_true,if_pos c]
    simp only at hl
    (simp (disch := (((try simp only [aZ,dB,az] at *);omega))) only [Zh,Zn]);rfl
   ·rw [show decide (n<0)=false by simpa using c,cond_false,if_neg c]
  |bool a n ks h =>
   simp only [DY,txX,JW]
   rcases h with rfl|rfl<;>rfl
  |name a n ks=>rfl
  |now a n ks=>rfl
  |call o a n x ks h =>
   have hb2:(GK [] ((x::ks).map txX)).length≤(txX ⟨o,a,n,x::ks⟩).length:=by
    rw [JJ]
    rcases h with rfl|rfl|rfl|rfl<;>simp [JW,GK,Function.comp_def]
   have ih':∀y∈x::ks,YJ L m (y,())=some (txX y):=fun y hy=>ih y hy (by
    have:=ZeG hy
    simp only [GK,bn,aZ,dB] at hb2
    simp only [cO] at this hb2
    omega)
   have hL:(x::ks).length<L:=by simp only at hks hz;omega
   rcases h with rfl|rfl|rfl|rfl
   all_goals
    simp only [ji,cond_true,cond_false]
    rw [JJ] at hb ⊢
    simp only [JW,OE,jh,if_true,if_false] at hb ⊢
    rw [ZmO _ (by simp) _ _ _ _ _ ih' hL hb];rfl
  |obj o a n h =>
   have hN:=ok.nl
   rcases h with rfl|rfl|rfl
   all_goals
    rw [JJ] at hb ⊢
    simp only [JW,jh,if_true,if_false,ji,cond_true,cond_false] at hb ⊢
    rw [NS]
    simp only [az,show (((0:Nat):Int)==0)=true from rfl,cond_true]
    simp only [aZ,dB,az] at hb
    (simp (disch := (((try simp only [aZ,dB,az] at *);omega))) only [Zh,Zn])
    simp
  |un o a n x h =>
   have hb2:(txX x).length≤(txX ⟨o,a,n,[x]⟩).length:=by
    rw [JJ ⟨o,a,n,[x]⟩]
    have l1:=(Xv 3 (lvX x.Op,txX x)).1;have l2:=(Xv 7 (lvX x.Op,txX x)).1
    simp only at l1 l2
    rcases h with rfl|rfl<;>simp [JW,k0]<;>omega
   have ihx:=ih x (by simp) (by omega)
   have e3:=Zkg 3 ihx (by omega);have e7:=Zkg 7 ihx (by omega)
   have l1:=(Xv 3 (lvX x.Op,txX x)).2;have l2:=(Xv 7 (lvX x.Op,txX x)).2
   simp only at l1 l2
   rcases h with rfl|rfl
   all_goals
    rw [JJ]
    simp only [JW,jh,if_true,if_false,ji,cond_true,cond_false,Aw,aY,Zn,e3,e7]
    (simp (disch := (((try simp only [aZ,dB,az] at *);omega))) only [Zh,Zn])
    simp [k0]
  |bi o a n x y h =>
   obtain ⟨h1',h2,h3,h4,h7,h8,h20,h21,h22,h23,h24,h6,h5⟩:=Zmx h
   obtain ⟨v1,v2,v3⟩:=ZmH h
   obtain ⟨b,hop⟩:=ZkQ L o
   rw [ZkL h5 h6] at hop
   have et:txX ⟨o,a,n,[x,y]⟩=Fb (if lvX o=4 then 5 else lvX o) (lvX x.Op,txX x)++32::(sgX o++32::Fb (lvX o+1) (lvX y.Op,txX y)):=by
    rw [JJ];exact Zi7 h a n _ _
   rw [et] at hb ⊢
   have l1:=(Xv (if lvX o=4 then 5 else lvX o) (lvX x.Op,txX x)).1;have l2:=(Xv (lvX o+1) (lvX y.Op,txX y)).1
   have l3:=Zjh o
   simp only [aZ,dB] at hb l1 l2
   have ex:=Zkg (if lvX o=4 then 5 else lvX o) (ih x (by simp) (by omega)) (by omega)
   have ey:=Zkg (lvX o+1) (ih y (by simp) (by omega)) (by omega)
   simp only [ZQ,h1',h2,h3,h4,h7,h8,h20,h21,h22,h23,h24,h6,h5,decide_false,cond_false,hop,Zn,Zjz ⟨v1,v2⟩,Aw,ZkH,aY,ak]
   by_cases c:lvX o=4
   ·simp only [c,if_true] at ex hb ⊢
    simp only [c] at ey
    rw [show (5:Int)=4+1 from rfl] at ex
    simp only [decide_true,cond_true,ex,ey,Zn,show ((5:Int)=4+1)=True from by simp]
    rw [show (5:Int)=4+1 from rfl] at hb ⊢
    (simp (disch := (((try simp only [aZ,dB,az] at *);omega))) only [Zh,Zn])
    simp
   ·simp only [c,if_false] at ex hb ⊢
    simp only [decide_false,cond_false,ex,ey,Zn]
    (simp (disch := (((try simp only [aZ,dB,az] at *);omega))) only [Zh,Zn])
    simp
theorem Eu (L:Nat):∀(m:Nat) (e:Zt),Yi e→WF false e=0→(txX e).length≤2199023255552→3*SizeOf.sizeOf e≤m→m≤L→YU L m (e,())=some (txX e)
 |0,e,_,_,_,h,_=>absurd h (by have:=IU e;omega)
 |1,e,_,_,_,h,_=>absurd h (by have:=IU e;omega)
 |2,e,_,_,_,h,_=>absurd h (by have:=IU e;omega)
 |m+3,e,ok,hg,hb,hs,hm=>by
  obtain ⟨h1,hk⟩:=Az hg
  have ih:∀x∈e.Kids,(txX x).length≤2199023255552→YU L m (x,())=some (txX x):=fun x hx hb' =>
   Eu L m x (ok.Kids.2 x hx) (hk x hx) hb' (by have:=LD hx;omega) (by omega)
  have ih1:∀x∈e.Kids,(txX x).length≤2199023255552→YU L (m+1) (x,())=some (txX x):=fun x hx hb' =>
   Eu L (m+1) x (ok.Kids.2 x hx) (hk x hx) hb' (by have:=LD hx;omega) (by omega)
  have hks:=Z4 e.Kids;have hz:=Zj9 e
  rw [Zh4,Zg4,Zn]
  cases Zn4 h1 with
  |int a n ks =>
   have hN:=ok.N
   have hl:=Z9 hN
   rw [show ((lvX (1:Int))==8)=true from rfl,cond_true,Xj]
   simp only [ji,cond_true,cond_false,ZR hN,Zn,txX,JW,if_true,BEq.rfl]
   by_cases c:n<0
   ·rw [show decide (n<0)=true by simpa using c,cond_true,if_pos c]
    simp only at hl
    (simp (disch := (((try simp only [aZ,dB,az] at *);omega))) only [Zh,Zn]);rfl
   ·rw [show decide (n<0)=false by simpa using c,cond_false,if_neg c];rfl
  |bool a n ks h =>
   rw [show ((lvX (2:Int))==8)=true from rfl,cond_true,Xj]
   simp only [ji,cond_true,cond_false,txX,JW,Ze]
   rcases h with rfl|rfl<;>rfl
  |name a n ks=>rw [show ((lvX (3:Int))==8)=true from rfl,cond_true,Xj];rfl
  |now a n ks=>rw [show ((lvX (4:Int))==8)=true from rfl,cond_true,Xj];rfl
  |call o a n x ks h =>
   have hb2:(GK [] ((x::ks).map txX)).length≤(txX ⟨o,a,n,x::ks⟩).length:=by
    rw [JJ]
    rcases h with rfl|rfl|rfl|rfl<;>simp [JW,GK,Function.comp_def]
   have ih':∀y∈x::ks,YU L m (y,())=some (txX y):=fun y hy=>ih y hy (by
    have:=ZeG hy
    simp only [GK,bn,aZ,dB] at hb2
    simp only [cO] at this hb2
    omega)
   have hL:(x::ks).length<L:=by simp only at hks hz;omega
   simp only [GK,bn,aZ,dB,az] at hb2
   have hl:=ZiN (x::ks) ih' hL (by omega)
   rcases h with rfl|rfl|rfl|rfl
   ·rw [show ((lvX (7:Int))==8)=true from rfl,cond_true,Xj,JJ]
    simp only [ji,cond_true,cond_false,JW,OE,jh,if_true,if_false,GK,hl,Zn]
    (simp (disch := (((try simp only [aZ,dB,az] at *);omega))) only [Zh,Zn])
   ·rw [show ((lvX (8:Int))==8)=true from rfl,cond_true,Xj,JJ]
    simp only [ji,cond_true,cond_false,JW,OE,jh,if_true,if_false,GK,hl,Zn]
    (simp (disch := (((try simp only [aZ,dB,az] at *);omega))) only [Zh,Zn])
   ·rw [show ((lvX (20:Int))==8)=true from rfl,cond_true,Xj,JJ]
    simp only [ji,cond_true,cond_false,JW,OE,jh,if_true,if_false,GK,hl,Zn]
    (simp (disch := (((try simp only [aZ,dB,az] at *);omega))) only [Zh,Zn])
   ·rw [show ((lvX (21:Int))==8)=true from rfl,cond_true,Xj,JJ]
    simp only [ji,cond_true,cond_false,JW,OE,jh,if_true,if_false,GK,hl,Zn]
    (simp (disch := (((try simp only [aZ,dB,az] at *);omega))) only [Zh,Zn])
  |obj o a n h =>
   have hN:=ok.nl
   have e8:(lvX o==8)=true:=by rcases h with rfl|rfl|rfl<;>rfl
   simp only [e8,cond_true,Xj]
   rcases h with rfl|rfl|rfl
   all_goals
    rw [JJ] at hb ⊢
    simp only [JW,jh,if_true,if_false,ji,cond_true,cond_false] at hb ⊢
    simp only [aZ,dB,az] at hb
    (simp (disch := (((try simp only [aZ,dB,az] at *);omega))) only [Zh,Zn])
    simp
  |un o a n x h =>
   have hb2:(txX x).length≤(txX ⟨o,a,n,[x]⟩).length:=by
    rw [JJ ⟨o,a,n,[x]⟩]
    have l1:=(Xv 3 (lvX x.Op,txX x)).1;have l2:=(Xv 7 (lvX x.Op,txX x)).1
    simp only at l1 l2
    rcases h with rfl|rfl<;>simp [JW,k0]<;>omega
   have ihx:=ih1 x (by simp) (by omega)
   have e3:=Zg5 3 ihx (by omega);have e7:=Zg5 7 ihx (by omega)
   have l1:=(Xv 3 (lvX x.Op,txX x)).2;have l2:=(Xv 7 (lvX x.Op,txX x)).2
   simp only at l1 l2
   rcases h with rfl|rfl
   ·simp only [show (lvX (5:Int)==8)=false from rfl,show (lvX (5:Int)==7)=true from rfl,cond_true,cond_false]
    rw [JJ]
    simp only [JW,jh,if_true,if_false,ji,cond_true,cond_false,Aw,aY,Zn,e3,e7]
    (simp (disch := (((try simp only [aZ,dB,az] at *);omega))) only [Zh,Zn])
    simp [k0]
   ·simp only [show (lvX (6:Int)==8)=false from rfl,show (lvX (6:Int)==7)=false from rfl,show (lvX (6:Int)==3)=true from rfl,cond_true,cond_false]
    rw [JJ]
    simp only [JW,jh,if_true,if_false,ji,cond_true,cond_false,Aw,aY,Zn,e3,e7]
    (simp (disch := (((try simp only [aZ,dB,az] at *);omega))) only [Zh,Zn])
    simp [k0]
  |bi o a n x y h =>
   obtain ⟨v1,v2,v3⟩:=ZmH h
   have et:txX ⟨o,a,n,[x,y]⟩=Fb (if lvX o=4 then 5 else lvX o) (lvX x.Op,txX x)++32::(sgX o++32::Fb (lvX o+1) (lvX y.Op,txX y)):=by
    rw [JJ];exact Zi7 h a n _ _
   rw [et] at hb ⊢
   have l1:=(Xv (if lvX o=4 then 5 else lvX o) (lvX x.Op,txX x)).1;have l2:=(Xv (lvX o+1) (lvX y.Op,txX y)).1
   have l3:=Zjh o
   simp only [aZ,dB] at hb l1 l2
   have ex:=Zg5 (if lvX o=4 then 5 else lvX o) (ih1 x (by simp) (by omega)) (by omega)
   have ey:=Zg5 (lvX o+1) (ih1 y (by simp) (by omega)) (by omega)
   simp only [ZQ,show ¬lvX o=8 by omega,show ¬lvX o=7 by omega,v3,decide_false,cond_false,ZlQ,Zn,Zjz ⟨v1,v2⟩,Aw,ZkH,aY,ak]
   by_cases c:lvX o=4
   ·simp only [c,if_true] at ex hb ⊢
    simp only [c] at ey
    rw [show (4:Int)+1=5 from rfl] at ey hb ⊢
    simp only [decide_true,cond_true,ex,ey,Zn]
    (simp (disch := (((try simp only [aZ,dB,az] at *);omega))) only [Zh,Zn])
    simp
   ·simp only [c,if_false] at ex hb ⊢
    simp only [decide_false,cond_false,ex,ey,Zn]
    (simp (disch := (((try simp only [aZ,dB,az] at *);omega))) only [Zh,Zn])
    simp
theorem Zg6 (L:Nat)(e:Zt)(ok:Yi e)(hg:WF false e=0)(hb:(txX e).length≤2199023255552)(h:3*SizeOf.sizeOf e≤L):ZP L (e,())=some (txX e):=ZiV L L e ok hg hb (by omega) (dI _)
theorem ZeY (L:Nat)(e:Zt)(ok:Yi e)(hg:WF false e=0)(hb:(txX e).length≤2199023255552)(h:3*SizeOf.sizeOf e≤L):QG L (e,())=some (txX e):=Eu L L e ok hg hb h (dI _)
theorem Rq {e:Zt}(h:WX false e=0):WF false e=0:=by
 unfold WX at h
 split at h
 ·cases h
 split at h
 ·cases h
 exact h
def nsX:List Int→List UInt8
 | []=>[]
 |n::l=>32::(Lib.itoa n++nsX l)
def tbX:List Int→List Int→List UInt8
 |v::vs,w::ws=>32::(Lib.itoa v++58::(Lib.itoa w++tbX vs ws))
 |_,_=>[]
def dtX (d:Yo):List UInt8 :=
 if d.Op=1 then [99,111,110,115,116]++nsX [d.A]
 else if d.Op=2 then [117,110,105,102,111,114,109]++nsX [d.A,d.B]
 else if d.Op=4 then [115,117,109]++nsX [d.N,d.A,d.B]
 else if d.Op=5 then [103,101,111,109]++nsX [d.A,d.B]
 else [116,97,98,108,101]++tbX d.Values d.Weights
theorem ZeM:∀(l:List Int),(∀n∈l,bd n)→(nsX l).length≤22*l.length
 | [],_=>by simp [nsX]
 |n::l,h=>by
  have h1:=Z9 (h n (by simp));have h2:=ZeM l fun x hx=>h x (ai _ hx)
  simp only [nsX,dB,aZ];omega
theorem Zi9:∀l m:List Int,nsX (l++m)=nsX l++nsX m
 | [],m=>rfl
 |n::l,m=>by rw [gB,nsX,nsX,Zi9 l m];simp
theorem CS:∀(l m:List Int),(∀n∈l,bd n)→(∀n∈m,bd n)→(tbX l m).length≤44*l.length
 | [],_,_,_=>by simp [tbX]
 |v::vs,[],_,_=>by simp [tbX]
 |v::vs,w::ws,h,h'=>by
  have h1:=Z9 (h v (by simp));have h2:=Z9 (h' w (by simp))
  have h3:=CS vs ws (fun x hx=>h x (ai _ hx)) (fun x hx=>h' x (ai _ hx))
  simp only [tbX,dB,aZ];omega
theorem ZcE:∀(l m:List Int) (v w:Int),l.length=m.length→tbX (l++[v]) (m++[w])=tbX l m++32::(Lib.itoa v++58::Lib.itoa w)
 | [],[],v,w,_=>by simp [tbX]
 |a::l,b::m,v,w,h=>by
  have:=ZcE l m v w (by simpa using h)
  simp only [gB,tbX,this]
  simp
theorem ZbT (L:Nat)(w:List UInt8)(l:List Int)(hl:l.length≤1000)(hn:∀n∈l,bd n)(hw:w.length≤1000)(hL:1000<L):Qw L (w,l,())=some (w++nsX l):=by
 rw [Zcb]
 have hb:=ZeM l hn
 refine Gi l (fun i s=>s=w++nsX (l.take i)) _ (by omega) w (by simp [nsX]) (fun self s i x hP hx hi mem e'=>?_) (fun self s hP=>?_)
 ·subst hP
  have h1:=Z9 (hn x mem)
  have h2:=ZeM (l.take i) fun n hn'=>hn n (dA hn')
  rw [bU] at h2
  rw [KO]
  simp only [Zg hi,cond_true,Zf,hx,Zn,ZR (hn x mem),wrap_succ hi (by omega)]
  rw [Zh (by simp only [dB,az];omega),Zh (by simp only [aZ,dB,az];omega)]
  refine e' _ ?_
  rw [take_succ' hx,Zi9]
  simp [nsX]
 ·rw [jl] at hP
  subst hP
  rw [KO]
  simp only [Zd,cond_false]
theorem Ap {d:Yo}(h:JK d=0):(d.Op=1∨d.Op=2∨d.Op=3∨d.Op=4∨d.Op=5)∧(d.Op=3→d.Values.length=d.Weights.length∧d.Values.length≤20):=by
 unfold JK at h
 split at h
 ·cases h
 split at h
 ·rename_i c;simp only [decide_eq_true_eq] at c;exact ⟨by omega,fun e=>by omega⟩
 split at h
 ·rename_i c;simp only [decide_eq_true_eq] at c;exact ⟨by omega,fun e=>by omega⟩
 split at h
 ·rename_i c;simp only [decide_eq_true_eq] at c;exact ⟨by omega,fun e=>by omega⟩
 split at h
 ·rename_i c;simp only [decide_eq_true_eq] at c;exact ⟨by omega,fun e=>by omega⟩
 split at h
 ·rename_i c;simp only [decide_eq_true_eq] at c
  refine ⟨by omega,fun _=>?_⟩
  split at h
  ·cases h
  rename_i c1
  split at h
  ·cases h
  split at h
  ·cases h
  rename_i c2
  simp only [decide_eq_true_eq,ne_eq,Decidable.not_not] at c1 c2
  omega
 ·cases h
theorem ZiG (L:Nat)(h1:1001≤L)(d:Yo)(ok:X0 d)(hL:SizeOf.sizeOf d<L)(h:JK d=0):YT L (d,())=some (dtX d):=by
 obtain ⟨ho,h3⟩:=Ap h
 have hA:bd d.A:=ok.A;have hB:bd d.B:=ok.B;have hN:bd d.N:=ok.N
 rw [Zfd,GV L d ok hL (by omega),Zn,h]
 have hb1:∀n∈[d.A],bd n:=by simp only [gZ,jm,or_false];rintro n rfl;exact hA
 have hb2:∀n∈[d.A,d.B],bd n:=by simp only [gZ,jm,or_false];rintro n (rfl|rfl);exact hA;exact hB
 have hb3:∀n∈[d.N,d.A,d.B],bd n:=by simp only [gZ,jm,or_false];rintro n (rfl|rfl|rfl);exact hN;exact hA;exact hB
 unfold dtX
 rcases ho with c|c|c|c|c
 ·simp only [c,ZI,ZQ,decide_true,fF,cond_false,cond_true,if_true]
  rw [ZbT L _ _ (by simp) hb1 (by simp) (by omega)];rfl
 ·simp only [c,ZI,ZQ,decide_true,fF,cond_false,cond_true,if_true,jh,decide_false,if_false]
  rw [ZbT L _ _ (by simp) hb2 (by simp) (by omega)];rfl
 ·simp only [c,ZI,ZQ,decide_true,fF,cond_false,cond_true,if_true,jh,decide_false,if_false]
  obtain ⟨e1,e2⟩:=h3 c
  have hV:=ok.Values.2;have hW:=ok.Weights.2
  rw [Ze4 (by simp) (by simp)]
  refine loopK (f := UX d) d.Values (fun (s:List UInt8) i=>(i,s,())) (fun i s=>s=[116,97,98,108,101]++tbX (d.Values.take i) (d.Weights.take i)) _ (fun self s i x hP hx hi mem e'=>?_) (fun self s hP=>?_) L 0 _ (by simp [tbX]) (eG _) (by omega)
  ·subst hP
   obtain ⟨w,hw⟩:∃w,d.Weights[i]? = some w:=⟨_,bG (by omega)⟩
   have hwm:=aS hw
   have l1:=Z9 (hV x mem);have l2:=Z9 (hW w hwm)
   have l3:=CS (d.Values.take i) (d.Weights.take i) (fun n hn=>hV n (dA hn)) (fun n hn=>hW n (dA hn))
   rw [bU] at l3
   rw [UX]
   simp only [Zg hi,cond_true,Zf,hx,hw,Zn,ZR (hV x mem),ZR (hW w hwm),wrap_succ hi (by omega)]
   rw [Zh (by simp only [dB,az];omega),Zh (by simp only [aZ,dB,az];omega),Zh (by simp only [aZ,dB,az];omega),Ze4 (by simp only [aZ,dB,az];omega) (by simp only [aZ,dB,az];omega)]
   refine e' _ ?_
   rw [take_succ' hx,take_succ' hw,ZcE _ _ _ _ (by rw [bU,bU];omega)]
   simp
  ·have:d.Weights.take d.Values.length=d.Weights:=by rw [e1,jl]
   rw [jl,this] at hP
   subst hP
   rw [UX]
   simp only [Zd,cond_false]
 ·simp only [c,ZI,ZQ,decide_true,fF,cond_false,cond_true,if_true,jh,decide_false,if_false]
  rw [ZbT L _ _ (by simp) hb3 (by simp) (by omega)];rfl
 ·simp only [c,ZI,ZQ,decide_true,fF,cond_false,cond_true,if_true,jh,decide_false,if_false]
  rw [ZbT L _ _ (by simp) hb2 (by simp) (by omega)];rfl
theorem ZeX (L:Nat)(h1:1001≤L)(d:Yo)(ok:X0 d)(hL:SizeOf.sizeOf d<L)(h:JK d=0):Wp L (d,())=some (dtX d):=by
 obtain ⟨ho,h3⟩:=Ap h
 have hA:bd d.A:=ok.A;have hB:bd d.B:=ok.B;have hN:bd d.N:=ok.N
 have lA:=Z9 hA;have lB:=Z9 hB;have lN:=Z9 hN
 rw [Zhs,MC L d ok hL,Zn,h]
 unfold dtX
 rcases ho with c|c|c|c|c
 ·simp only [c,ZI,ZQ,decide_true,fF,cond_false,cond_true,if_true,ZR hA,Zn]
  rw [Zh (by simp only [dB,az];omega)]
  simp [nsX]
 ·simp only [c,ZI,ZQ,decide_true,fF,cond_false,cond_true,if_true,jh,decide_false,if_false,ZR hA,ZR hB,Zn]
  (simp (disch := (((try simp only [aZ,dB,az] at *);omega))) only [Zh,Zn])
  simp [nsX]
 ·simp only [c,ZI,ZQ,decide_true,fF,cond_false,cond_true,if_true,jh,decide_false,if_false]
  obtain ⟨e1,e2⟩:=h3 c
  have hV:=ok.Values.2;have hW:=ok.Weights.2
  refine Gi (f := GZ d) d.Values (fun i s=>s=[116,97,98,108,101]++tbX (d.Values.take i) (d.Weights.take i)) _ (by omega) _ (by simp [tbX]) (fun self s i x hP hx hi mem e'=>?_) (fun self s hP=>?_)
  ·subst hP
   obtain ⟨w,hw⟩:∃w,d.Weights[i]? = some w:=⟨_,bG (by omega)⟩
   have hwm:=aS hw
   have l1:=Z9 (hV x mem);have l2:=Z9 (hW w hwm)
   have l3:=CS (d.Values.take i) (d.Weights.take i) (fun n hn=>hV n (dA hn)) (fun n hn=>hW n (dA hn))
   rw [bU] at l3
   rw [GZ]
   simp only [Zg hi,cond_true,Zf,hx,hw,Zn,ZR (hV x mem),ZR (hW w hwm),wrap_succ hi (by omega)]
   rw [Zh (by simp only [aZ,dB,az];omega),Zh (by simp only [aZ,dB,az];omega),Zh (by simp only [aZ,dB,az];omega),Zh (by simp only [aZ,dB,az];omega)]
   refine e' _ ?_
   rw [take_succ' hx,take_succ' hw,ZcE _ _ _ _ (by rw [bU,bU];omega)]
   simp
  ·have:d.Weights.take d.Values.length=d.Weights:=by rw [e1,jl]
   rw [jl,this] at hP
   subst hP
   rw [GZ]
   simp only [Zd,cond_false]
 ·simp only [c,ZI,ZQ,decide_true,fF,cond_false,cond_true,if_true,jh,decide_false,if_false,ZR hA,ZR hB,ZR hN,Zn]
  (simp (disch := (((try simp only [aZ,dB,az] at *);omega))) only [Zh,Zn])
  simp [nsX]
 ·simp only [c,ZI,ZQ,decide_true,fF,cond_false,cond_true,if_true,jh,decide_false,if_false,ZR hA,ZR hB,Zn]
  (simp (disch := (((try simp only [aZ,dB,az] at *);omega))) only [Zh,Zn])
  simp [nsX]
def ZG (d:Nat)(s:List UInt8):List UInt8:=aO d 32++(s++[10])
theorem ZC (d:Nat)(s:List UInt8):(ZG d s).length=d+(s.length+1):=by simp [ZG]
theorem Zn1 {d:Nat}(h:d≤140737488355328):ZnC [32] (d:Int)=some (aO d 32):=by
 unfold ZnC
 rw [if_pos ⟨by omega,by omega,by simp;omega⟩,jk,show ([32]:List UInt8)=aO 1 32 from rfl,Lib.repeatL_replicate,Nat.mul_one]
theorem YV (L:Nat)(ws:List (List UInt8))(b:List UInt8)(d:Nat)(hw:ws.length≤140737488355328)(hb:b.length+(ZG d (Lib.join ws [32])).length≤4398046511104) :
  Zc L (ws,()) (b,(d:Int))=some ((),(b++ZG d (Lib.join ws [32]),(d:Int))):=by
 rw [ZC] at hb
 rw [GX]
 simp only [Zn1 (show d≤140737488355328 by omega),ZbN (l := ws) (s := [32]) hw (by omega),Zn]
 rw [Zh (by simp only [jy];omega),Zh (by simp only [aZ,jy,dB,az];omega),Ze4 (by simp only [aZ,jy,dB,az];omega) (by simp only [aZ,jy,dB,az];omega)]
 simp [ZG,Zn]
theorem Qn (L:Nat)(d:Nat)(s:List UInt8)(hd:d<L)(hb:(ZG d s).length≤4398046511104):Zu L ((d:Int),s,())=some (ZG d s):=by
 rw [ZC] at hb
 rw [Zh5]
 have hl:(aO d ()).length=d:=jy
 refine Gi (f := Hl (d:Int)) (aO d ()) (fun i t=>t=aO i 32++s) _ (by omega) s rfl (fun self t i x hP hx hi mem e'=>?_) (fun self t hP=>?_)
 ·subst hP
  rw [hl] at hi
  rw [Hl]
  simp only [show decide ((i:Int)<(d:Int))=true by simpa using hi,cond_true,ZaH (n := (i:Int)+1) (by omega) (by omega)]
  rw [Zh (by simp only [aZ,jy,dB,az];omega)]
  exact e' _ (by rw [List.replicate_succ];rfl)
 ·subst hP
  rw [hl,Hl]
  simp only [Zd,cond_false]
  rw [Zh (by simp only [aZ,jy,dB,az];omega)]
  simp [ZG]
def OA (l:List Zt):List UInt8:=40::(Lib.join (l.map txX) [44,32]++[41])
def Z7 (s:Zl):List (List UInt8) :=
 if s.Op=1 then [[115,101,116],s.Name,[61],txX s.E]
 else if s.Op=2 then [[100,114,97,119],s.Name,[102,114,111,109],s.Of,dtX s.Dist]
 else if s.Op=5 then [[104,111,108,100],txX s.E]
 else if s.Op=6 then (if s.Flag=true then [[115,101,105,122,101],s.Name,txX s.E,[112,114,105,111],txX s.F,[112,114,101,101,109,112,116]] else [[115,101,105,122,101],s.Name,txX s.E,[112,114,105,111],txX s.F])
 else if s.Op=7 then [[114,101,108,101,97,115,101],s.Name,txX s.E]
 else if s.Op=8 then [[112,117,116],txX s.E,[105,110,116,111],s.Name]
 else if s.Op=9 then [[103,101,116],s.Of,[102,114,111,109],s.Name]
 else if s.Op=10 then [[114,105,100,101],s.Name]
 else if s.Op=11 then [[119,97,105,116],s.Name]
 else if s.Op=12 then [[115,105,103,110,97,108],s.Name,txX s.E]
 else if s.Op=13 then [[115,101,110,100],s.Of++(46::s.Name),OA s.Args,[97,102,116,101,114],txX s.E]
 else if s.Op=14 then [[115,112,97,119,110],s.Name,OA s.Args,[97,102,116,101,114],txX s.E]
 else if s.Op=15 then [[111,98,115,101,114,118,101],s.Name,txX s.E]
 else if s.Op=16 then [[108,101,118,101,108],s.Name,txX s.E]
 else if s.Op=17 then [[97,100,100],s.Name,txX s.E]
 else [[115,116,111,112]]
theorem jn1 (s a:List UInt8):Lib.join [a] s=a:=by simp [Lib.join,jr]
theorem G6 (s a b:List UInt8)(l:List (List UInt8)):Lib.join (a::b::l) s=a++(s++Lib.join (b::l) s):=Ru s a b l
structure Good (s:Zl):Prop where
 op:1≤s.Op∧s.Op≤18
 e:(JH s.Op).1.e=true→WF false s.E=0
 f:(JH s.Op).1.f=true→WF false s.F=0
 e0:(JH s.Op).1.e=false→s.E.Op=0
 args:∀x∈s.Args,WF false x=0
 few:s.Args.length≤6
 dist:(JH s.Op).1.dist=true→JK s.Dist=0
 other:(JH s.Op).1.other=false→s.Else=[]
theorem Zn8 {n:Int}(h:(JH n).2=true):1≤n∧n≤18:=by
 by_cases c:1≤n∧n≤18
 ·exact c
 ·exfalso
  have hn:∀k:Int,1≤k→k≤18→decide (n=k)=false:=fun k h1 h2=>by simp;omega
  unfold JH at h
  simp only [hn 1 (by decide) (by decide),hn 2 (by decide) (by decide),hn 3 (by decide) (by decide),hn 4 (by decide) (by decide),hn 5 (by decide) (by decide),hn 6 (by decide) (by decide),hn 7 (by decide) (by decide),hn 8 (by decide) (by decide),hn 9 (by decide) (by decide),hn 10 (by decide) (by decide),hn 11 (by decide) (by decide),hn 12 (by decide) (by decide),hn 13 (by decide) (by decide),hn 14 (by decide) (by decide),hn 15 (by decide) (by decide),hn 16 (by decide) (by decide),hn 17 (by decide) (by decide),hn 18 (by decide) (by decide),aK,if_false] at h
theorem Zdb (s:Zl)(u:Uo):∀l:List Zt,Dp s u l=0→(∀x∈l,WF false x=0)∧(u.dist=true→JK s.Dist=0)
 | [],h=>by
  rw [Dp] at h
  exact ⟨fun x hx=>(by cases hx),fun hd=>by rw [if_pos hd] at h;exact h⟩
 |x::r,h=>by
  rw [Dp] at h
  by_cases c:WX false x=0
  ·rw [if_neg (by simp [c])] at h
   obtain ⟨h1,h2⟩:=Zdb s u r h
   exact ⟨fun y hy=>by rcases gZ.1 hy with rfl|hy;exact Rq c;exact h1 y hy,h2⟩
  ·rw [if_pos (by simp [c])] at h;exact absurd h c
theorem Ziu {s:Zl}(h:Zdz s=0):Good s:=by
 unfold Zdz at h
 split at h
 ·cases h
 rename_i c
 simp only [aJ,fH,not_or,jf] at c
 obtain ⟨hu,hf⟩:=c
 generalize hU:(JH s.Op).1=u at h hf
 have hn:Zbh s u=0:=by
  unfold Zbj at h
  rcases DD s.Name with e1|e1<;>rcases DD s.Of with e2|e2<;>cases hn:u.name<;>cases ho:u.of<;>simp [e1,e2,hn,ho] at h<;>exact h
 have he:(u.e=true→WF false s.E=0)∧Zbi s u=0:=by
  unfold Zbh at hn
  cases hE:u.e with
  |false=>rw [hE] at hn;exact ⟨fun h=>(by cases h),by simpa using hn⟩
  |true =>
   rw [hE] at hn
   by_cases c:WX false s.E=0
   ·exact ⟨fun _=>Rq c,by simpa [c] using hn⟩
   ·exact absurd (by simpa [c] using hn) c
 have hF:(u.f=true→WF false s.F=0)∧Zbg s u=0:=by
  have hn:=he.2
  unfold Zbi at hn
  cases hE:u.f with
  |false=>rw [hE] at hn;exact ⟨fun h=>(by cases h),by simpa using hn⟩
  |true =>
   rw [hE] at hn
   by_cases c:WX false s.F=0
   ·exact ⟨fun _=>Rq c,by simpa [c] using hn⟩
   ·exact absurd (by simpa [c] using hn) c
 have hA:s.Args.length≤6∧Dp s u s.Args=0:=by
  have hn:=hF.2
  unfold Zbg at hn
  split at hn
  ·cases hn
  ·rename_i c
   simp only [decide_eq_true_eq] at c
   exact ⟨by omega,hn⟩
 obtain ⟨a1,a2⟩:=Zdb s u s.Args hA.2
 unfold Zdq at hf
 simp only [fG,aJ,decide_eq_true_eq] at hf
 obtain ⟨⟨⟨⟨⟨⟨⟨⟨f1,f2⟩,f3⟩,f4⟩,f5⟩,f6⟩,f7⟩,f8⟩,f9⟩:=hf
 refine ⟨Zn8 hu,by rw [hU];exact he.1,by rw [hU];exact hF.1,fun h0=>?_,a1,hA.1,by rw [hU];exact a2,fun h0=>?_⟩
 ·rw [hU] at h0
  rcases f3 with f3|f3
  ·rw [h0] at f3;cases f3
  ·unfold Zaq at f3
   simp only [fG,decide_eq_true_eq] at f3
   exact f3.1.1.1
 ·rw [hU] at h0
  rcases f9 with f9|f9
  ·rw [h0] at f9;cases f9
  ·exact bg (by omega)
theorem IG {e:Zt}(h:WF false e=0):(e.Op != 0)=true:=by
 have:=(Zbb (Az h).1).1
 simp;omega
structure Txt (L:Nat)(s:Zl):Prop where
 ok:Ym s
 g:Good s
 L0:3*SizeOf.sizeOf s≤L
 L1:1001≤L
 b:(Lib.join (Z7 s) [32]).length≤2199023255552
theorem Txt.pe {L:Nat}{s:Zl}(h:Txt L s)(hu:(JH s.Op).1.e=true)(hb:(txX s.E).length≤2199023255552):ZP L (s.E,())=some (txX s.E)∧QG L (s.E,())=some (txX s.E):=by
 have:=(ZgL s).1;have:=h.L0
 exact ⟨Zg6 L s.E h.ok.E (h.g.e hu) hb (by omega),ZeY L s.E h.ok.E (h.g.e hu) hb (by omega)⟩
theorem Txt.pf {L:Nat}{s:Zl}(h:Txt L s)(hu:(JH s.Op).1.f=true)(hb:(txX s.F).length≤2199023255552):ZP L (s.F,())=some (txX s.F)∧QG L (s.F,())=some (txX s.F):=by
 have:=(ZgL s).2.1;have:=h.L0
 exact ⟨Zg6 L s.F h.ok.F (h.g.f hu) hb (by omega),ZeY L s.F h.ok.F (h.g.f hu) hb (by omega)⟩
theorem Txt.pd {L:Nat}{s:Zl}(h:Txt L s)(hu:(JH s.Op).1.dist=true):YT L (s.Dist,())=some (dtX s.Dist)∧Wp L (s.Dist,())=some (dtX s.Dist):=by
 have:=(CQ s).1;have:=h.L0
 exact ⟨ZiG L h.L1 s.Dist h.ok.Dist (by omega) (h.g.dist hu),ZeX L h.L1 s.Dist h.ok.Dist (by omega) (h.g.dist hu)⟩
theorem Txt.pa {L:Nat}{s:Zl}(h:Txt L s)(hb:(OA s.Args).length≤2199023255552):J7 L (s.Args,())=some (OA s.Args)∧Uw L (s.Args,())=some (OA s.Args):=by
 have hz:=(ZgL s).2.2.1;have:=h.L0;have hl:=Z4 s.Args;have:=h.L1
 unfold OA at hb ⊢
 simp only [dB,aZ,az] at hb
 have h0:∀x∈s.Args,(txX x).length≤2199023255552:=fun x hx=>by have:=ZeG hx;omega
 have hs:∀x∈s.Args,3*SizeOf.sizeOf x+2≤L:=fun x hx=>by have:=ZnE hx;omega
 constructor
 ·rw [ZdI,ZiI (fun y=>ZP L (y,())) (fun y=>some y) s.Args (fun x hx=>Zg6 L x (h.ok.Args.2 x hx) (h.g.args x hx) (h0 x hx) (by have:=hs x hx;omega)) (by omega) (by omega) (fun self acc=>by rw [DU])]
  simp only [Zn]
  (simp (disch := (((try simp only [aZ,dB,az] at *);omega))) only [Zh,Zn])
  simp
 ·obtain ⟨m,rfl⟩:∃m,L=m+1:=⟨L - 1,by omega⟩
  exact ZiN s.Args (fun x hx=>Eu (m+1) m x (h.ok.Args.2 x hx) (h.g.args x hx) (h0 x hx) (by have:=hs x hx;omega) (by omega)) (by omega) (by omega)
theorem Yp {l:List (List UInt8)}{x:List UInt8}(h:x∈l)(hb:(Lib.join l [32]).length≤2199023255552):x.length≤2199023255552:=dK (Dz _ h) hb
theorem ZfX {s:Zl}(c:s.Op=1):Z7 s=[[115,101,116],s.Name,[61],txX s.E]:=by simp [Z7,c]
theorem Zow {L:Nat}{s:Zl}(h:Txt L s)(c:s.Op=1):ZM L (s,())=some (Lib.join (Z7 s) [32]):=by
 have hb:=h.b
 rw [ZfX c] at hb ⊢
 have mN:=Yp (x := s.Name) (by simp) hb
 have mE:=Yp (x := txX s.E) (by simp) hb
 obtain ⟨pe,re⟩:=h.pe (by rw [c];rfl) mE
 have hz:(s.E.1 != 0)=true:=IG (h.g.e (by rw [c];rfl))
 rw [ZY]
 simp only [hz,c,re,ji,cond_true,cond_false,Zn,BEq.rfl]
 clear h hb hz c
 (simp (disch := (((try simp only [aZ,dB,az] at *);omega))) only [Zh,Zn])
 simp [G6,jn1]
theorem Zop {L m:Nat}{s:Zl}{b:List UInt8}{d:Nat}(h:Txt L s)(c:s.Op=1)(hbb:b.length+(ZG d (Lib.join (Z7 s) [32])).length≤4398046511104):Zm L (m+1) (s,()) (b,(d:Int))=some ((),(b++ZG d (Lib.join (Z7 s) [32]),(d:Int))):=by
 have hb:=h.b
 rw [ZfX c] at hb ⊢
 rw [ZfX c] at hbb
 have mN:=Yp (x := s.Name) (by simp) hb
 have mE:=Yp (x := txX s.E) (by simp) hb
 obtain ⟨pe,re⟩:=h.pe (by rw [c];rfl) mE
 rw [Zr]
 simp only [c,pe,ji,cond_true,cond_false,Zn,BEq.rfl]
 erw [YV L [[115,101,116],s.Name,[61],txX s.E] b d (by simp) hbb]
 rfl
theorem ZfY {s:Zl}(c:s.Op=2):Z7 s=[[100,114,97,119],s.Name,[102,114,111,109],s.Of,dtX s.Dist]:=by simp [Z7,c]
theorem Zox {L:Nat}{s:Zl}(h:Txt L s)(c:s.Op=2):ZM L (s,())=some (Lib.join (Z7 s) [32]):=by
 have hb:=h.b
 rw [ZfY c] at hb ⊢
 have mN:=Yp (x := s.Name) (by simp) hb
 have mO:=Yp (x := s.Of) (by simp) hb
 have hz:(s.E.1 != 0)=false:=by simp [h.g.e0 (by rw [c];rfl)]
 have mD:=Yp (x := dtX s.Dist) (by simp) hb
 obtain ⟨pd,rd⟩:=h.pd (by rw [c];rfl)
 rw [ZY]
 simp only [hz,c,rd,ji,cond_true,cond_false,Zn,BEq.rfl]
 clear h hb hz c
 (simp (disch := (((try simp only [aZ,dB,az] at *);omega))) only [Zh,Zn])
 simp [G6,jn1]
theorem Zoq {L m:Nat}{s:Zl}{b:List UInt8}{d:Nat}(h:Txt L s)(c:s.Op=2)(hbb:b.length+(ZG d (Lib.join (Z7 s) [32])).length≤4398046511104):Zm L (m+1) (s,()) (b,(d:Int))=some ((),(b++ZG d (Lib.join (Z7 s) [32]),(d:Int))):=by
 have hb:=h.b
 rw [ZfY c] at hb ⊢
 rw [ZfY c] at hbb
 have mN:=Yp (x := s.Name) (by simp) hb
 have mO:=Yp (x := s.Of) (by simp) hb
 have mD:=Yp (x := dtX s.Dist) (by simp) hb
 obtain ⟨pd,rd⟩:=h.pd (by rw [c];rfl)
 rw [Zr]
 simp only [c,pd,ji,cond_true,cond_false,Zn,BEq.rfl]
 erw [YV L [[100,114,97,119],s.Name,[102,114,111,109],s.Of,dtX s.Dist] b d (by simp) hbb]
 rfl
theorem ZfZ {s:Zl}(c:s.Op=5):Z7 s=[[104,111,108,100],txX s.E]:=by simp [Z7,c]
theorem Zoy {L:Nat}{s:Zl}(h:Txt L s)(c:s.Op=5):ZM L (s,())=some (Lib.join (Z7 s) [32]):=by
 have hb:=h.b
 rw [ZfZ c] at hb ⊢
 have mE:=Yp (x := txX s.E) (by simp) hb
 obtain ⟨pe,re⟩:=h.pe (by rw [c];rfl) mE
 have hz:(s.E.1 != 0)=true:=IG (h.g.e (by rw [c];rfl))
 rw [ZY]
 simp only [hz,c,re,ji,cond_true,cond_false,Zn,BEq.rfl]
 clear h hb hz c
 (simp (disch := (((try simp only [aZ,dB,az] at *);omega))) only [Zh,Zn])
 simp [G6,jn1]
theorem Zor {L m:Nat}{s:Zl}{b:List UInt8}{d:Nat}(h:Txt L s)(c:s.Op=5)(hbb:b.length+(ZG d (Lib.join (Z7 s) [32])).length≤4398046511104):Zm L (m+1) (s,()) (b,(d:Int))=some ((),(b++ZG d (Lib.join (Z7 s) [32]),(d:Int))):=by
 have hb:=h.b
 rw [ZfZ c] at hb ⊢
 rw [ZfZ c] at hbb
 have mE:=Yp (x := txX s.E) (by simp) hb
 obtain ⟨pe,re⟩:=h.pe (by rw [c];rfl) mE
 rw [Zr]
 simp only [c,pe,ji,cond_true,cond_false,Zn,BEq.rfl]
 erw [YV L [[104,111,108,100],txX s.E] b d (by simp) hbb]
 rfl
theorem ZcT {s:Zl}(c:s.Op=6)(hf:s.Flag=true):Z7 s=[[115,101,105,122,101],s.Name,txX s.E,[112,114,105,111],txX s.F,[112,114,101,101,109,112,116]]:=by simp [Z7,c,hf]
theorem Znz {L:Nat}{s:Zl}(h:Txt L s)(c:s.Op=6)(hf:s.Flag=true):ZM L (s,())=some (Lib.join (Z7 s) [32]):=by
 have hb:=h.b
 rw [ZcT c hf] at hb ⊢
 have mN:=Yp (x := s.Name) (by simp) hb
 have mE:=Yp (x := txX s.E) (by simp) hb
 obtain ⟨pe,re⟩:=h.pe (by rw [c];rfl) mE
 have hz:(s.E.1 != 0)=true:=IG (h.g.e (by rw [c];rfl))
 have mF:=Yp (x := txX s.F) (by simp) hb
 obtain ⟨pf,rf⟩:=h.pf (by rw [c];rfl) mF
 rw [ZY]
 simp only [hz,c,re,rf,hf,ji,cond_true,cond_false,Zn,BEq.rfl]
 clear h hb hz c
 (simp (disch := (((try simp only [aZ,dB,az] at *);omega))) only [Zh,Zn])
 simp [G6,jn1]
theorem Znl {L m:Nat}{s:Zl}{b:List UInt8}{d:Nat}(h:Txt L s)(c:s.Op=6)(hf:s.Flag=true)(hbb:b.length+(ZG d (Lib.join (Z7 s) [32])).length≤4398046511104):Zm L (m+1) (s,()) (b,(d:Int))=some ((),(b++ZG d (Lib.join (Z7 s) [32]),(d:Int))):=by
 have hb:=h.b
 rw [ZcT c hf] at hb ⊢
 rw [ZcT c hf] at hbb
 have mN:=Yp (x := s.Name) (by simp) hb
 have mE:=Yp (x := txX s.E) (by simp) hb
 obtain ⟨pe,re⟩:=h.pe (by rw [c];rfl) mE
 have mF:=Yp (x := txX s.F) (by simp) hb
 obtain ⟨pf,rf⟩:=h.pf (by rw [c];rfl) mF
 rw [Zr]
 simp only [c,pe,pf,hf,ji,cond_true,cond_false,Zn,BEq.rfl]
 rw [Ah (by simp)]
 erw [YV L [[115,101,105,122,101],s.Name,txX s.E,[112,114,105,111],txX s.F,[112,114,101,101,109,112,116]] b d (by simp) hbb]
 rfl
theorem ZcU {s:Zl}(c:s.Op=6)(hf:s.Flag=false):Z7 s=[[115,101,105,122,101],s.Name,txX s.E,[112,114,105,111],txX s.F]:=by simp [Z7,c,hf]
theorem Zn0 {L:Nat}{s:Zl}(h:Txt L s)(c:s.Op=6)(hf:s.Flag=false):ZM L (s,())=some (Lib.join (Z7 s) [32]):=by
 have hb:=h.b
 rw [ZcU c hf] at hb ⊢
 have mN:=Yp (x := s.Name) (by simp) hb
 have mE:=Yp (x := txX s.E) (by simp) hb
 obtain ⟨pe,re⟩:=h.pe (by rw [c];rfl) mE
 have hz:(s.E.1 != 0)=true:=IG (h.g.e (by rw [c];rfl))
 have mF:=Yp (x := txX s.F) (by simp) hb
 obtain ⟨pf,rf⟩:=h.pf (by rw [c];rfl) mF
 rw [ZY]
 simp only [hz,c,re,rf,hf,ji,cond_true,cond_false,Zn,BEq.rfl]
 clear h hb hz c
 (simp (disch := (((try simp only [aZ,dB,az] at *);omega))) only [Zh,Zn])
 simp [G6,jn1]
theorem Znm {L m:Nat}{s:Zl}{b:List UInt8}{d:Nat}(h:Txt L s)(c:s.Op=6)(hf:s.Flag=false)(hbb:b.length+(ZG d (Lib.join (Z7 s) [32])).length≤4398046511104):Zm L (m+1) (s,()) (b,(d:Int))=some ((),(b++ZG d (Lib.join (Z7 s) [32]),(d:Int))):=by
 have hb:=h.b
 rw [ZcU c hf] at hb ⊢
 rw [ZcU c hf] at hbb
 have mN:=Yp (x := s.Name) (by simp) hb
 have mE:=Yp (x := txX s.E) (by simp) hb
 obtain ⟨pe,re⟩:=h.pe (by rw [c];rfl) mE
 have mF:=Yp (x := txX s.F) (by simp) hb
 obtain ⟨pf,rf⟩:=h.pf (by rw [c];rfl) mF
 rw [Zr]
 simp only [c,pe,pf,hf,ji,cond_true,cond_false,Zn,BEq.rfl]
 erw [YV L [[115,101,105,122,101],s.Name,txX s.E,[112,114,105,111],txX s.F] b d (by simp) hbb]
 rfl
theorem Zga {s:Zl}(c:s.Op=7):Z7 s=[[114,101,108,101,97,115,101],s.Name,txX s.E]:=by simp [Z7,c]
theorem Zoz {L:Nat}{s:Zl}(h:Txt L s)(c:s.Op=7):ZM L (s,())=some (Lib.join (Z7 s) [32]):=by
 have hb:=h.b
 rw [Zga c] at hb ⊢
 have mN:=Yp (x := s.Name) (by simp) hb
 have mE:=Yp (x := txX s.E) (by simp) hb
 obtain ⟨pe,re⟩:=h.pe (by rw [c];rfl) mE
 have hz:(s.E.1 != 0)=true:=IG (h.g.e (by rw [c];rfl))
 rw [ZY]
 simp only [hz,c,re,ji,cond_true,cond_false,Zn,BEq.rfl]
 clear h hb hz c
 (simp (disch := (((try simp only [aZ,dB,az] at *);omega))) only [Zh,Zn])
 simp [G6,jn1]
theorem Zos {L m:Nat}{s:Zl}{b:List UInt8}{d:Nat}(h:Txt L s)(c:s.Op=7)(hbb:b.length+(ZG d (Lib.join (Z7 s) [32])).length≤4398046511104):Zm L (m+1) (s,()) (b,(d:Int))=some ((),(b++ZG d (Lib.join (Z7 s) [32]),(d:Int))):=by
 have hb:=h.b
 rw [Zga c] at hb ⊢
 rw [Zga c] at hbb
 have mN:=Yp (x := s.Name) (by simp) hb
 have mE:=Yp (x := txX s.E) (by simp) hb
 obtain ⟨pe,re⟩:=h.pe (by rw [c];rfl) mE
 rw [Zr]
 simp only [c,pe,ji,cond_true,cond_false,Zn,BEq.rfl]
 erw [YV L [[114,101,108,101,97,115,101],s.Name,txX s.E] b d (by simp) hbb]
 rfl
theorem Zgb {s:Zl}(c:s.Op=8):Z7 s=[[112,117,116],txX s.E,[105,110,116,111],s.Name]:=by simp [Z7,c]
theorem Zo0 {L:Nat}{s:Zl}(h:Txt L s)(c:s.Op=8):ZM L (s,())=some (Lib.join (Z7 s) [32]):=by
 have hb:=h.b
 rw [Zgb c] at hb ⊢
 have mN:=Yp (x := s.Name) (by simp) hb
 have mE:=Yp (x := txX s.E) (by simp) hb
 obtain ⟨pe,re⟩:=h.pe (by rw [c];rfl) mE
 have hz:(s.E.1 != 0)=true:=IG (h.g.e (by rw [c];rfl))
 rw [ZY]
 simp only [hz,c,re,ji,cond_true,cond_false,Zn,BEq.rfl]
 clear h hb hz c
 (simp (disch := (((try simp only [aZ,dB,az] at *);omega))) only [Zh,Zn])
 simp [G6,jn1]
theorem Zot {L m:Nat}{s:Zl}{b:List UInt8}{d:Nat}(h:Txt L s)(c:s.Op=8)(hbb:b.length+(ZG d (Lib.join (Z7 s) [32])).length≤4398046511104):Zm L (m+1) (s,()) (b,(d:Int))=some ((),(b++ZG d (Lib.join (Z7 s) [32]),(d:Int))):=by
 have hb:=h.b
 rw [Zgb c] at hb ⊢
 rw [Zgb c] at hbb
 have mN:=Yp (x := s.Name) (by simp) hb
 have mE:=Yp (x := txX s.E) (by simp) hb
 obtain ⟨pe,re⟩:=h.pe (by rw [c];rfl) mE
 rw [Zr]
 simp only [c,pe,ji,cond_true,cond_false,Zn,BEq.rfl]
 erw [YV L [[112,117,116],txX s.E,[105,110,116,111],s.Name] b d (by simp) hbb]
 rfl
theorem Zgc {s:Zl}(c:s.Op=9):Z7 s=[[103,101,116],s.Of,[102,114,111,109],s.Name]:=by simp [Z7,c]
theorem Zo1 {L:Nat}{s:Zl}(h:Txt L s)(c:s.Op=9):ZM L (s,())=some (Lib.join (Z7 s) [32]):=by
 have hb:=h.b
 rw [Zgc c] at hb ⊢
 have mO:=Yp (x := s.Of) (by simp) hb
 have mN:=Yp (x := s.Name) (by simp) hb
 have hz:(s.E.1 != 0)=false:=by simp [h.g.e0 (by rw [c];rfl)]
 rw [ZY]
 simp only [hz,c,ji,cond_true,cond_false,Zn,BEq.rfl]
 clear h hb hz c
 (simp (disch := (((try simp only [aZ,dB,az] at *);omega))) only [Zh,Zn])
 simp [G6,jn1]
theorem Zou {L m:Nat}{s:Zl}{b:List UInt8}{d:Nat}(h:Txt L s)(c:s.Op=9)(hbb:b.length+(ZG d (Lib.join (Z7 s) [32])).length≤4398046511104):Zm L (m+1) (s,()) (b,(d:Int))=some ((),(b++ZG d (Lib.join (Z7 s) [32]),(d:Int))):=by
 have hb:=h.b
 rw [Zgc c] at hb ⊢
 rw [Zgc c] at hbb
 have mO:=Yp (x := s.Of) (by simp) hb
 have mN:=Yp (x := s.Name) (by simp) hb
 rw [Zr]
 simp only [c,ji,cond_true,cond_false,Zn,BEq.rfl]
 erw [YV L [[103,101,116],s.Of,[102,114,111,109],s.Name] b d (by simp) hbb]
 rfl
theorem ZcK {s:Zl}(c:s.Op=10):Z7 s=[[114,105,100,101],s.Name]:=by simp [Z7,c]
theorem Znq {L:Nat}{s:Zl}(h:Txt L s)(c:s.Op=10):ZM L (s,())=some (Lib.join (Z7 s) [32]):=by
 have hb:=h.b
 rw [ZcK c] at hb ⊢
 have mN:=Yp (x := s.Name) (by simp) hb
 have hz:(s.E.1 != 0)=false:=by simp [h.g.e0 (by rw [c];rfl)]
 rw [ZY]
 simp only [hz,c,ji,cond_true,cond_false,Zn,BEq.rfl]
 clear h hb hz c
 (simp (disch := (((try simp only [aZ,dB,az] at *);omega))) only [Zh,Zn])
 simp [G6,jn1]
theorem Znc {L m:Nat}{s:Zl}{b:List UInt8}{d:Nat}(h:Txt L s)(c:s.Op=10)(hbb:b.length+(ZG d (Lib.join (Z7 s) [32])).length≤4398046511104):Zm L (m+1) (s,()) (b,(d:Int))=some ((),(b++ZG d (Lib.join (Z7 s) [32]),(d:Int))):=by
 have hb:=h.b
 rw [ZcK c] at hb ⊢
 rw [ZcK c] at hbb
 have mN:=Yp (x := s.Name) (by simp) hb
 rw [Zr]
 simp only [c,ji,cond_true,cond_false,Zn,BEq.rfl]
 erw [YV L [[114,105,100,101],s.Name] b d (by simp) hbb]
 rfl
theorem ZcL {s:Zl}(c:s.Op=11):Z7 s=[[119,97,105,116],s.Name]:=by simp [Z7,c]
theorem Znr {L:Nat}{s:Zl}(h:Txt L s)(c:s.Op=11):ZM L (s,())=some (Lib.join (Z7 s) [32]):=by
 have hb:=h.b
 rw [ZcL c] at hb ⊢
 have mN:=Yp (x := s.Name) (by simp) hb
 have hz:(s.E.1 != 0)=false:=by simp [h.g.e0 (by rw [c];rfl)]
 rw [ZY]
 simp only [hz,c,ji,cond_true,cond_false,Zn,BEq.rfl]
 clear h hb hz c
 (simp (disch := (((try simp only [aZ,dB,az] at *);omega))) only [Zh,Zn])
 simp [G6,jn1]
theorem Znd {L m:Nat}{s:Zl}{b:List UInt8}{d:Nat}(h:Txt L s)(c:s.Op=11)(hbb:b.length+(ZG d (Lib.join (Z7 s) [32])).length≤4398046511104):Zm L (m+1) (s,()) (b,(d:Int))=some ((),(b++ZG d (Lib.join (Z7 s) [32]),(d:Int))):=by
 have hb:=h.b
 rw [ZcL c] at hb ⊢
 rw [ZcL c] at hbb
 have mN:=Yp (x := s.Name) (by simp) hb
 rw [Zr]
 simp only [c,ji,cond_true,cond_false,Zn,BEq.rfl]
 erw [YV L [[119,97,105,116],s.Name] b d (by simp) hbb]
 rfl
theorem ZcM {s:Zl}(c:s.Op=12):Z7 s=[[115,105,103,110,97,108],s.Name,txX s.E]:=by simp [Z7,c]
theorem Zns {L:Nat}{s:Zl}(h:Txt L s)(c:s.Op=12):ZM L (s,())=some (Lib.join (Z7 s) [32]):=by
 have hb:=h.b
 rw [ZcM c] at hb ⊢
 have mN:=Yp (x := s.Name) (by simp) hb
 have mE:=Yp (x := txX s.E) (by simp) hb
 obtain ⟨pe,re⟩:=h.pe (by rw [c];rfl) mE
 have hz:(s.E.1 != 0)=true:=IG (h.g.e (by rw [c];rfl))
 rw [ZY]
 simp only [hz,c,re,ji,cond_true,cond_false,Zn,BEq.rfl]
 clear h hb hz c
 (simp (disch := (((try simp only [aZ,dB,az] at *);omega))) only [Zh,Zn])
 simp [G6,jn1]
theorem Zne {L m:Nat}{s:Zl}{b:List UInt8}{d:Nat}(h:Txt L s)(c:s.Op=12)(hbb:b.length+(ZG d (Lib.join (Z7 s) [32])).length≤4398046511104):Zm L (m+1) (s,()) (b,(d:Int))=some ((),(b++ZG d (Lib.join (Z7 s) [32]),(d:Int))):=by
 have hb:=h.b
 rw [ZcM c] at hb ⊢
 rw [ZcM c] at hbb
 have mN:=Yp (x := s.Name) (by simp) hb
 have mE:=Yp (x := txX s.E) (by simp) hb
 obtain ⟨pe,re⟩:=h.pe (by rw [c];rfl) mE
 rw [Zr]
 simp only [c,pe,ji,cond_true,cond_false,Zn,BEq.rfl]
 erw [YV L [[115,105,103,110,97,108],s.Name,txX s.E] b d (by simp) hbb]
 rfl
theorem ZcN {s:Zl}(c:s.Op=13):Z7 s=[[115,101,110,100],s.Of++(46::s.Name),OA s.Args,[97,102,116,101,114],txX s.E]:=by simp [Z7,c]
theorem Znt {L:Nat}{s:Zl}(h:Txt L s)(c:s.Op=13):ZM L (s,())=some (Lib.join (Z7 s) [32]):=by
 have hb:=h.b
 rw [ZcN c] at hb ⊢
 have mON:=Yp (x := s.Of++(46::s.Name)) (by simp) hb
 have mE:=Yp (x := txX s.E) (by simp) hb
 obtain ⟨pe,re⟩:=h.pe (by rw [c];rfl) mE
 have hz:(s.E.1 != 0)=true:=IG (h.g.e (by rw [c];rfl))
 have mA:=Yp (x := OA s.Args) (by simp) hb
 obtain ⟨pa,ra⟩:=h.pa mA
 simp only [aZ,dB] at mON
 rw [ZY]
 simp only [hz,c,re,ra,ji,cond_true,cond_false,Zn,BEq.rfl]
 clear h hb hz c
 (simp (disch := (((try simp only [aZ,dB,az] at *);omega))) only [Zh,Zn])
 simp [G6,jn1]
theorem Znf {L m:Nat}{s:Zl}{b:List UInt8}{d:Nat}(h:Txt L s)(c:s.Op=13)(hbb:b.length+(ZG d (Lib.join (Z7 s) [32])).length≤4398046511104):Zm L (m+1) (s,()) (b,(d:Int))=some ((),(b++ZG d (Lib.join (Z7 s) [32]),(d:Int))):=by
 have hb:=h.b
 rw [ZcN c] at hb ⊢
 rw [ZcN c] at hbb
 have mON:=Yp (x := s.Of++(46::s.Name)) (by simp) hb
 have mE:=Yp (x := txX s.E) (by simp) hb
 obtain ⟨pe,re⟩:=h.pe (by rw [c];rfl) mE
 have mA:=Yp (x := OA s.Args) (by simp) hb
 obtain ⟨pa,ra⟩:=h.pa mA
 simp only [aZ,dB] at mON
 rw [Zr]
 simp only [c,pe,pa,ji,cond_true,cond_false,Zn,BEq.rfl]
 rw [Zh (by simp;omega),Zh (by simp;omega)]
 simp only [Zn,bJ,kC,gB,bn]
 erw [YV L [[115,101,110,100],s.Of++(46::s.Name),OA s.Args,[97,102,116,101,114],txX s.E] b d (by simp) hbb]
 rfl
theorem ZcO {s:Zl}(c:s.Op=14):Z7 s=[[115,112,97,119,110],s.Name,OA s.Args,[97,102,116,101,114],txX s.E]:=by simp [Z7,c]
theorem Znu {L:Nat}{s:Zl}(h:Txt L s)(c:s.Op=14):ZM L (s,())=some (Lib.join (Z7 s) [32]):=by
 have hb:=h.b
 rw [ZcO c] at hb ⊢
 have mN:=Yp (x := s.Name) (by simp) hb
 have mE:=Yp (x := txX s.E) (by simp) hb
 obtain ⟨pe,re⟩:=h.pe (by rw [c];rfl) mE
 have hz:(s.E.1 != 0)=true:=IG (h.g.e (by rw [c];rfl))
 have mA:=Yp (x := OA s.Args) (by simp) hb
 obtain ⟨pa,ra⟩:=h.pa mA
 rw [ZY]
 simp only [hz,c,re,ra,ji,cond_true,cond_false,Zn,BEq.rfl]
 clear h hb hz c
 (simp (disch := (((try simp only [aZ,dB,az] at *);omega))) only [Zh,Zn])
 simp [G6,jn1]
theorem Zng {L m:Nat}{s:Zl}{b:List UInt8}{d:Nat}(h:Txt L s)(c:s.Op=14)(hbb:b.length+(ZG d (Lib.join (Z7 s) [32])).length≤4398046511104):Zm L (m+1) (s,()) (b,(d:Int))=some ((),(b++ZG d (Lib.join (Z7 s) [32]),(d:Int))):=by
 have hb:=h.b
 rw [ZcO c] at hb ⊢
 rw [ZcO c] at hbb
 have mN:=Yp (x := s.Name) (by simp) hb
 have mE:=Yp (x := txX s.E) (by simp) hb
 obtain ⟨pe,re⟩:=h.pe (by rw [c];rfl) mE
 have mA:=Yp (x := OA s.Args) (by simp) hb
 obtain ⟨pa,ra⟩:=h.pa mA
 rw [Zr]
 simp only [c,pe,pa,ji,cond_true,cond_false,Zn,BEq.rfl]
 erw [YV L [[115,112,97,119,110],s.Name,OA s.Args,[97,102,116,101,114],txX s.E] b d (by simp) hbb]
 rfl
theorem ZcP {s:Zl}(c:s.Op=15):Z7 s=[[111,98,115,101,114,118,101],s.Name,txX s.E]:=by simp [Z7,c]
theorem Znv {L:Nat}{s:Zl}(h:Txt L s)(c:s.Op=15):ZM L (s,())=some (Lib.join (Z7 s) [32]):=by
 have hb:=h.b
 rw [ZcP c] at hb ⊢
 have mN:=Yp (x := s.Name) (by simp) hb
 have mE:=Yp (x := txX s.E) (by simp) hb
 obtain ⟨pe,re⟩:=h.pe (by rw [c];rfl) mE
 have hz:(s.E.1 != 0)=true:=IG (h.g.e (by rw [c];rfl))
 rw [ZY]
 simp only [hz,c,re,ji,cond_true,cond_false,Zn,BEq.rfl]
 clear h hb hz c
 (simp (disch := (((try simp only [aZ,dB,az] at *);omega))) only [Zh,Zn])
 simp [G6,jn1]
theorem Znh {L m:Nat}{s:Zl}{b:List UInt8}{d:Nat}(h:Txt L s)(c:s.Op=15)(hbb:b.length+(ZG d (Lib.join (Z7 s) [32])).length≤4398046511104):Zm L (m+1) (s,()) (b,(d:Int))=some ((),(b++ZG d (Lib.join (Z7 s) [32]),(d:Int))):=by
 have hb:=h.b
 rw [ZcP c] at hb ⊢
 rw [ZcP c] at hbb
 have mN:=Yp (x := s.Name) (by simp) hb
 have mE:=Yp (x := txX s.E) (by simp) hb
 obtain ⟨pe,re⟩:=h.pe (by rw [c];rfl) mE
 rw [Zr]
 simp only [c,pe,ji,cond_true,cond_false,Zn,BEq.rfl]
 erw [YV L [[111,98,115,101,114,118,101],s.Name,txX s.E] b d (by simp) hbb]
 rfl
theorem ZcQ {s:Zl}(c:s.Op=16):Z7 s=[[108,101,118,101,108],s.Name,txX s.E]:=by simp [Z7,c]
theorem Znw {L:Nat}{s:Zl}(h:Txt L s)(c:s.Op=16):ZM L (s,())=some (Lib.join (Z7 s) [32]):=by
 have hb:=h.b
 rw [ZcQ c] at hb ⊢
 have mN:=Yp (x := s.Name) (by simp) hb
 have mE:=Yp (x := txX s.E) (by simp) hb
 obtain ⟨pe,re⟩:=h.pe (by rw [c];rfl) mE
 have hz:(s.E.1 != 0)=true:=IG (h.g.e (by rw [c];rfl))
 rw [ZY]
 simp only [hz,c,re,ji,cond_true,cond_false,Zn,BEq.rfl]
 clear h hb hz c
 (simp (disch := (((try simp only [aZ,dB,az] at *);omega))) only [Zh,Zn])
 simp [G6,jn1]
theorem Zni {L m:Nat}{s:Zl}{b:List UInt8}{d:Nat}(h:Txt L s)(c:s.Op=16)(hbb:b.length+(ZG d (Lib.join (Z7 s) [32])).length≤4398046511104):Zm L (m+1) (s,()) (b,(d:Int))=some ((),(b++ZG d (Lib.join (Z7 s) [32]),(d:Int))):=by
 have hb:=h.b
 rw [ZcQ c] at hb ⊢
 rw [ZcQ c] at hbb
 have mN:=Yp (x := s.Name) (by simp) hb
 have mE:=Yp (x := txX s.E) (by simp) hb
 obtain ⟨pe,re⟩:=h.pe (by rw [c];rfl) mE
 rw [Zr]
 simp only [c,pe,ji,cond_true,cond_false,Zn,BEq.rfl]
 erw [YV L [[108,101,118,101,108],s.Name,txX s.E] b d (by simp) hbb]
 rfl
theorem ZcR {s:Zl}(c:s.Op=17):Z7 s=[[97,100,100],s.Name,txX s.E]:=by simp [Z7,c]
theorem Znx {L:Nat}{s:Zl}(h:Txt L s)(c:s.Op=17):ZM L (s,())=some (Lib.join (Z7 s) [32]):=by
 have hb:=h.b
 rw [ZcR c] at hb ⊢
 have mN:=Yp (x := s.Name) (by simp) hb
 have mE:=Yp (x := txX s.E) (by simp) hb
 obtain ⟨pe,re⟩:=h.pe (by rw [c];rfl) mE
 have hz:(s.E.1 != 0)=true:=IG (h.g.e (by rw [c];rfl))
 rw [ZY]
 simp only [hz,c,re,ji,cond_true,cond_false,Zn,BEq.rfl]
 clear h hb hz c
 (simp (disch := (((try simp only [aZ,dB,az] at *);omega))) only [Zh,Zn])
 simp [G6,jn1]
theorem Znj {L m:Nat}{s:Zl}{b:List UInt8}{d:Nat}(h:Txt L s)(c:s.Op=17)(hbb:b.length+(ZG d (Lib.join (Z7 s) [32])).length≤4398046511104):Zm L (m+1) (s,()) (b,(d:Int))=some ((),(b++ZG d (Lib.join (Z7 s) [32]),(d:Int))):=by
 have hb:=h.b
 rw [ZcR c] at hb ⊢
 rw [ZcR c] at hbb
 have mN:=Yp (x := s.Name) (by simp) hb
 have mE:=Yp (x := txX s.E) (by simp) hb
 obtain ⟨pe,re⟩:=h.pe (by rw [c];rfl) mE
 rw [Zr]
 simp only [c,pe,ji,cond_true,cond_false,Zn,BEq.rfl]
 erw [YV L [[97,100,100],s.Name,txX s.E] b d (by simp) hbb]
 rfl
theorem ZcS {s:Zl}(c:s.Op=18):Z7 s=[[115,116,111,112]]:=by simp [Z7,c]
theorem Zny {L:Nat}{s:Zl}(h:Txt L s)(c:s.Op=18):ZM L (s,())=some (Lib.join (Z7 s) [32]):=by
 have hb:=h.b
 rw [ZcS c] at hb ⊢
 have hz:(s.E.1 != 0)=false:=by simp [h.g.e0 (by rw [c];rfl)]
 rw [ZY]
 simp only [hz,c,ji,cond_true,cond_false,Zn,BEq.rfl]
 clear h hb hz c
 simp [jn1]
theorem Znk {L m:Nat}{s:Zl}{b:List UInt8}{d:Nat}(h:Txt L s)(c:s.Op=18)(hbb:b.length+(ZG d (Lib.join (Z7 s) [32])).length≤4398046511104):Zm L (m+1) (s,()) (b,(d:Int))=some ((),(b++ZG d (Lib.join (Z7 s) [32]),(d:Int))):=by
 have hb:=h.b
 rw [ZcS c] at hb ⊢
 rw [ZcS c] at hbb
 rw [Zr]
 simp only [c,ji,cond_true,cond_false,Zn,BEq.rfl]
 erw [YV L [[115,116,111,112]] b d (by simp) hbb]
 rfl
theorem Zkz {L:Nat}{s:Zl}(h:Txt L s)(h3:s.Op≠3)(h4:s.Op≠4):ZM L (s,())=some (Lib.join (Z7 s) [32]):=by
 have ho:=h.g.op
 have cs:s.Op=1∨s.Op=2∨s.Op=5∨s.Op=6∨s.Op=7∨s.Op=8∨s.Op=9∨s.Op=10∨s.Op=11∨s.Op=12∨s.Op=13∨s.Op=14∨s.Op=15∨s.Op=16∨s.Op=17∨s.Op=18:=by omega
 rcases cs with c|c|c|c|c|c|c|c|c|c|c|c|c|c|c|c
 ·exact Zow h c
 ·exact Zox h c
 ·exact Zoy h c
 ·cases hf:s.Flag with
  |true=>exact Znz h c hf
  |false=>exact Zn0 h c hf
 ·exact Zoz h c
 ·exact Zo0 h c
 ·exact Zo1 h c
 ·exact Znq h c
 ·exact Znr h c
 ·exact Zns h c
 ·exact Znt h c
 ·exact Znu h c
 ·exact Znv h c
 ·exact Znw h c
 ·exact Znx h c
 ·exact Zny h c
theorem Zkr {L m:Nat}{s:Zl}{b:List UInt8}{d:Nat}(h:Txt L s)(h3:s.Op≠3)(h4:s.Op≠4)(hbb:b.length+(ZG d (Lib.join (Z7 s) [32])).length≤4398046511104):Zm L (m+1) (s,()) (b,(d:Int))=some ((),(b++ZG d (Lib.join (Z7 s) [32]),(d:Int))):=by
 have ho:=h.g.op
 have cs:s.Op=1∨s.Op=2∨s.Op=5∨s.Op=6∨s.Op=7∨s.Op=8∨s.Op=9∨s.Op=10∨s.Op=11∨s.Op=12∨s.Op=13∨s.Op=14∨s.Op=15∨s.Op=16∨s.Op=17∨s.Op=18:=by omega
 rcases cs with c|c|c|c|c|c|c|c|c|c|c|c|c|c|c|c
 ·exact Zop h c hbb
 ·exact Zoq h c hbb
 ·exact Zor h c hbb
 ·cases hf:s.Flag with
  |true=>exact Znl h c hf hbb
  |false=>exact Znm h c hf hbb
 ·exact Zos h c hbb
 ·exact Zot h c hbb
 ·exact Zou h c hbb
 ·exact Znc h c hbb
 ·exact Znd h c hbb
 ·exact Zne h c hbb
 ·exact Znf h c hbb
 ·exact Zng h c hbb
 ·exact Znh h c hbb
 ·exact Zni h c hbb
 ·exact Znj h c hbb
 ·exact Znk h c hbb
def Zb8 (w:List UInt8)(e:Zt)(tb:List UInt8)(eb:Bool)(te:List UInt8)(d:Nat):List UInt8 :=
 ZG d (Lib.join [w,txX e] [32])++(tb++(if eb=true then ZG d [101,110,100] else ZG d [101,108,115,101]++(te++ZG d [101,110,100])))
mutual
def stX:Zl→Nat→List UInt8
 |⟨op,nm,of,e,f,args,dist,flag,body,els⟩,d =>
  if op=3 then Zb8 [105,102] e (Qc body (d+1)) els.isEmpty (Qc els (d+1)) d
  else if op=4 then Zb8 [119,104,105,108,101] e (Qc body (d+1)) els.isEmpty (Qc els (d+1)) d
  else ZG d (Lib.join (Z7 ⟨op,nm,of,e,f,args,dist,flag,body,els⟩) [32])
def Qc:List Zl→Nat→List UInt8
 | [],_=>[]
 |x::l,d=>stX x d++Qc l d
end
theorem ZkT (s:Zl)(d:Nat):stX s d=if s.Op=3 then Zb8 [105,102] s.E (Qc s.Body (d+1)) s.Else.isEmpty (Qc s.Else (d+1)) d else if s.Op=4 then Zb8 [119,104,105,108,101] s.E (Qc s.Body (d+1)) s.Else.isEmpty (Qc s.Else (d+1)) d else ZG d (Lib.join (Z7 s) [32]):=by cases s;rw [stX]
theorem ZcC (d:Nat):∀l m:List Zl,Qc (l++m) d=Qc l d++Qc m d
 | [],m=>by rw [Qc];rfl
 |x::l,m=>by rw [gB,Qc,Qc,ZcC d l m];simp
theorem ZgI {d:Nat}:∀{l:List Zl} {x:Zl},x∈l→(stX x d).length≤(Qc l d).length
 |y::l,x,h=>by
  rw [Qc,aZ]
  rcases gZ.1 h with rfl|h
  ·omega
  ·have:=ZgI (d := d) h;omega
theorem Pi (d:Nat){l:List Zl}{i:Nat}{x:Zl}(h:l[i]? = some x):Qc (l.take (i+1)) d=Qc (l.take i) d++stX x d:=by
 rw [take_succ' h,ZcC];simp [Qc]
theorem ZgH (d:Nat)(l:List Zl)(i:Nat):(Qc (l.take i) d).length≤(Qc l d).length:=by
 have:=congrArg iM (congrArg (fun l=>Qc l d) (jC i l))
 simp only [ZcC,aZ] at this
 omega
theorem Zig {s:Zl}(h:Zlq s=0):Zdz s=0∧WR s.Body=0∧WR s.Else=0:=by
 rw [ZeB] at h
 by_cases c:Zdz s=0
 ·rw [if_neg (by simp [c])] at h
  by_cases c2:WR s.Body=0
  ·rw [if_neg (by simp [c2])] at h
   exact ⟨c,c2,h⟩
  ·rw [if_pos (by simp [c2])] at h;exact absurd h c2
 ·rw [if_pos (by simp [c])] at h;exact absurd h c
theorem ZeC:∀{l:List Zl},WR l=0→∀x∈l,Zlq x=0
 |y::l,h,x,hx=>by
  rw [WR] at h
  by_cases c:Zlq y=0
  ·rw [if_neg (by simp [c])] at h
   rcases gZ.1 hx with rfl|hx
   ·exact c
   ·exact ZeC h x hx
  ·rw [if_pos (by simp [c])] at h;exact absurd h c
theorem Zjy {d:Nat}(h:d≤4398046511104):IntKind.i64.wrap ((d:Int)+1)=((d+1:Nat):Int):=by rw [ZaH (by omega) (by omega)];rfl
theorem Zmp {d:Nat}(h:d≤4398046511104):IntKind.i64.wrap (((d+1:Nat):Int) - 1)=(d:Int):=by rw [ZaH (by omega) (by omega)];omega
theorem Zdm {α:Type}(l:List α):decide ((l.length:Int)>0)=!l.isEmpty:=by cases l<;>simp
theorem ZlC {L m:Nat}{s:Zl}{w b:List UInt8}{d:Nat}(he:ZP L (s.E,())=some (txX s.E))
  (hB:∀b':List UInt8,b'.length+(Qc s.Body (d+1)).length≤4398046511104→ZU L m (s.Body,()) (b',((d+1:Nat):Int))=some ((),(b' ++ Qc s.Body (d+1),((d+1:Nat):Int))))
  (hE:s.Else.isEmpty=false→∀b':List UInt8,b'.length+(Qc s.Else (d+1)).length≤4398046511104→ZU L m (s.Else,()) (b',((d+1:Nat):Int))=some ((),(b' ++ Qc s.Else (d+1),((d+1:Nat):Int))))
  (hbb:b.length+(Zb8 w s.E (Qc s.Body (d+1)) s.Else.isEmpty (Qc s.Else (d+1)) d).length≤4398046511104) :
  Yz L (m+1) (w,s,()) (b,(d:Int))=some ((),(b++Zb8 w s.E (Qc s.Body (d+1)) s.Else.isEmpty (Qc s.Else (d+1)) d,(d:Int))):=by
 unfold Zb8 at hbb ⊢
 rw [aZ,aZ] at hbb
 have hl0:=ZC d (Lib.join [w,txX s.E] [32])
 have hl1:=ZC d [101,110,100];have hl2:=ZC d [101,108,115,101]
 simp only [dB,az] at hl1 hl2
 have hd:d≤4398046511104:=by omega
 rw [Gl]
 simp only [he,Zn]
 rw [YV L [w,txX s.E] b d (by simp) (by omega)]
 simp only [Zn,Zjy hd]
 rw [hB _ (by rw [aZ];omega)]
 simp only [Zn,Zmp hd,Zdm]
 cases hem:s.Else.isEmpty with
 |true =>
  simp only [hem,if_true] at hbb
  have e1:=YV L [[101,110,100]] (b++ZG d (Lib.join [w,txX s.E] [32])++Qc s.Body (d+1)) d (by simp) (by rw [jn1];simp only [aZ];omega)
  rw [jn1] at e1
  simp only [fF,cond_false,e1,Zn,if_true]
  simp
 |false =>
  simp only [hem,aK,if_false,aZ] at hbb
  have e1:=YV L [[101,108,115,101]] (b++ZG d (Lib.join [w,txX s.E] [32])++Qc s.Body (d+1)) d (by simp) (by rw [jn1];simp only [aZ];omega)
  rw [jn1] at e1
  have e2:=hE hem (b++ZG d (Lib.join [w,txX s.E] [32])++Qc s.Body (d+1)++ZG d [101,108,115,101]) (by simp only [aZ];omega)
  have e3:=YV L [[101,110,100]] (b++ZG d (Lib.join [w,txX s.E] [32])++Qc s.Body (d+1)++ZG d [101,108,115,101]++Qc s.Else (d+1)) d (by simp) (by rw [jn1];simp only [aZ];omega)
  rw [jn1] at e3
  simp only [ja,cond_true,e1,Zn,Zjy hd,e2,Zmp hd,e3,aK,if_false]
  simp
theorem Zls {s:Zl}(g:Good s)(c:s.Op=4):s.Else=[]:=g.other (by rw [c];rfl)
theorem ZbZ (L:Nat)(h1:1001≤L):∀(m:Nat) (l:List Zl) (b:List UInt8) (d:Nat),ZaI l→WR l=0→(Qc l d).length≤2199023255552→b.length+(Qc l d).length≤4398046511104→3*SizeOf.sizeOf l≤m→m≤L →
  ZU L m (l,()) (b,(d:Int))=some ((),(b++Qc l d,(d:Int)))
 |0,l,_,_,_,_,_,_,h,_=>absurd h (by have:=Zjo l;omega)
 |1,l,_,_,_,_,_,_,h,_=>absurd h (by have:=Zjo l;omega)
 |2,l,_,_,_,_,_,_,h,_=>absurd h (by have:=Zjo l;omega)
 |m+3,l,b,d,ok,hc,hb,hbb,hs,hm=>by
  have hl:=ok.1;have hls:=Z4 l
  have step:∀x∈l,∀b':List UInt8,b'.length+(stX x d).length≤4398046511104→Zm L (m+2) (x,()) (b',(d:Int))=some ((),(b' ++ stX x d,(d:Int))):=fun x hx b' hb'=>by
   obtain ⟨o1,o2,o3⟩:=Zig (ZeC hc x hx)
   obtain ⟨ox,oB,oE⟩:=ok.s hx
   have g:=Ziu o1
   have hz:=ZgL x;have hzx:=jR hx
   have hxl:=ZgI (d := d) hx
   rw [ZkT] at hb' hxl ⊢
   have blk:∀(w:List UInt8),(JH x.Op).1.e=true→(Zb8 w x.E (Qc x.Body (d+1)) x.Else.isEmpty (Qc x.Else (d+1)) d).length≤2199023255552→b'.length+(Zb8 w x.E (Qc x.Body (d+1)) x.Else.isEmpty (Qc x.Else (d+1)) d).length≤4398046511104 →
     Yz L (m+1) (w,x,()) (b',(d:Int))=some ((),(b' ++ Zb8 w x.E (Qc x.Body (d+1)) x.Else.isEmpty (Qc x.Else (d+1)) d,(d:Int))):=fun w he hw1 hw2=>by
    have hk:=hw1
    unfold Zb8 at hk
    rw [aZ,aZ,ZC] at hk
    have hE:=Dz [32] (a := [w,txX x.E]) (x := txX x.E) (by simp)
    refine ZlC (Zg6 L x.E ox.E (g.e he) (by omega) (by omega)) (fun b2 hb2=>ZbZ L h1 m x.Body b2 (d+1) oB o2 (by omega) hb2 (by omega) (by omega)) (fun hem b2 hb2=>ZbZ L h1 m x.Else b2 (d+1) oE o3 ?_ hb2 (by omega) (by omega)) hw2
    rw [hem] at hk
    simp only [aK,if_false,aZ] at hk
    omega
   by_cases c3:x.Op=3
   ·simp only [c3,if_true] at hb' hxl ⊢
    rw [Zr]
    simp only [c3,ji,cond_true,cond_false,BEq.rfl]
    rw [blk [105,102] (by rw [c3];rfl) (by omega) hb']
    rfl
   by_cases c4:x.Op=4
   ·simp only [c4,jh,if_false,if_true] at hb' hxl ⊢
    rw [Zr]
    simp only [c4,ji,cond_true,cond_false,BEq.rfl]
    rw [blk [119,104,105,108,101] (by rw [c4];rfl) (by omega) hb']
    rfl
   ·simp only [c3,c4,if_false] at hb' hxl ⊢
    have hk:=hxl
    rw [ZC] at hk
    exact Zkr ⟨ox,g,by omega,h1,by omega⟩ c3 c4 hb'
  rw [Gp]
  have lp:loopT (YX (m+2) l L) L (0,(b,(d:Int)),())=some ((),(b++Qc l d,(d:Int)),()):=by
   refine loopK l (fun (s:List UInt8×Int) i=>(i,s,())) (fun i s=>s=(b++Qc (l.take i) d,(d:Int))) _ (fun self s i x hP hx hi mem e'=>?_) (fun self s hP=>?_) L 0 _ (by simp [Qc]) (eG _) (by omega)
   ·subst hP
    have hk:=ZgH d l (i+1)
    rw [Pi d hx,aZ] at hk
    rw [YX]
    simp only [Zg hi,cond_true,Zf,hx,Zn,wrap_succ hi (by omega)]
    rw [step x mem _ (by rw [aZ];omega)]
    simp only [Zn]
    exact e' _ (by rw [Pi d hx];simp)
   ·rw [jl] at hP
    subst hP
    rw [YX]
    simp only [Zd,cond_false]
  rw [lp];rfl
theorem jn2 (a b:List UInt8):Lib.join [a,b] [32]=a++(32::b):=by rw [G6,jn1];rfl
theorem Fg (L:Nat)(h1:1001≤L):∀(m:Nat) (l:List Zl) (d:Nat),ZaI l→WR l=0→(Qc l d).length≤2199023255552→3*SizeOf.sizeOf l≤L→d+SizeOf.sizeOf l≤L→SizeOf.sizeOf l≤m→m≤L →
  Qk L m (l,(d:Int),())=some (Qc l d)
 |0,l,_,_,_,_,_,_,h,_=>absurd h (by have:=Zjo l;omega)
 |m+1,l,d,ok,hc,hb,hL,hd,hs,hm=>by
  have hl:=ok.1;have hls:=Z4 l
  rw [Zf3]
  refine Gi (f := Va m l (d:Int) L) l (fun i t=>t=Qc (l.take i) d) _ (by omega) [] (by simp [Qc]) (fun self t i x hP hx hi mem e'=>?_) (fun self t hP=>?_)
  ·subst hP
   have hk:=ZgH d l (i+1)
   rw [Pi d hx,aZ] at hk
   have e':self (Qc (l.take i) d++stX x d,(i:Int)+1,())=some (Qc l d):=e' _ (by rw [Pi d hx])
   generalize Qc (l.take i) d=T at hk e' ⊢
   obtain ⟨o1,o2,o3⟩:=Zig (ZeC hc x mem)
   obtain ⟨ox,oB,oE⟩:=ok.s mem
   have g:=Ziu o1
   have hz:=ZgL x;have hzx:=jR mem
   have hw:=wrap_succ hi (by omega)
   have hxl:(stX x d).length≤2199023255552:=by omega
   have hT:T.length≤2199023255552:=by omega
   rw [ZkT] at e' hxl
   have hln:decide ((i:Int)<(l.length:Int))=true:=Zg hi
   have blk:∀(w:List UInt8),(JH x.Op).1.e=true→(Zb8 w x.E (Qc x.Body (d+1)) x.Else.isEmpty (Qc x.Else (d+1)) d).length≤2199023255552 →
     d≤4398046511104∧(ZG d (w++(32::txX x.E))).length≤2199023255552∧(Qc x.Body (d+1)).length≤2199023255552∧(x.Else.isEmpty=false→(Qc x.Else (d+1)).length≤2199023255552)∧QG L (x.E,())=some (txX x.E)∧(txX x.E).length≤2199023255552 ∧
     Zu L ((d:Int),w++(32::txX x.E),())=some (ZG d (w++(32::txX x.E)))∧Qk L m (x.Body,((d+1:Nat):Int),())=some (Qc x.Body (d+1)) ∧
     (x.Else.isEmpty=false→Qk L m (x.Else,((d+1:Nat):Int),())=some (Qc x.Else (d+1)))∧Zu L ((d:Int),[101,110,100],())=some (ZG d [101,110,100])∧Zu L ((d:Int),[101,108,115,101],())=some (ZG d [101,108,115,101]):=fun w he hw1=>by
    unfold Zb8 at hw1
    rw [aZ,aZ,ZC,jn2,aZ,dB] at hw1
    have k1:=ZC d (w++(32::txX x.E));have k2:=ZC d [101,110,100];have k3:=ZC d [101,108,115,101]
    rw [aZ,dB] at k1
    simp only [dB,az] at k2 k3
    have hEl:x.Else.isEmpty=false→(Qc x.Else (d+1)).length≤2199023255552:=fun hem=>by
     rw [hem] at hw1
     simp only [aK,if_false,aZ] at hw1
     omega
    exact ⟨by omega,by omega,by omega,hEl,ZeY L x.E ox.E (g.e he) (by omega) (by omega),by omega,Qn L d _ (by omega) (by omega),
     Fg L h1 m x.Body (d+1) oB o2 (by omega) (by omega) (by omega) (by omega) (by omega),fun hem=>Fg L h1 m x.Else (d+1) oE o3 (hEl hem) (by omega) (by omega) (by omega) (by omega),Qn L d _ (by omega) (by omega),Qn L d _ (by omega) (by omega)⟩
   by_cases c3:x.Op=3
   ·simp only [c3,if_true] at e' hxl
    obtain ⟨b1,b2,b3,b4,b5,b5',b6,b7,b8,b9,b10⟩:=blk [105,102] (by rw [c3];rfl) hxl
    have l2:=ZC d [101,110,100];have l3:=ZC d [101,108,115,101]
    simp only [dB,az] at l2 l3
    rw [Va]
    simp only [hln,cond_true,Zf,hx,Zn,c3,BEq.rfl,b5,hw,Zjy b1,b7,b9,Zdm]
    rw [Zh (by simp only [dB,az];omega),show ([105,102,32]++txX x.E:List UInt8)=[105,102]++(32::txX x.E) from rfl,b6]
    simp only [Zn]
    rw [Zh (by omega),Zh (by rw [aZ];omega)]
    cases hem:x.Else.isEmpty with
    |true =>
     simp only [fF,cond_false]
     rw [Zh (by first|omega|(simp only [aZ];omega))]
     rw [← e']
     unfold Zb8
     rw [hem,jn2]
     simp
    |false =>
     have h4:=b4 hem
     simp only [ja,cond_true,b10,b8 hem,Zn]
     rw [Zh (by first|omega|(simp only [aZ];omega)),Zh (by first|omega|(simp only [aZ];omega)),Zh (by first|omega|(simp only [aZ];omega))]
     rw [← e']
     unfold Zb8
     rw [hem,jn2]
     simp
   by_cases c4:x.Op=4
   ·simp only [c4,jh,if_false,if_true] at e' hxl
    obtain ⟨b1,b2,b3,b4,b5,b5',b6,b7,b8,b9,b10⟩:=blk [119,104,105,108,101] (by rw [c4];rfl) hxl
    have l2:=ZC d [101,110,100]
    simp only [dB,az] at l2
    rw [Va]
    simp only [hln,cond_true,cond_false,Zf,hx,Zn,c4,ji,BEq.rfl,b5,hw,Zjy b1,b7,b9]
    rw [Zh (by simp only [dB,az];omega),show ([119,104,105,108,101,32]++txX x.E:List UInt8)=[119,104,105,108,101]++(32::txX x.E) from rfl,b6]
    simp only [Zn]
    rw [Zh (by first|omega|(simp only [aZ];omega)),Zh (by first|omega|(simp only [aZ];omega)),Zh (by first|omega|(simp only [aZ];omega))]
    rw [← e']
    unfold Zb8
    rw [Zls g c4,jn2]
    simp
   ·simp only [c3,c4,if_false] at e' hxl
    have hk2:=hxl
    rw [ZC] at hk2
    have hs2:=Zkz (L := L) (s := x) ⟨ox,g,by omega,h1,by omega⟩ c3 c4
    rw [Va]
    simp only [hln,cond_true,Zf,hx,Zn,ZQ,c3,c4,decide_false,cond_false,hs2,hw]
    rw [Qn L d _ (by omega) (by omega),Zn,Zh (by omega)]
    exact e'
  ·rw [jl] at hP
   subst hP
   rw [Va]
   simp only [Zd,cond_false]
theorem PU {τ α σ ρ:Type}{f:(τ→Option ρ)→τ→Option ρ}(l:List α)(pk:σ→Int→τ)
  (h1:∀self s (i:Nat) x,l[i]? = some x→i<l.length→x∈l→(∀s',∃r,self (pk s' ((i:Int)+1))=some r)→∃r,f self (pk s i)=some r)
  (h2:∀self s,∃r,f self (pk s (l.length:Nat))=some r):∀(m i:Nat) (s:σ),i≤l.length→l.length - i<m→∃r,loopT f m (pk s i)=some r
 |0,_,_,_,h=>absurd h (gz _)
 |m+1,i,s,hi,hm=>by
  show ∃r,f (loopT f m) (pk s i)=some r
  rcases dJ i l.length with hlt|hge
  ·exact h1 _ s i _ (bG hlt) hlt (bZ hlt) fun s'=>PU l pk h1 h2 m (i+1) s' hlt (by omega)
  ·have:i=l.length:=by omega
   subst this
   exact h2 _ s
theorem Zfb (L:Nat):∀(m:Nat) (l:List Zl),ZaI l→SizeOf.sizeOf l≤m→m≤L→∃n,UR L m (l,())=some n
 |0,l,_,h,_=>absurd h (by have:=Zjo l;omega)
 |m+1,l,ok,hs,hm=>by
  have hl:=ok.1;have hls:=Z4 l
  rw [Zhw]
  refine PU (f := Hf m l L) l (fun (s:Int) i=>(s,i,())) (fun self s i x hx hi mem e'=>?_) (fun self s=>?_) L 0 0 (eG _) (by omega)
  ·obtain ⟨ox,oB,oE⟩:=ok.s mem
   have hz:=ZgL x;have hzx:=jR mem;have hA:=Z4 x.Args
   obtain ⟨nB,hB⟩:=Zfb L m x.Body oB (by omega) (by omega)
   obtain ⟨nE,hE⟩:=Zfb L m x.Else oE (by omega) (by omega)
   have h1:Qz L (x.E,())=_:=OH L L x.E ox.E (by omega) (dI _)
   have h2:Qz L (x.F,())=_:=OH L L x.F ox.F (by omega) (dI _)
   rw [Hf]
   simp only [Zg hi,cond_true,Zf,hx,Zn,h1,h2,hB,hE]
   refine PU (f := He L self (s,(i:Int),()) x) x.Args (fun (s:Int) i=>(s,i,())) (fun self2 s2 i2 x2 hx2 hi2 mem2 e2=>?_) (fun self2 s2=>?_) L 0 _ (eG _) (by omega)
   ·have h3:Qz L (x2,())=_:=OH L L x2 (ox.Args.2 x2 mem2) (by have:=ZnE mem2;omega) (dI _)
    rw [He]
    simp only [Zg hi2,cond_true,Zf,hx2,Zn,h3,wrap_succ hi2 (by have:=ox.a;omega)]
    exact e2 _
   ·rw [He]
    simp only [Zd,cond_false,wrap_succ hi (by omega)]
    exact e' _
  ·rw [Hf]
   simp only [Zd,cond_false]
   exact ⟨_,rfl⟩
theorem Zk4 (L:Nat)(l:List Zl)(ok:ZaI l)(hL:SizeOf.sizeOf l≤L):∃n,Np L (l,())=some n:=Zfb L L l ok hL (dI _)
theorem Zif {l:List Zl}(h:LC l=0):WR l=0:=by
 unfold LC at h
 split at h
 ·cases h
 split at h
 ·cases h
 exact h
theorem ZgG (L:Nat)(s:List UInt8):XT L (s,())=some (if decide ((s.length:Int)>20000)=true then ([],6,()) else (s,0,())):=by
 rw [Zf1];cases decide ((s.length:Int)>20000)<;>rfl
open Go Go.RowKit Abs Tl
mutual
def bkA:AV→Nat
 |.str s=>s.length+1
 |.lst _ rows=>bkR rows+1
 |_=>1
def bkL:List AV→Nat
 | []=>0
 |a::l=>bkA a+bkL l
def bkR:List (List AV)→Nat
 | []=>0
 |r::l=>bkL r+bkR l
end
theorem Zb7:∀a b:List AV,bkL (a++b)=bkL a+bkL b
 | [],b=>by rw [bkL];simp
 |x::a,b=>by rw [gB,bkL,bkL,Zb7 a b,Nat.add_assoc]
theorem Zgj {H:Type}:∀(fs:List Field) (cs:List AV) (P:Program) (D:Nat→DataW H) (k o n:Nat),Zjp P fs o n=true→cs.length=n→o≤n→(∀(i:Nat) (f:Field),fs[i]? = some f→bkL ((cs.drop f.offset).take (P.cellsOf f.type))≤Rows.uptoBulk (D (k+i)))→bkL (cs.drop o)≤Rows.uptoBulkAll ((ah fs.length).map fun i=>D (k+i))
 | [],cs,P,D,k,o,n,ht,hl,ho,h=>by
  have:o=n:=by simpa [Zjp] using ht
  subst this
  rw [← hl,jc];simp [bkL,Rows.uptoBulkAll]
 |f::fs,cs,P,D,k,o,n,ht,hl,ho,h=>by
  simp only [Zjp,fG,beq_iff_eq] at ht
  obtain ⟨rfl,ht⟩:=ht
  have hle:f.offset+P.cellsOf f.type≤n:=by
   have:∀(fs:List Field) (o:Nat),Zjp P fs o n=true→o≤n:=by
    intro fs
    induction fs with
    |nil =>
     intro o h;have:o=n:=by simpa [Zjp] using h
     omega
    |cons g fs ih =>
     intro o h
     simp only [Zjp,fG,beq_iff_eq] at h
     have:=ih _ h.2
     omega
   exact this fs _ ht
  have ih:=Zgj fs cs P D (k+1) (f.offset+P.cellsOf f.type) n ht hl hle fun i g hg=>by
   have:=h (i+1) g (by simpa using hg)
   rwa [show k+(i+1)=k+1+i by omega] at this
  have h0:=h 0 f rfl
  rw [dB,kD,cO,iO,Rows.uptoBulkAll]
  have e:cs.drop f.offset=(cs.drop f.offset).take (P.cellsOf f.type)++cs.drop (f.offset+P.cellsOf f.type):=by rw [← List.drop_drop,jC]
  rw [e,Zb7]
  refine Nat.add_le_add h0 (dK ih (Nat.le_of_eq ?_))
  congr 1
  refine iP fun i _=>?_
  show D (k+1+i)=D (k+(i+1))
  rw [show k+1+i=k+(i+1) by omega]
theorem Zde {H:Type}:∀(rows:List (List AV)) (D:Nat→DataW H) (k:Nat),(∀(i:Nat) r,rows[i]? = some r→bkL r≤Rows.uptoBulk (D (k+i)))→bkR rows≤Rows.uptoBulkAll ((ah rows.length).map fun i=>D (k+i))
 | [],_,_,_=>by simp [bkR]
 |r::rows,D,k,h=>by
  have ih:=Zde rows D (k+1) fun i g hg=>by
   have:=h (i+1) g (by simpa using hg)
   rwa [show k+(i+1)=k+1+i by omega] at this
  rw [dB,kD,cO,iO,Rows.uptoBulkAll,bkR]
  refine Nat.add_le_add (h 0 r rfl) (dK ih (Nat.le_of_eq ?_))
  congr 1
  refine iP fun i _=>?_
  show D (k+1+i)=D (k+(i+1))
  rw [show k+1+i=k+(i+1) by omega]
theorem Zk2 {H:Type}{P:Program}{S:List TypeId}(hS:Zkb P S=true){t:TypeId}{cs:List AV}{d:DataW H}(h:Og P t cs d):S.contains t=true→bkL cs≤Rows.uptoBulk d:=by
 induction h with
 |bool t b hu=>intro _;simp [bkL,bkA,Rows.uptoBulk]
 |int t k x hu hw=>intro _;simp [bkL,bkA,Rows.uptoBulk]
 |str t s hu hl=>intro _;simp [bkL,bkA,Rows.uptoBulk]
 |nil t e hu=>intro _;simp [bkL,bkA,bkR,Rows.uptoBulk]
 |slice t e rows D spare hu hl h ih =>
  intro ht
  have:=aQ.1 hS t (jq.1 ht)
  rw [hu] at this
  simp only [fG] at this
  have hr:=Zde rows D 0 fun i r hr=>by rw [dR];exact ih i r hr this.2
  simp only [dR] at hr
  simp only [bkL,bkA,Rows.uptoBulk,Nat.add_zero]
  have e:(ah rows.length).map (fun i=>D i)=(ah rows.length).map D:=rfl
  rw [e] at hr
  omega
 |struct t fs cs D hu hl h ih =>
  intro ht
  have:=aQ.1 hS t (jq.1 ht)
  rw [hu] at this
  simp only [fG] at this
  have hr:=Zgj fs.toList cs P D 0 0 (P.cellsOf t) this.1 hl (eG _) fun i f hf=>by
   rw [dR]
   exact ih i f hf (aQ.1 this.2 f (aS hf))
  rw [iZ] at hr
  simp only [dR,Array.length_toList] at hr
  have e:(ah fs.size).map (fun i=>D i)=(ah fs.size).map D:=rfl
  rw [e] at hr
  simp only [Rows.uptoBulk]
  omega
theorem Zlk (e:Zt):bkL (VT e)=e.Name.length+bkR (e.Kids.map VT)+4:=by rw [Zct];simp only [bkL,bkA];omega
def sumT:List (Int×List UInt8)→Nat
 | []=>0
 |k::l=>k.2.length+2+sumT l
theorem ZbO:∀l:List (Int×List UInt8),(Lib.join (l.map (·.2)) [44,32]).length≤sumT l
 | []=>by simp [Lib.join,jr,sumT]
 | [x]=>by simp [Lib.join,jr,sumT]
 |x::y::l=>by
  have:=ZbO (y::l)
  rw [cO,cO,Ru,← cO (f := fun (p:Int×List UInt8)=>p.2)]
  simp only [aZ,dB,az]
  rw [sumT]
  omega
theorem ZmB (l:List (Int×List UInt8)):(k0 l).2.length≤sumT l:=by cases l<;>simp [k0,sumT]<;>omega
theorem Zlz (l:List (Int×List UInt8)):(k0 l).2.length+(k1 l).2.length≤sumT l:=by
 match l with
 | []=>simp [k0,k1,sumT]
 | [x]=>simp [k0,k1,sumT]<;>omega
 |x::y::l=>simp [k0,k1,sumT]<;>omega
theorem len_ite {c:Prop}[Decidable c]{x y:List UInt8}{n:Nat}(hx:x.length≤n)(hy:y.length≤n):(if c then x else y).length≤n:=by split<;>assumption
theorem ZjX (o:Int)(a:List UInt8)(n:Int)(ks:List (Int×List UInt8))(hn:bd n):(JW o a n ks).length≤a.length+sumT ks+40:=by
 have h1:=Z9 hn;have h2:=ZbO ks;have h3:=ZmB ks;have h4:=Zlz ks;have h5:=Zjh o
 have p3:=(Xv 3 (k0 ks)).2;have p7:=(Xv 7 (k0 ks)).2
 have q1:=(Xv (if lvX o=4 then 5 else lvX o) (k0 ks)).2;have q2:=(Xv (lvX o+1) (k1 ks)).2
 have hB:(Fb (if lvX o=4 then 5 else lvX o) (k0 ks)++32::(sgX o++32::Fb (lvX o+1) (k1 ks))).length≤a.length+sumT ks+40:=by
  simp only [aZ,dB,az];omega
 unfold JW GK
 generalize Fb (if lvX o=4 then 5 else lvX o) (k0 ks)++32::(sgX o++32::Fb (lvX o+1) (k1 ks))=B at hB
 generalize Lib.join (ks.map (·.2)) [44,32]=J at h2
 generalize Fb 3 (k0 ks)=A3 at p3
 generalize Fb 7 (k0 ks)=A7 at p7
 generalize Lib.itoa n=I at h1
 repeat' refine len_ite ?_ ?_
 all_goals (try simp only [aZ,dB,az])
 all_goals omega
mutual
theorem ZkD:∀e:Zt,Yi e→(txX e).length+2≤50*bkL (VT e)
 |⟨o,a,n,ks⟩,ok=>by
  have h:=Zjr ks ok.Kids.2
  have h1:=ZjX o a n (Zjq ks) ok.N
  rw [Zlk,txX]
  simp only
  omega
theorem Zjr:∀l:List Zt,(∀x∈l,Yi x)→sumT (Zjq l)≤50*bkR (l.map VT)
 | [],_=>by simp [Zjq,sumT]
 |e::l,h=>by
  have h1:=ZkD e (h e (aj ..))
  have h2:=Zjr l fun x hx=>h x (ai _ hx)
  rw [Zjq,sumT,cO,bkR]
  simp only
  omega
end
theorem Ze7:∀l:List Int,l.length≤bkR (ints l)
 | []=>dI _
 |n::l=>by
  have:=Ze7 l
  show l.length+1≤bkL [.int .i64 n]+bkR (ints l)
  simp only [bkL,bkA];omega
theorem Ze6 (d:Yo):d.Values.length+6≤bkL (F8 d):=by
 have:=Ze7 d.Values
 unfold F8
 simp only [bkL,bkA];omega
theorem ZhS (s:Zl):s.Name.length+s.Of.length+bkL (VT s.E)+bkL (VT s.F)+bkR (s.Args.map VT)+bkL (F8 s.Dist)+bkR (s.Body.map VU)+bkR (s.Else.map VU)+7≤bkL (VU s):=by
 rw [Zcv]
 simp only [Zb7,bkL,bkA];omega
theorem ZeD (d:Yo)(ok:X0 d):(dtX d).length≤80+44*d.Values.length:=by
 have hA:bd d.A:=ok.A;have hB:bd d.B:=ok.B;have hN:bd d.N:=ok.N
 have lA:=Z9 hA;have lB:=Z9 hB;have lN:=Z9 hN
 have h4:=CS d.Values d.Weights ok.Values.2 ok.Weights.2
 unfold dtX
 repeat' refine len_ite ?_ ?_
 all_goals simp only [nsX,aZ,dB,az];omega
theorem Zli (l:List Zt)(h:∀x∈l,Yi x):(OA l).length≤2+50*bkR (l.map VT):=by
 have h1:=ZbO (Zjq l);have h2:=Zjr l h
 rw [ZjT] at h1
 unfold OA
 simp only [dB,aZ,az];omega
theorem Zjx (s:Zl)(ok:Ym s):(Lib.join (Z7 s) [32]).length+200≤50*bkL (VU s):=by
 have h1:=ZkD s.E ok.E;have h2:=ZkD s.F ok.F;have h3:=Zli s.Args ok.Args.2;have h4:=ZeD s.Dist ok.Dist;have h5:=Ze6 s.Dist;have h6:=ZhS s
 unfold Z7
 generalize txX s.E=E at h1 ⊢
 generalize txX s.F=F at h2 ⊢
 generalize OA s.Args=A at h3 ⊢
 generalize dtX s.Dist=D at h4 ⊢
 have split':∀{c:Prop} [Decidable c] {x y:List (List UInt8)} {n:Nat},(Lib.join x [32]).length+200≤n→(Lib.join y [32]).length+200≤n→(Lib.join (if c then x else y) [32]).length+200≤n:=by
  intro c _ x y n h1 h2;split<;>assumption
 repeat' refine split' ?_ ?_
 all_goals simp only [G6,jn1,aZ,dB,az];omega
mutual
theorem Zo5:∀(s:Zl) (d:Nat),Ym s→(stX s d).length≤bkL (VU s)*(60+d+bkL (VU s))
 |⟨op,nm,of,e,f,args,dist,flag,body,els⟩,d,ok=>by
  have hB:=ZgK body (d+1) ok.Body.2;have hE:=ZgK els (d+1) ok.Else.2
  have hw:=Zjx _ ok;have hk:=ZhS ⟨op,nm,of,e,f,args,dist,flag,body,els⟩
  have he:=ZkD e ok.E
  rw [stX]
  generalize bkL (VU ⟨op,nm,of,e,f,args,dist,flag,body,els⟩)=n at hw hk ⊢
  simp only at hk
  generalize bkR (body.map VU)=a at hB hk
  generalize bkR (els.map VU)=b at hE hk
  generalize hp:bkL (VT e)=p at he hk
  have blk:∀w:List UInt8,w.length≤5→(Zb8 w e (Qc body (d+1)) els.isEmpty (Qc els (d+1)) d).length≤n*(60+d+n):=fun w hw=>by
   have h0:(Zb8 w e (Qc body (d+1)) els.isEmpty (Qc els (d+1)) d).length≤3*d+30+50*p+(Qc body (d+1)).length+(Qc els (d+1)).length:=by
    unfold Zb8
    rw [aZ,aZ,ZC,jn2]
    have:(if els.isEmpty=true then ZG d [101,110,100] else ZG d [101,108,115,101]++(Qc els (d+1)++ZG d [101,110,100])).length≤2*d+12+(Qc els (d+1)).length:=by
     refine len_ite ?_ ?_
     ·rw [ZC];simp only [dB,az];omega
     ·simp only [aZ,ZC,dB,az];omega
    simp only [aZ,dB]
    omega
   have m1:a*(60+(d+1)+a)≤a*(60+d+n):=kE _ (by omega)
   have m2:b*(60+(d+1)+b)≤b*(60+d+n):=kE _ (by omega)
   have m3:(p+7+a+b)*(60+d+n)≤n*(60+d+n):=Nat.mul_le_mul_right _ (by omega)
   have m4:(p+7+a+b)*(60+d+n)=p*(60+d+n)+7*(60+d+n)+a*(60+d+n)+b*(60+d+n):=by simp only [dV]
   have m5:p*60≤p*(60+d+n):=kE _ (by omega)
   omega
  split
  ·exact blk _ (by simp)
  split
  ·exact blk _ (by simp)
  ·rw [ZC]
   have m:1*(60+d+n)+(n - 1)*60≤n*(60+d+n):=by
    have e:n*(60+d+n)=1*(60+d+n)+(n - 1)*(60+d+n):=by rw [← dV];congr 1;omega
    rw [e]
    have:=kE (n - 1) (show 60≤60+d+n by omega)
    omega
   omega
theorem ZgK:∀(l:List Zl) (d:Nat),(∀x∈l,Ym x)→(Qc l d).length≤bkR (l.map VU)*(60+d+bkR (l.map VU))
 | [],_,_=>by simp [Qc]
 |x::l,d,h=>by
  have h1:=Zo5 x d (h x (aj ..))
  have h2:=ZgK l d fun y hy=>h y (ai _ hy)
  rw [Qc,cO,bkR,aZ]
  generalize bkL (VU x)=a at h1 ⊢
  generalize bkR (l.map VU)=b at h2 ⊢
  have m1:a*(60+d+a)≤a*(60+d+(a+b)):=kE _ (by omega)
  have m2:b*(60+d+b)≤b*(60+d+(a+b)):=kE _ (by omega)
  rw [dV]
  omega
end
theorem Jm (m:ZF):SizeOf.sizeOf m.Name<SizeOf.sizeOf m∧SizeOf.sizeOf m.Params<SizeOf.sizeOf m∧SizeOf.sizeOf m.Sites<SizeOf.sizeOf m∧SizeOf.sizeOf m.Links<SizeOf.sizeOf m:=by cases m;simp;omega
theorem ZlI (L:Nat)(m:ZF)(s:List UInt8)(hl:Len m.Sites)(hL:m.Sites.length<L):J6 L (m,s,())=some (JE (fun d:Za=>decide (d.Name=s)) m.Sites 0):=by
 rw [ZdD,ZeI m.Sites (fun l i=>some (JE (fun d:Za=>decide (d.Name=s)) l i)) hL (fun self i x r hx hi _ e=>by
  rw [GU];simp only [z9,hi,hx,wrap_succ hi (by omega),e,JE];simp only [Y4,XI,if_true,if_false,aK,ne_eq,decide_not,gt_iff_lt,ge_iff_le]) (fun self=>by
  rw [GU];simp only [z9,JE]),Zn]
theorem ZlN (L:Nat)(m:ZF)(s:List UInt8)(hl:Len m.Sites)(hL:m.Sites.length<L):Gz L (m,s,())=some (JE (fun d:Za=>decide (d.Name=s)) m.Sites 0):=by
 rw [Zh1,ZeI m.Sites (fun l i=>some (JE (fun d:Za=>decide (d.Name=s)) l i)) hL (fun self i x r hx hi _ e=>by
  rw [RN];simp only [z9,hi,hx,wrap_succ hi (by omega),e,JE];simp only [Y4,XI,if_true,if_false,aK,ne_eq,decide_not,gt_iff_lt,ge_iff_le]) (fun self=>by
  rw [RN];simp only [z9,JE])]
theorem Zjj (m:ZF)(s:List UInt8):decide (JE (fun d:Za=>decide (d.Name=s)) m.Sites 0<0)=!(m.Sites.map (·.Name)).contains s:=by
 rw [← Dw (fun d:Za=>d.Name) s m.Sites]
 rw [← decide_not];congr 1;exact propext Int.not_le.symm
theorem A8:∀(l:Ze2) (k:List UInt8×List UInt8),hasK MK.pstr l k=l.contains k
 | [],k=>rfl
 |x::l,k=>by
  have ih:=A8 l k
  rw [List.contains_cons,← ih]
  obtain ⟨a,b⟩:=x;obtain ⟨c,d⟩:=k
  rfl
theorem ZhP (l:Ze2)(k:List UInt8×List UInt8)(h:l.contains k=false):addK MK.pstr l k=l++[k]:=by
 unfold addK;rw [A8,h];rfl
theorem ZlX (s:Ze2)(k:List UInt8×List UInt8):(bif s.contains k then some ((4:Int),s,()) else some (0,addK MK.pstr s k,()))=some ((if s.contains k=true then ((4:Int),s) else (0,s++[k])).1,(if s.contains k=true then ((4:Int),s) else (0,s++[k])).2,()):=by
 cases e:s.contains k
 ·rw [ZhP _ _ e];rfl
 ·rfl
theorem Zl4 (m:ZF)(x:IY)(s:Ze2):(bT (bif !(m.Sites.map (·.Name)).contains x.From then some true else some (!(m.Sites.map (·.Name)).contains x.To)) fun y_2=>bif y_2 then some ((5:Int),s,()) else bif decide (x.From=x.To) then some (1,s,()) else bif !btw x.Delay 1 1000000000 then some (2,s,()) else bif s.contains (x.From,x.To) then some (4,s,()) else some (0,addK MK.pstr s (x.From,x.To),()))=some ((ZbQ m x s).1,(ZbQ m x s).2,()):=by
 rw [ZlX,Zgv]
 cases (m.Sites.map (·.Name)).contains x.From<;>cases (m.Sites.map (·.Name)).contains x.To<;>cases decide (x.From=x.To)<;>cases btw x.Delay 1 1000000000<;>rfl
theorem Zkf (L:Nat)(m:ZF)(h:Xu m)(hL:SizeOf.sizeOf m≤L):Ue L (m,())=some (AP m):=by
 have hz:=Jm m;have h1:=Z4 m.Sites;have h2:=Z4 m.Links
 have hl:=h.l
 have lp:=AU (f := Jh m L) m.Links (ZbQ m) (show m.Links.length<L by omega) [] (fun self s i x hx hi mem=>by
  rw [Jh]
  simp only [Zg hi,cond_true,Zf,hx,Zn,ZlI L m _ (show Len m.Sites by unfold Len;omega) (show m.Sites.length<L by omega),Zjj,condC,Vu,ZV,A8,wrap_succ hi (show m.Links.length≤4611686018427387904 by omega)]
  rw [Zl4,Zn,ZI]) (fun self s=>by rw [Jh];simp only [Zd,cond_false])
 rw [Zch,VM 32 (ZbQ m) m.Links [] lp]
 rfl
theorem Zk1 (L:Nat)(m:ZF)(hl:m.Links.length≤4611686018427387)(hL:m.Links.length<L)(self:Int×Int×PUnit→Option Int)(i:Nat)(hi:i<m.Links.length)(x:IY) :
  loopT (Jv m self (0,(i:Int),()) x) L (0,0,())=if ((m.Links.take i).map DR).contains (DR x)=true then some 4 else self (0,(i:Int)+1,()):=by
 have hlen:(m.Links.take i).length=i:=by rw [bU];omega
 have:=ZeJ (f := Jv m self (0,(i:Int),()) x) (m.Links.take i) (fun (_:Unit) k=>((0:Int),k,())) (fun r _=>if (r.map DR).contains (DR x)=true then some 4 else self (0,(i:Int)+1,())) (fun self2 _ k v r hv hk mem e=>by
  have hv':m.Links[k]? = some v:=by
   rw [List.getElem?_take] at hv
   split at hv
   ·exact hv
   ·cases hv
  rw [hlen] at hk
  rw [Jv]
  simp only [show decide ((k:Int)<(i:Int))=true by simpa using hk,cond_true,Zf,hv',Zn,Zv,ZV,ZaH (n := (k:Int)+1) (by omega) (by omega)]
  rw [Zas]
  cases a:decide (v.From=x.From)<;>cases b:decide (v.To=x.To)<;>simp only [cond_true,cond_false,Zn,Zj,Bool.and_true,Bool.and_false,Bool.true_and,jg,Bool.false_or,Bool.true_or,if_true]<;>first|rfl|exact e ()) (fun self2 _=>by
  rw [hlen,Jv]
  simp only [Zd,cond_false,ZaH (n := (i:Int)+1) (by omega) (by omega)]
  rfl) L 0 () (eG _) (by rw [hlen];omega)
 rw [iZ] at this
 exact this
theorem Zkk (L:Nat)(m:ZF)(h:Xu m)(hL:SizeOf.sizeOf m≤L):Ip L (m,())=some (AP m):=by
 have hz:=Jm m;have h1:=Z4 m.Sites;have h2:=Z4 m.Links
 have hl:=h.l
 have lp:loopT (Jw m L) L (0,0,())=some (ZZ (ZbQ m) m.Links []).1:=by
  refine loopK (f := Jw m L) m.Links (fun (_:Unit) i=>((0:Int),i,())) (fun i _=>(ZZ (ZbQ m) m.Links []).1=(ZZ (ZbQ m) (m.Links.drop i) ((m.Links.take i).map DR)).1) _ (fun self _ i x hP hx hi mem e'=>?_) (fun self _ hP=>?_) L 0 () rfl (eG _) (by omega)
  ·have e':=fun h=>e' () h
   rw [jb hi,show m.Links[i]=x from ed ((bG hi).symm.trans hx),ZZ] at hP
   rw [Jw]
   simp only [Zg hi,cond_true,Zf,hx,Zn,ZlN L m _ (by unfold Len;omega) (by omega),Zjj,condC,Vw,ZV]
   rw [Zk1 L m (by omega) (by omega) self i hi x]
   rw [take_succ' hx,gp,List.map_singleton] at e'
   rw [Zgv] at hP
   have hpair:(x.From,x.To)=DR x:=rfl
   rw [hpair] at hP
   generalize ((m.Links.take i).map DR)=S at hP e' ⊢
   cases a:(m.Sites.map (·.Name)).contains x.From<;>cases b:(m.Sites.map (·.Name)).contains x.To<;>cases c:decide (x.From=x.To)<;>cases d:btw x.Delay 1 1000000000<;>cases e:S.contains (DR x) <;>
    simp only [a,b,c,d,e,ja,fF,Bool.or_false,Bool.or_true,Bool.true_or,Bool.false_or,cond_true,cond_false,Zn,if_true,aK,if_false,ne_eq,not_true_eq_false,decide_false] at hP ⊢ <;>
    first
    |exact e' hP
    |(rw [hP];rfl)
  ·rw [jc] at hP
   rw [Jw]
   simp only [Zd,cond_false]
   rw [hP];rfl
 rw [Zfv,lp]
 unfold AP YK
 cases c:decide ((m.Links.length:Int)>32) with
 |true=>rw [cond_true,if_pos (by simpa using c)]
 |false=>rw [cond_false,if_neg (by simpa using c)]
theorem Zoa (L:Nat)(m:ZF)(h:Xu m)(hL:SizeOf.sizeOf m≤L)(s:Seen):loopT (Jg m L) L (0,s,())=some ((ZZ (fun v:Yc=>ZN v.Name (Wu v)) m.Params s).1,(ZZ (fun v:Yc=>ZN v.Name (Wu v)) m.Params s).2,()):=by
 have hz:=Jm m;have hp:=Z4 m.Params
 have hl:=h.l
 refine AU m.Params _ (by omega) s (fun self s i x hx hi mem=>?_) (fun self s=>by rw [Jg];simp only [z9])
 have hm:=Ze0 (fun v:Yc=>v.Name) (fun x=>by cases x;simp;omega) mem
 have hn:=QN L x.Name (by have:=(h.Params.2 x mem).Name;unfold Len;omega) (by omega)
 rw [Jg]
 simp only [Zg,cond_true,Zf,Zn,ZI,Jf,hi,hx,hn]
 simp only [z9,ZbU,ZiH,wrap_succ hi (by omega)]
 simp only [ZN,Wu]
 by_cases a:(Yt x.Name s).1=0<;>rcases jQ (btw x.Ty 1 3) with g|g<;>rcases jQ (fitsT x.Ty x.N) with g' | g' <;> simp [a,g,g']
theorem Zod (L:Nat)(h1:100≤L)(m:ZF)(h:Xu m)(hL:SizeOf.sizeOf m≤L)(P s:Seen):loopT (Q7 m L) L (0,P,s,())=some ((ZZ (fun d:Za=>ZN d.Name (Oe d)) m.Sites s).1,P,(ZZ (fun d:Za=>ZN d.Name (Oe d)) m.Sites s).2,()):=by
 have hz:=Jm m;have hp:=Z4 m.Sites
 have hl:=h.l
 refine ZeJ (f := Q7 m L) m.Sites (fun (s:Seen) i=>(i,P,s,())) (fun l s=>some ((ZZ (fun d:Za=>ZN d.Name (Oe d)) l s).1,P,(ZZ (fun d:Za=>ZN d.Name (Oe d)) l s).2,())) (fun self s i x r hx hi mem e=>?_) (fun self s=>by rw [Q7];simp only [z9];rfl) L 0 s (eG _) (by omega)
 have hm:=Ze0 (fun v:Za=>v.Name) (fun x=>(Wh x).1) mem
 have ok:=h.Sites.2 x mem
 have hn:=QN L x.Name (by have:=ok.Name;unfold Len;omega) (by omega)
 have hs:=Zna L h1 x ok (by have:=ZoG mem;omega)
 rw [Q7]
 simp only [Zg,cond_true,Zf,Zn,ZI,Jf,hi,hx,hn]
 simp only [z9,hs,wrap_succ hi (by omega)]
 rw [ZZ]
 simp only [e,ZN]
 by_cases a:(Yt x.Name s).1=0<;>by_cases b:Oe x=0<;>simp [a,b,Zn]
theorem ZiK (L:Nat)(h1:100≤L)(m:ZF)(h:Xu m)(hL:SizeOf.sizeOf m≤L):V9 L (m,())=some (IE m):=by
 have hz:=Jm m;have hn:=Z4 m.Name
 have e1:=QN L m.Name (by have:=h.Name;unfold Len;omega) (by omega)
 have e2:=VM 32 (fun v:Yc=>ZN v.Name (Wu v)) m.Params [] (Zoa L m h hL [])
 have e3:∀P:Seen,(bif decide ((m.Sites.length:Int)>16) then some ((6:Int),P,([]:Seen),()) else loopT (Q7 m L) L (0,P,[],()))=some ((YK 16 (fun d:Za=>ZN d.Name (Oe d)) m.Sites []).1,P,(YK 16 (fun d:Za=>ZN d.Name (Oe d)) m.Sites []).2,()):=fun P=>by
  rw [Zod L h1 m h hL P []]
  unfold YK
  by_cases c:16<(m.Sites.length:Int)<;>simp [c]
 rw [Zcf,e1,Zn,e2]
 simp only [Zn,e3,Zkf L m h hL,ZI,ZQ]
 unfold IE KT IK
 generalize decide ((m.Sites.length:Int)=0)=q
 by_cases a:Vk m.Name=0<;>by_cases b:(YK 32 (fun v:Yc=>ZN v.Name (Wu v)) m.Params []).1=0<;>cases q<;>by_cases d:(YK 16 (fun d:Za=>ZN d.Name (Oe d)) m.Sites []).1=0<;>simp [a,b,d,Zn]
theorem Zkp (L:Nat)(h1:100≤L)(v:Yc)(seen:Seen)(hs:Len v.Name)(hsL:v.Name.length<L)(hl:Len seen)(hL:seen.length<L):Ir L (v,seen,())=some (ZN v.Name (Wu v) seen).1:=by
 rw [Zfy,DL L h1 v.Name seen hs hsL hl hL,Nk]
 simp only [Zn,Ze,ZeT,QO,Vt,ZiE,ZcG]
 unfold Y3 Ya Wu
 cases btw v.Ty 1 3<;>cases fitsT v.Ty v.N<;>by_cases a:DF v.Name seen=0<;>simp [a]
theorem Zn2 (L:Nat)(h1:1000≤L)(m:ZF)(h:Xu m)(hL:SizeOf.sizeOf m≤L)(hc:m.Sites.length≤16):loopT (Ju m L) L ([],0,())=if decide (IK m≠0)=true then some (IK m) else some (AP m):=by
 have hz:=Jm m;have hp:=Z4 m.Sites
 have hl:=h.l
 have:=Zi6 (f := Ju m L) (fun s i=>(s,i,())) m.Sites (fun d:Za=>ZN d.Name (Oe d)) 0 (fun _=>some (AP m)) (show m.Sites.length<L by omega) (fun x s=>TR _ _ _) (fun self s i x hx hi mem hsl=>by
  have hm:=Ze0 (fun v:Za=>v.Name) (fun x=>(Wh x).1) mem
  have ok:=h.Sites.2 x mem
  have hn:=DL L (by omega) x.Name s (by have:=ok.Name;unfold Len;omega) (by omega) (by unfold Len;omega) (by omega)
  have hs:=ZlR L h1 x ok (by have:=ZoG mem;omega)
  rw [Ju]
  simp only [Zg hi,cond_true,Zf,hx,Zn,Ze,hn,hs,Vt,← Nk,ZI,apS (show s.length≤8000000000000 by omega),wrap_succ hi (show m.Sites.length≤4611686018427387904 by omega)]
  by_cases c:(ZN x.Name (Oe x) s).1=0
  ·rw [TS c]
  ·simp [c]) (fun self s hsl=>by
   rw [Ju]
   simp only [Zd,cond_false,Zkk L m h hL,Zn]) [] (dI _)
 have e:IK m=(ZZ (fun d:Za=>ZN d.Name (Oe d)) m.Sites []).1:=by
  unfold IK YK
  rw [if_neg (by simp;omega)]
 rw [e]
 exact this
theorem Zo3 (L:Nat)(h1:1000≤L)(m:ZF)(h:Xu m)(hL:SizeOf.sizeOf m≤L)(hc:m.Params.length≤32)(E:Option Int)(hE:∀s:Seen,QW m L (fun _=>none) (0,s,(m.Params.length:Int),())=E) :
  loopT (QW m L) L (0,[],0,())=if decide (KT m.Params≠0)=true then some (KT m.Params) else E:=by
 have hz:=Jm m;have hp:=Z4 m.Params
 have hl:=h.l
 have:=Zi6 (f := QW m L) (fun s i=>(0,s,i,())) m.Params (fun v:Yc=>ZN v.Name (Wu v)) 0 (fun _=>E) (show m.Params.length<L by omega) (fun x s=>TR _ _ _) (fun self s i x hx hi mem hsl=>by
  have hm:=Ze0 (fun v:Yc=>v.Name) (fun x=>by cases x;simp;omega) mem
  have hn:=Zkp L (by omega) x s (by have:=(h.Params.2 x mem).Name;unfold Len;omega) (by omega) (by unfold Len;omega) (by omega)
  rw [QW]
  simp only [Zg hi,cond_true,Zf,hx,Zn,hn,ZI,apS (show s.length≤8000000000000 by omega),wrap_succ hi (show m.Params.length≤4611686018427387904 by omega)]
  by_cases c:(ZN x.Name (Wu x) s).1=0
  ·rw [TS c]
  ·simp [c]) (fun self s hsl=>by
   have:=hE s
   rw [QW] at this ⊢
   simp only [Zd,cond_false] at this ⊢
   exact this) [] (dI _)
 have e:KT m.Params=(ZZ (fun v:Yc=>ZN v.Name (Wu v)) m.Params []).1:=by
  unfold KT YK
  rw [if_neg (by simp;omega)]
 rw [e]
 exact this
theorem ZiM (L:Nat)(h1:1000≤L)(m:ZF)(h:Xu m)(hL:SizeOf.sizeOf m≤L):UN L (m,())=some (IE m):=by
 have hz:=Jm m;have hn:=Z4 m.Name
 have e1:=Gj L m.Name (by have:=h.Name;unfold Len;omega) (by omega) (by omega)
 rw [Zfr,e1]
 simp only [Zn,Ze,QO,Vt,ZI]
 unfold IE
 by_cases a:Vk m.Name=0
 ·by_cases hc:m.Params.length≤32
  ·rw [show decide ((m.Params.length:Int)≤32)=true by simp;omega]
   simp only [a,Ya,if_true,Y3,ne_eq,not_true_eq_false,decide_false,aK,if_false,decide_true,fF,cond_false]
   rw [Zo3 L h1 m h hL hc (if decide ((m.Sites.length:Int)=0)=true then some 7 else if decide (IK m≠0)=true then some (IK m) else some (AP m)) (fun s=>by
    rw [QW]
    simp only [Zd,cond_false,Zn,Ze,QO,Vt,ZI]
    have hq:decide ((m.Sites.length:Int)>0)=!decide ((m.Sites.length:Int)=0):=by rw [← decide_not];congr 1;exact propext ⟨fun h=>by omega,fun h=>by omega⟩
    rw [hq]
    by_cases c1:m.Sites.length≤16
    ·rw [show decide ((m.Sites.length:Int)≤16)=true by simp;omega,Zn2 L h1 m h hL c1]
     generalize decide ((m.Sites.length:Int)=0)=q
     cases q<;>simp [Ya,Y3]
    ·rw [show decide ((m.Sites.length:Int)≤16)=false by simp;omega,show decide ((m.Sites.length:Int)=0)=false by rw [decide_eq_false_iff_not];omega]
     have:IK m=6:=by
      unfold IK YK
      rw [if_pos (by simp;omega)]
     rw [this]
     simp [Ya,Y3])]
   generalize decide ((m.Sites.length:Int)=0)=q
   by_cases b:KT m.Params=0<;>cases q<;>by_cases d:IK m=0<;>simp [b,d]
  ·rw [show decide ((m.Params.length:Int)≤32)=false by simp;omega]
   have:KT m.Params=6:=by
    unfold KT YK
    rw [if_pos (by simp;omega)]
   rw [this]
   simp [a,Ya,Y3]
 ·simp only [Y3,a,ne_eq,not_false_eq_true,decide_true,if_true,decide_false,ja,cond_true]
theorem ZcB {α:Type}(nm:α→List UInt8)(g:α→Int):∀(l:List α) (s:Seen),(ZZ (fun v=>ZN (nm v) (g v)) l s).1=0→∀x∈l,g x=0
 |y::l,s,h,x,hx=>by
  rw [ZZ] at h
  by_cases c:(ZN (nm y) (g y) s).1=0
  ·rw [if_neg (by simp [c])] at h
   rcases gZ.1 hx with rfl|hx
   ·exact (ZfW c).2.2
   ·exact ZcB nm g l _ h x hx
  ·rw [if_pos (by simp [c])] at h;exact absurd h c
theorem GL {α:Type}(k:Int)(nm:α→List UInt8)(g:α→Int)(l:List α)(s:Seen)(h:(YK k (fun v=>ZN (nm v) (g v)) l s).1=0):(l.length:Int)≤k∧∀x∈l,g x=0:=by
 unfold YK at h
 split at h
 ·cases h
 ·rename_i c
  simp only [decide_eq_true_eq] at c
  exact ⟨by omega,ZcB nm g l s h⟩
theorem Zjg {σ:Type}:∀(fs:List (σ→Int×σ)) (s:σ),(Oh fs s).1=0→∀f∈fs,∃s',(f s').1=0
 |g::fs,s,h,f,hf=>by
  rw [Oh] at h
  by_cases c:(g s).1=0
  ·rw [if_neg (by simp [c])] at h
   rcases gZ.1 hf with rfl|hf
   ·exact ⟨s,c⟩
   ·exact Zjg fs _ h f hf
  ·rw [if_pos (by simp [c])] at h;exact absurd h c
theorem Zdo {α:Type}(g:α→Int):∀l:List α,W9 g l=0→∀x∈l,g x=0
 |y::l,h,x,hx=>by
  rw [W9] at h
  by_cases c:g y=0
  ·rw [if_neg (by simp [c])] at h
   rcases gZ.1 hx with rfl|hx
   ·exact c
   ·exact Zdo g l h x hx
  ·rw [if_pos (by simp [c])] at h;exact absurd h c
theorem Zdl {α:Type}(k:Int)(g:α→Int)(l:List α)(h:Oa k g l=0):(l.length:Int)≤k∧∀x∈l,g x=0:=by
 unfold Oa at h
 split at h
 ·cases h
 ·rename_i c
  simp only [decide_eq_true_eq] at c
  exact ⟨by omega,Zdo g l h⟩
structure Ze3 (d:Za):Prop where
 vars:∀v∈d.Vars,Wu v=0
 res:∀r∈d.Resources,ZcV d r=0
 sto:∀r∈d.Stores,VK r=0
 rou:∀r∈d.Routines,YY r=0
 sta:∀s∈d.Starts,WQ d s=0
 law:∀l∈d.Laws,Zgu d l=0
theorem Zji {d:Za}(h:Oe d=0):Ze3 d:=by
 have key:=Zjg (XE d) [] h
 obtain ⟨s0,h0⟩:=key (YK 32 (fun v:Yc=>ZN v.Name (Wu v)) d.Vars) (by simp [XE])
 obtain ⟨s1,h1⟩:=key (YK 32 (fun v:Zi=>ZN v.Name (ZcV d v)) d.Resources) (by simp [XE])
 obtain ⟨s2,h2⟩:=key (YK 32 (fun v:ZO=>ZN v.Name (VK v)) d.Stores) (by simp [XE])
 obtain ⟨s3,h3⟩:=key (YK 16 (fun v:Zx=>ZN v.Name (YY v)) d.Routines) (by simp [XE])
 obtain ⟨s4,h4⟩:=key (fun s=>(Oa 32 (WQ d) d.Starts,s)) (by simp [XE])
 obtain ⟨s5,h5⟩:=key (fun s=>(OC d,s)) (by simp [XE])
 exact ⟨(GL 32 (fun v:Yc=>v.Name) Wu _ s0 h0).2,(GL 32 (fun v:Zi=>v.Name) (ZcV d) _ s1 h1).2,(GL 32 (fun v:ZO=>v.Name) VK _ s2 h2).2,(GL 16 (fun v:Zx=>v.Name) YY _ s3 h3).2,(Zdl 32 (WQ d) _ h4).2,(GL 32 (fun l:Oj=>l.Name) (Zgu d) _ _ h5).2⟩
theorem Zhk {m:ZF}(h:IE m=0):(∀v∈m.Params,Wu v=0)∧∀d∈m.Sites,Ze3 d:=by
 unfold IE at h
 split at h
 ·rename_i c;simp only [decide_eq_true_eq] at c;exact absurd h c
 split at h
 ·rename_i c;simp only [decide_eq_true_eq] at c;exact absurd h c
 rename_i c1
 split at h
 ·cases h
 split at h
 ·rename_i c;simp only [decide_eq_true_eq] at c;exact absurd h c
 rename_i c2
 simp only [decide_eq_true_eq,ne_eq,Decidable.not_not] at c1 c2
 exact ⟨(GL 32 (fun v:Yc=>v.Name) Wu _ [] c1).2,fun d hd=>Zji ((GL 16 (fun d:Za=>d.Name) Oe _ [] c2).2 d hd)⟩
theorem Zb2 {v:Yc}(h:Wu v=0):btw v.Ty 1 3=true∧fitsT v.Ty v.N=true:=by
 unfold Wu at h
 cases a:btw v.Ty 1 3<;>cases b:fitsT v.Ty v.N<;>simp [a,b] at h ⊢
theorem Zcx {r:Zx}(h:YY r=0):(∀f∈r.Params,btw f.Ty 1 3=true)∧(∀f∈r.Locals,btw f.Ty 1 3=true)∧r.Params.length≤6∧r.Locals.length≤16∧WR r.Body=0:=by
 unfold YY at h
 split at h
 ·cases h
 rename_i c
 simp only [aJ,decide_eq_true_eq,not_or] at c
 split at h
 ·rename_i c;simp only [decide_eq_true_eq] at c;exact absurd h c
 rename_i c1
 simp only [decide_eq_true_eq,ne_eq,Decidable.not_not] at c1
 have hf:=ZcB (fun f:ZX=>f.Name) Du _ [] c1
 have ht:∀f∈r.Params++r.Locals,btw f.Ty 1 3=true:=fun f hm=>by
  have:=hf f hm
  unfold Du at this
  cases a:btw f.Ty 1 3<;>simp [a] at this ⊢
 exact ⟨fun f hm=>ht f (List.mem_append_left _ hm),fun f hm=>ht f (List.mem_append_right _ hm),by omega,by omega,Zif h⟩
theorem ZgC {d:Za}{r:Zi}(h:ZcV d r=0):r.Fault.Stream≠[]→JK r.Fault.Up=0∧JK r.Fault.Down=0:=by
 intro hs
 unfold ZcV at h
 split at h
 ·cases h
 split at h
 ·rename_i c;simp only [decide_eq_true_eq] at c;exact absurd h c
 unfold Zdn at h
 simp only [hs,decide_false,jg,aK,if_false] at h
 split at h
 ·cases h
 split at h
 ·rename_i c;simp only [decide_eq_true_eq] at c;exact absurd h c
 rename_i c
 simp only [decide_eq_true_eq,ne_eq,Decidable.not_not] at c
 exact ⟨c,h⟩
theorem ZgJ {x:ZO}(h:VK x=0):x.Policy=1∨x.Policy=2∨x.Policy=3:=by
 unfold VK at h
 split at h
 ·cases h
 split at h
 ·cases h
 rename_i c
 simp only [aJ,decide_eq_true_eq,not_or] at c
 omega
theorem Zk5 {d:Za}{s:Y1}(h:WQ d s=0):∃(k:Nat) (r:Zx),d.Routines[k]? = some r∧JE (fun r:Zx=>decide (r.Name=s.Routine)) d.Routines 0=k∧s.Args.length=r.Params.length∧∀(i:Nat) (p:ZX) (a:Int),r.Params[i]? = some p→s.Args[i]? = some a→fitsT p.Ty a=true:=by
 unfold WQ at h
 rcases Es (fun r:Zx=>decide (r.Name=s.Routine)) d.Routines 0 with ⟨e1,e2⟩|⟨k,r,e1,e2,e3⟩
 ·rw [e1] at h;cases h
 ·rw [e1] at h
  simp only at h
  split at h
  ·cases h
  rename_i c
  simp only [decide_eq_true_eq,ne_eq,Decidable.not_not] at c
  refine ⟨k,r,e3,by rw [e2];omega,by omega,?_⟩
  have key:∀(ps:List ZX) (ys:List Int),argsT (Pj s) ps ys=0→∀(i:Nat) (p:ZX) (a:Int),ps[i]? = some p→ys[i]? = some a→fitsT p.Ty a=true:=by
   intro ps
   induction ps with
   |nil=>intro ys _ i p a h1;simp at h1
   |cons q ps ih =>
    intro ys h i p a h1 h2
    cases ys with
    |nil=>simp at h2
    |cons b ys =>
     rw [argsT] at h
     cases hq:fitsT q.Ty b with
     |false=>rw [hq] at h;cases h
     |true =>
      rw [hq] at h
      cases i with
      |zero=>simp at h1 h2;subst h1 h2;exact hq
      |succ i=>exact ih ys (by simpa using h) i p a (by simpa using h1) (by simpa using h2)
  exact key r.Params s.Args h
theorem law_good {d:Za}{l:Oj}(h:Zgu d l=0):l.Terms.length≤8∧∀t∈l.Terms,-1000≤t.Coef∧t.Coef≤1000:=by
 unfold Zgu at h
 split at h
 ·cases h
 split at h
 ·rename_i c;simp only [decide_eq_true_eq] at c;exact absurd h c
 rename_i c
 simp only [decide_eq_true_eq,ne_eq,Decidable.not_not] at c
 obtain ⟨h1,h2⟩:=Zdl 8 (En d) l.Terms c
 refine ⟨by omega,fun t ht=>?_⟩
 have h3:=h2 t ht
 have key:∀b,Eo t b=0→-1000≤t.Coef∧t.Coef≤1000:=fun b hb=>by
  unfold Eo at hb
  split at hb
  ·cases hb
  split at hb
  ·cases hb
  rename_i c
  simp only [aJ,fH,not_or,jf,btw,fG,decide_eq_true_eq] at c
  exact c.1
 unfold En at h3
 repeat' split at h3
 all_goals first
  |exact key _ h3
  |(cases h3;done)
theorem Dv {α:Type}{l:List α}(T:α→List UInt8){i:Nat}{x:α}(h:l[i]? = some x):((l.take (i+1)).map T).flatten=((l.take i).map T).flatten++T x:=by
 rw [take_succ' h];simp
theorem ZbD {α:Type}(l:List α)(T:α→List UInt8)(i:Nat):(((l.take i).map T).flatten).length≤((l.map T).flatten).length:=by
 have:=congrArg iM (congrArg (fun l=>(l.map T).flatten) (jC i l))
 simp only [gp,List.flatten_append,aZ] at this
 omega
theorem AX {α ρ:Type}{f:(Int×(List UInt8×Int)×PUnit→Option ρ)→Int×(List UInt8×Int)×PUnit→Option ρ}(l:List α)(T:α→List UInt8)(d:Nat)(K:List UInt8→Option ρ){L:Nat}(hL:l.length<L)(b:List UInt8)(hb:b.length+((l.map T).flatten).length≤4398046511104)
  (h1:∀self (b:List UInt8) (i:Nat) x,l[i]? = some x→i<l.length→x∈l→b.length+(T x).length≤4398046511104→f self ((i:Int),(b,(d:Int)),())=self ((i:Int)+1,(b++T x,(d:Int)),()))
  (h2:∀self (b:List UInt8),f self ((l.length:Int),(b,(d:Int)),())=K b):loopT f L (0,(b,(d:Int)),())=K (b++(l.map T).flatten):=by
 refine loopK l (fun (s:List UInt8) i=>(i,(s,(d:Int)),())) (fun i s=>s=b++((l.take i).map T).flatten) _ (fun self s i x hP hx hi mem e'=>?_) (fun self s hP=>?_) L 0 b (by simp) (eG _) (by omega)
 ·subst hP
  have h3:=ZbD l T (i+1)
  rw [Dv T hx,aZ] at h3
  rw [h1 self _ i x hx hi mem (by rw [aZ];omega)]
  exact e' _ (by rw [Dv T hx];simp)
 ·rw [jl] at hP
  subst hP
  exact h2 self _
theorem loopA {α ρ:Type}{f:(List UInt8×Int×PUnit→Option ρ)→List UInt8×Int×PUnit→Option ρ}(l:List α)(T:α→List UInt8)(K:List UInt8→Option ρ){L:Nat}(hL:l.length<L)(b:List UInt8)(hb:b.length+((l.map T).flatten).length≤4398046511104)
  (h1:∀self (b:List UInt8) (i:Nat) x,l[i]? = some x→i<l.length→x∈l→b.length+(T x).length≤4398046511104→f self (b,(i:Int),())=self (b++T x,(i:Int)+1,()))
  (h2:∀self (b:List UInt8),f self (b,(l.length:Int),())=K b):loopT f L (b,0,())=K (b++(l.map T).flatten):=by
 refine loopK l (fun (s:List UInt8) i=>(s,i,())) (fun i s=>s=b++((l.take i).map T).flatten) _ (fun self s i x hP hx hi mem e'=>?_) (fun self s hP=>?_) L 0 b (by simp) (eG _) (by omega)
 ·subst hP
  have h3:=ZbD l T (i+1)
  rw [Dv T hx,aZ] at h3
  rw [h1 self _ i x hx hi mem (by rw [aZ];omega)]
  exact e' _ (by rw [Dv T hx];simp)
 ·rw [jl] at hP
  subst hP
  exact h2 self _
def spX (ws:List (List UInt8)):List UInt8:=(ws.map fun w=>32::w).flatten
theorem NR:∀(a:List (List UInt8)) (b:List (List UInt8)),a≠[]→Lib.join (a++b) [32]=Lib.join a [32]++spX b
 | [],_,h=>absurd rfl h
 | [x],[],_=>by simp [jn1,spX]
 | [x],y::b,_=>by
  have:=NR [y] b (by simp)
  rw [kC] at this
  rw [kC,G6,this,jn1,jn1]
  simp [spX]
 |x::y::a,b,_=>by
  have:=NR (y::a) b (by simp)
  rw [gB,gB,G6,← gB,this,G6]
  simp
def kdX (t:Int):List UInt8:=if t=2 then [98,111,111,108] else if t=3 then [116,105,109,101] else [105,110,116]
def Zjv (t n:Int):List UInt8:=if t=2 then (if n=1 then [116,114,117,101] else [102,97,108,115,101]) else Lib.itoa n
theorem AL (t:Int):(kdX t).length≤4:=by
 unfold kdX
 by_cases h2:t=2
 ·simp [h2]
 ·by_cases h3:t=3<;>simp [h2,h3]
theorem ZcI (t:Int){n:Int}(h:bd n):(Zjv t n).length≤21:=by
 have:=Z9 h
 unfold Zjv
 by_cases h2:t=2
 ·rw [if_pos h2];by_cases h1:n=1<;>simp [h1]
 ·rw [if_neg h2];exact this
theorem ZiJ (L:Nat)(t:Int):Vh L (t,())=some (kdX t):=by
 rw [ZdJ];unfold kdX;simp only [ZQ]
 by_cases h2:t=2
 ·simp [h2]
 by_cases h3:t=3<;>simp [h2,h3]
theorem Zmy {t:Int}(h:btw t 1 3=true):t=1∨t=2∨t=3:=by
 simp only [btw,fG,decide_eq_true_eq] at h;omega
theorem ZeZ (L:Nat){t:Int}(h:btw t 1 3=true):XU L (t,())=some (kdX t):=by
 rw [Zf4]
 rcases Zmy h with rfl|rfl|rfl<;>rfl
theorem ZbX (L:Nat){t n:Int}(hb:bd n)(h:fitsT t n=true):Qx L (t,n,())=some (Zjv t n)∧Jc L (t,n,())=some (Zjv t n):=by
 rw [Zcl,Zf5,ZR hb]
 unfold Zjv
 by_cases h2:t=2
 ·subst h2
  have hn:n=0∨n=1:=by
   unfold fitsT at h
   simpa using h
  rw [DY]
  rcases hn with rfl|rfl<;>exact ⟨rfl,rfl⟩
 ·rw [show (t==2)=false by simpa using h2,show (t != 2)=true by simpa using h2,if_neg h2];exact ⟨rfl,rfl⟩
def Ea (d:Nat)(w:List UInt8)(v:Yc):List UInt8:=ZG d (Lib.join [w,v.Name,kdX v.Ty,[61],Zjv v.Ty v.N] [32])
def Xd (d:Nat)(w:List UInt8)(l:List Yc):List UInt8:=(l.map (Ea d w)).flatten
theorem Zg7 (L:Nat)(w:List UInt8)(l:List Yc)(d:Nat)(b:List UInt8)(hL:l.length<L)(hl:l.length≤4611686018427387904)(ok:∀v∈l,Rh v)(g:∀v∈l,Wu v=0)(hb:b.length+(Xd d w l).length≤4398046511104) :
  Yy L (w,l,()) (b,(d:Int))=some ((),(b++Xd d w l,(d:Int))):=by
 rw [KQ]
 rw [AX (f := YO w l L) l (Ea d w) d (fun b=>some ((),(b,(d:Int)),())) hL b hb (fun self b i x hx hi mem hbb=>by
  obtain ⟨g1,g2⟩:=Zb2 (g x mem)
  rw [YO]
  simp only [Zg hi,cond_true,Zf,hx,Zn,ZiJ,(ZbX L (ok x mem).N g2).1,wrap_succ hi hl]
  rw [YV L _ b d (by simp) hbb]
  rfl) (fun self b=>by
  rw [YO]
  simp only [Zd,cond_false])]
 rfl
theorem Zd4 (L:Nat)(w:List UInt8)(l:List Yc)(d:Nat)(hw:w.length≤100)(hd:d<L)(hL:l.length<L)(hl:l.length≤4611686018427387904)(ok:∀v∈l,Rh v)(g:∀v∈l,Wu v=0)(hb:(Xd d w l).length≤4398046511104) :
  Xh L ((d:Int),w,l,())=some (Xd d w l):=by
 rw [ZdS]
 rw [loopA (f := JY (d:Int) w l L) l (Ea d w) some hL [] (by rw [az,dR];exact hb) (fun self b i x hx hi mem hbb=>by
  obtain ⟨g1,g2⟩:=Zb2 (g x mem)
  have hn:=(ok x mem).Name;have hk:=AL x.Ty;have hv:=ZcI x.Ty (ok x mem).N
  have e:ZG d (w++(32::(x.Name++(32::(kdX x.Ty++(32::61::32::Zjv x.Ty x.N))))))=Ea d w x:=by
   unfold Ea;congr 1;simp [G6,jn1]
  have hr:=Qn L d (w++(32::(x.Name++(32::(kdX x.Ty++(32::61::32::Zjv x.Ty x.N)))))) hd (by rw [e];omega)
  rw [e] at hr
  rw [JY]
  simp only [Zg hi,cond_true,Zf,hx,Zn,ZeZ L g1,(ZbX L (ok x mem).N g2).2,wrap_succ hi hl]
  clear e g1 g2 g ok hb
  simp (disch := (simp only [aZ,dB,az];omega)) only [Zh,Zn,bJ,gB,bn]
  rw [hr]
  simp only [Zn]
  rw [Zh (by omega)]) (fun self b=>by
  rw [JY]
  simp only [Zd,cond_false])]
 rfl
def ZeL (w s:List UInt8):List UInt8:=ZG 2 (Lib.join [w,s] [32])
def namesT (w:List UInt8)(l:List (List UInt8)):List UInt8:=(l.map (ZeL w)).flatten
theorem ZlK (L:Nat)(w:List UInt8)(l:List (List UInt8))(b:List UInt8)(hL:l.length<L)(hl:l.length≤4611686018427387904)(hb:b.length+(namesT w l).length≤4398046511104) :
  Zz L (w,l,()) (b,2)=some ((),(b++namesT w l,2)):=by
 rw [Gm]
 rw [show ((b,2):List UInt8×Int)=(b,((2:Nat):Int)) from rfl,AX (f := YW w l L) l (ZeL w) 2 (fun b=>some ((),(b,2),())) hL b hb (fun self b i x hx hi mem hbb=>by
  rw [YW]
  simp only [Zg hi,cond_true,Zf,hx,Zn,wrap_succ hi hl]
  rw [YV L _ b 2 (by simp) hbb]
  rfl) (fun self b=>by
  rw [YW]
  simp only [Zd,cond_false];rfl)]
 rfl
theorem DN (L:Nat)(w:List UInt8)(l:List (List UInt8))(h2:2<L)(hw:w.length≤100)(hL:l.length<L)(hl:l.length≤4611686018427387904)(ok:∀s∈l,s.length≤140737488351232)(hb:(namesT w l).length≤4398046511104) :
  Xg L (w,l,())=some (namesT w l):=by
 rw [Zf0]
 rw [loopA (f := Kq w l L) l (ZeL w) some hL [] (by rw [az,dR];exact hb) (fun self b i x hx hi mem hbb=>by
  have hn:=ok x mem
  have e:ZG 2 (w++(32::x))=ZeL w x:=by unfold ZeL;rw [jn2]
  have hr:=Qn L 2 (w++(32::x)) h2 (by rw [e];omega)
  rw [e] at hr
  rw [Kq]
  simp only [Zg hi,cond_true,Zf,hx,Zn,wrap_succ hi hl]
  rw [Zh (by simp only [dB,az];omega),Zh (by simp only [aZ,dB,az];omega)]
  simp only [bJ,gB,bn]
  rw [show (2:Int)=((2:Nat):Int) from rfl,hr]
  simp only [Zn]
  rw [Zh (by omega)]) (fun self b=>by
  rw [Kq]
  simp only [Zd,cond_false])]
 rfl
def Zku (p:Int):List UInt8:=if p=2 then [108,105,102,111] else if p=3 then [108,101,97,115,116] else [102,105,102,111]
theorem Zg3 (L:Nat){p:Int}(h:p=1∨p=2∨p=3):Jn L (p,())=some (Zku p)∧JA L (p,())=some (Zku p):=by
 rw [Za1,ZdR]
 rcases h with rfl|rfl|rfl<;>exact ⟨rfl,rfl⟩
def chX (c:XN):List UInt8:=Lib.itoa c.At_++(58::Lib.itoa c.Units)
def Zey (r:Zi):List (List UInt8) :=
 [[114,101,115,111,117,114,99,101],r.Name,Lib.itoa r.Units]++((if r.Shift=[] then [] else [[115,104,105,102,116]]++(r.Shift.map chX++[[99,121,99,108,101],Lib.itoa r.Cycle])) ++
  (if r.Fault.Stream=[] then [] else [[102,97,117,108,116],r.Fault.Stream,[117,112],dtX r.Fault.Up,[100,111,119,110],dtX r.Fault.Down]))
def resT (r:Zi):List UInt8:=ZG 2 (Lib.join (Zey r) [32])
def ftX (r:Zi):List (List UInt8):=if r.Fault.Stream=[] then [] else [[102,97,117,108,116],r.Fault.Stream,[117,112],dtX r.Fault.Up,[100,111,119,110],dtX r.Fault.Down]
theorem ZoC (s:List UInt8):(s==[])=decide (s=[]):=ZV s []
theorem ZmD (l:List XN):decide ((l.length:Int)>0)=!decide (l=[]):=by cases l<;>simp
structure ZoB (r:Zi):Prop where
 ok:Yw r
 f:r.Fault.Stream≠[]→JK r.Fault.Up=0∧JK r.Fault.Down=0
theorem ZkW (r:Zi):SizeOf.sizeOf r.Fault.Up<SizeOf.sizeOf r∧SizeOf.sizeOf r.Fault.Down<SizeOf.sizeOf r∧SizeOf.sizeOf r.Shift<SizeOf.sizeOf r:=by
 obtain ⟨a,b,c,d,⟨e,f,g⟩⟩:=r;simp;omega
theorem Zip {d:Yo}(ok:X0 d)(h:JK d=0):(dtX d).length≤1000:=by
 obtain ⟨ho,h3⟩:=Ap h
 have hA:bd d.A:=ok.A;have hB:bd d.B:=ok.B;have hN:bd d.N:=ok.N
 have lA:=Z9 hA;have lB:=Z9 hB;have lN:=Z9 hN
 have h4:=CS d.Values d.Weights ok.Values.2 ok.Weights.2
 unfold dtX
 rcases ho with c|c|c|c|c
 ·simp [c,nsX];omega
 ·simp [c,nsX];omega
 ·obtain ⟨e1,e2⟩:=h3 c
  simp [c];omega
 ·simp [c,nsX];omega
 ·simp [c,nsX];omega
theorem ZlO (L:Nat)(h1:1001≤L)(r:Zi)(g:ZoB r)(hL:SizeOf.sizeOf r≤L)(b:List UInt8)(hb:b.length+(resT r).length≤4398046511104) :
  Yl L (r,()) (b,2)=some ((),(b++resT r,2)):=by
 have ok:=g.ok;have hz:=ZkW r;have hsl:=Z4 r.Shift;have hS:=ok.s
 have hf:∀h:r.Fault.Stream≠[],YT L (r.Fault.Up,())=some (dtX r.Fault.Up)∧YT L (r.Fault.Down,())=some (dtX r.Fault.Down):=fun h =>
  ⟨ZiG L h1 _ ok.Fault.Up (by omega) (g.f h).1,ZiG L h1 _ ok.Fault.Down (by omega) (g.f h).2⟩
 have fin:∀ws:List (List UInt8),ws++ftX r=Zey r→ws.length≤8796093022100→(bif !r.Fault.1==[] then bT (bT (YT L (r.Fault.2,())) fun y=>some y) fun y_1=>bT (bT (YT L (r.Fault.3,())) fun y=>some y) fun y_2=>bT (apT 16 ws [[102,97,117,108,116],r.Fault.1,[117,112],y_1,[100,111,119,110],y_2]) fun y=>bT (Zc L (y,()) (b,2)) fun y=>some ((),(y.snd.1,y.snd.2),()) else bT (Zc L (ws,()) (b,2)) fun y=>some ((),(y.snd.1,y.snd.2),()))=some ((),(b++resT r,2),()):=fun ws hws hn=>by
  rw [ZoC]
  unfold ftX at hws
  have hpl:Zc L (Zey r,()) (b,2)=some ((),(b++resT r,2)):=YV L (Zey r) b 2 (by rw [← hws,aZ];split<;>simp<;>omega) hb
  by_cases h:r.Fault.Stream=[]
  ·rw [if_pos h,fZ] at hws
   subst hws
   simp only [h,decide_true,fF,cond_false,hpl,Zn]
  ·rw [if_neg h] at hws
   simp only [h,decide_false,ja,cond_true,(hf h).1,(hf h).2,Zn]
   rw [Ah (by simp only [dB,az];omega),hws,hpl]
   rfl
 rw [U5,ZR ok.Units,ZmD]
 simp only [Zn]
 by_cases hs:r.Shift=[]
 ·rw [show decide (r.Shift=[])=true by simpa using hs,fF,cond_false,fin _ (by unfold Zey ftX;simp [hs]) (by simp)]
  rfl
 ·rw [show decide (r.Shift=[])=false by simpa using hs,ja,cond_true]
  rw [Ah (by simp)]
  rw [Gi (f := Y9 r (b,2) L) r.Shift (fun i s=>s=[[114,101,115,111,117,114,99,101],r.Name,Lib.itoa r.Units]++[[115,104,105,102,116]]++(r.Shift.take i).map chX) (some ((),(b++resT r,2),())) (by omega) _ (by simp) (fun self s i x hP hx hi mem e'=>by
   subst hP
   have hA:=(ok.Shift.2 x mem).At_;have hU:=(ok.Shift.2 x mem).Units
   have lA:=Z9 hA;have lU:=Z9 hU
   have hk:r.Shift.length*16≤140737488351232:=ok.Shift.1
   rw [Y9]
   simp only [Zg hi,cond_true,Zf,hx,Zn,ZR hA,ZR hU,wrap_succ hi (by omega)]
   rw [Zh (by simp only [dB,az];omega),Zh (by simp only [aZ,dB,az];omega),Ah (by simp only [aZ,dF,bU,dB,az];omega)]
   refine e' _ ?_
   rw [take_succ' hx]
   simp [chX]) (fun self s hP=>by
   rw [jl] at hP
   subst hP
   have hk:r.Shift.length*16≤140737488351232:=ok.Shift.1
   rw [Y9]
   simp only [Zd,cond_false,ZR ok.Cycle,Zn]
   rw [Ah (by simp only [aZ,dF,dB,az];omega)]
   exact fin _ (by unfold Zey ftX;simp [hs]) (by simp only [aZ,dF,dB,az];omega))]
  rfl
theorem Zkl (L:Nat)(h1:1001≤L)(r:Zi)(g:ZoB r)(hL:SizeOf.sizeOf r≤L)(hb:(resT r).length≤4398046511104) :
  XH L (r,())=some (resT r):=by
 have ok:=g.ok;have hz:=ZkW r;have hsl:=Z4 r.Shift;have hS:=ok.s;have hn:=ok.Name;have hst:=ok.Fault.Stream
 have lU:=Z9 ok.Units;have lC:=Z9 ok.Cycle
 have hf:∀h:r.Fault.Stream≠[],Wp L (r.Fault.Up,())=some (dtX r.Fault.Up)∧Wp L (r.Fault.Down,())=some (dtX r.Fault.Down):=fun h =>
  ⟨ZeX L h1 _ ok.Fault.Up (by omega) (g.f h).1,ZeX L h1 _ ok.Fault.Down (by omega) (g.f h).2⟩
 have fin:∀t:List UInt8,t.length≤4398046511104→t++spX (ftX r)=Lib.join (Zey r) [32]→(bif !r.Fault.1==[] then bT (catS t [32,102,97,117,108,116,32]) fun y=>bT (catS y r.Fault.1) fun y=>bT (catS y [32,117,112,32]) fun y=>bT (bT (Wp L (r.Fault.2,())) fun y=>some y) fun y_2=>bT (catS y y_2) fun y=>bT (catS y [32,100,111,119,110,32]) fun y=>bT (bT (Wp L (r.Fault.3,())) fun y=>some y) fun y_3=>bT (catS y y_3) fun y=>bT (Zu L (2,y,())) fun y=>some y else bT (Zu L (2,t,())) fun y=>some y)=some (resT r):=fun t ht hws=>by
  have hpl:Zu L (2,Lib.join (Zey r) [32],())=some (resT r):=Qn L 2 _ (by omega) hb
  rw [← hws] at hpl
  rw [ZoC]
  by_cases h:r.Fault.Stream=[]
  ·have e:spX (ftX r)=[]:=by simp [ftX,h,spX]
   rw [e,fZ] at hpl
   simp only [h,decide_true,fF,cond_false,hpl,Zn]
  ·have d1:=Zip ok.Fault.Up (g.f h).1;have d2:=Zip ok.Fault.Down (g.f h).2
   have e:spX (ftX r)=32::102::97::117::108::116::32::(r.Fault.Stream++32::117::112::32::(dtX r.Fault.Up++32::100::111::119::110::32::dtX r.Fault.Down)):=by simp [ftX,h,spX]
   rw [e] at hpl
   simp only [h,decide_false,ja,cond_true,(hf h).1,(hf h).2,Zn]
   clear hf g hb hws e
   (simp (disch := (simp only [aZ,dB,az];omega)) only [Zh,Zn,bJ,gB,bn])
   rw [hpl,Zn]
 have h0:Lib.join [[114,101,115,111,117,114,99,101],r.Name,Lib.itoa r.Units] [32]=[114,101,115,111,117,114,99,101,32]++(r.Name++(32::Lib.itoa r.Units)):=by simp [G6,jn1]
 have hT:(Lib.join (Zey r) [32]).length≤4398046511104:=by unfold resT at hb;rw [ZC] at hb;omega
 rw [Za6,ZR ok.Units,ZmD]
 simp only [Zn]
 rw [Zh (by simp only [dB,az];omega),Zh (by simp only [aZ,dB,az];omega),Zh (by simp only [aZ,dB,az];omega)]
 by_cases hs:r.Shift=[]
 ·have hw:Zey r=[[114,101,115,111,117,114,99,101],r.Name,Lib.itoa r.Units]++ftX r:=by unfold Zey ftX;simp [hs]
  rw [show decide (r.Shift=[])=true by simpa using hs,fF,cond_false]
  refine fin _ ?_ ?_
  ·rw [hw,NR _ _ (by simp),h0] at hT
   simp only [aZ,dB,az] at hT ⊢;omega
  ·rw [hw,NR _ _ (by simp),h0];simp
 ·have hw:Zey r=([[114,101,115,111,117,114,99,101],r.Name,Lib.itoa r.Units]++([[115,104,105,102,116]]++(r.Shift.map chX++[[99,121,99,108,101],Lib.itoa r.Cycle])))++ftX r:=by unfold Zey ftX;simp [hs]
  have hj:Lib.join (Zey r) [32]=[114,101,115,111,117,114,99,101,32]++(r.Name++(32::Lib.itoa r.Units))++[32,115,104,105,102,116]++spX (r.Shift.map chX)++([32,99,121,99,108,101,32]++Lib.itoa r.Cycle)++spX (ftX r):=by
   rw [hw,NR _ _ (by simp),NR _ _ (by simp),h0];simp [spX]
  have hT2:=hT
  rw [hj] at hT2
  simp only [aZ,dB,az] at hT2
  rw [show decide (r.Shift=[])=false by simpa using hs,ja,cond_true]
  rw [Zh (by simp only [aZ,dB,az];omega)]
  have hsp:spX (r.Shift.map chX)=(r.Shift.map fun c=>32::chX c).flatten:=by simp [spX,Function.comp_def]
  have hk:r.Shift.length*16≤140737488351232:=ok.Shift.1
  have hst2:∀(i:Nat) (x:XN),r.Shift[i]? = some x→spX ((r.Shift.take (i+1)).map chX)=spX ((r.Shift.take i).map chX)++32::chX x:=fun i x hx=>by rw [take_succ' hx];simp [spX]
  have hle:∀i,(spX ((r.Shift.take i).map chX)).length≤(spX (r.Shift.map chX)).length:=fun i=>by
   have:=ZbD r.Shift (fun c=>32::chX c) i
   rw [hsp,show spX ((r.Shift.take i).map chX)=((r.Shift.take i).map fun c=>32::chX c).flatten by simp [spX,Function.comp_def]]
   exact this
  refine Gi (f := Vy r L) r.Shift (fun i s=>s=[114,101,115,111,117,114,99,101,32]++(r.Name++(32::Lib.itoa r.Units))++[32,115,104,105,102,116]++spX ((r.Shift.take i).map chX)) _ (by omega) _ (by simp [spX]) (fun self s i x hP hx hi mem e'=>?_) (fun self s hP=>?_)
  ·subst hP
   have hA:=(ok.Shift.2 x mem).At_;have hU:=(ok.Shift.2 x mem).Units
   have lA:=Z9 hA;have lU2:=Z9 hU
   have h3:=hle i
   rw [Vy]
   simp only [Zg hi,cond_true,Zf,hx,Zn,ZR hA,ZR hU,wrap_succ hi (show r.Shift.length≤4611686018427387904 by omega)]
   rw [Zh (by simp only [aZ,dB,az];omega),Zh (by simp only [aZ,dB,az];omega),Zh (by simp only [aZ,dB,az];omega),Zh (by simp only [aZ,dB,az];omega)]
   refine e' _ ?_
   rw [hst2 i x hx]
   simp [chX]
  ·rw [jl] at hP
   subst hP
   rw [Vy]
   simp only [Zd,cond_false,ZR ok.Cycle,Zn]
   rw [Zh (by simp only [aZ,dB,az];omega),Zh (by simp only [aZ,dB,az];omega)]
   refine fin _ ?_ ?_
   ·simp only [aZ,dB,az];omega
   ·rw [hj];simp
def fX (f:ZX):List UInt8:=f.Name++(32::kdX f.Ty)
def Zar (l:List ZX):List UInt8:=40::(Lib.join (l.map fX) [44,32]++[41])
def Zhj (d:Nat)(f:ZX):List UInt8:=ZG d (Lib.join [[108,111,99,97,108],f.Name,kdX f.Ty] [32])
def Zbn (d:Nat)(r:Zx):List UInt8:=ZG d (Lib.join [[114,111,117,116,105,110,101],r.Name,Zar r.Params] [32])++((r.Locals.map (Zhj (d+1))).flatten++(Qc r.Body (d+1)++ZG d [101,110,100]))
theorem Zm3 (f:ZX):(fX f).length≤f.Name.length+5:=by have:=AL f.Ty;simp [fX];omega
theorem ZoV (L:Nat)(f:ZX)(h:f.Name.length≤140737488351232):YA L (f,())=some (fX f):=by
 have:=AL f.Ty
 rw [JX,ZiJ]
 simp only [Zn]
 rw [Zh (by ((simp only [aZ,dB,az];omega))),Zh (by ((simp only [aZ,dB,az];omega)))]
 simp [fX]
theorem Zks (L:Nat)(h1:1001≤L)(l:List Zl)(b:List UInt8)(d:Nat)(ok:ZaI l)(h:WR l=0)(hB:(Qc l d).length≤2199023255552)(hb:b.length+(Qc l d).length≤4398046511104)(hL:3*SizeOf.sizeOf l≤L) :
  Y7 L (l,()) (b,(d:Int))=some ((),(b++Qc l d,(d:Int))):=ZbZ L h1 L l b d ok h hB hb hL (dI _)
theorem ZmZ (L:Nat)(r:Zx)(ok:X3 r)(hp:r.Params.length<L)(h6:r.Params.length≤6)(c:List UInt8×Int)(hj:(Lib.join (r.Params.map fX) [44,32]).length≤4398046511104) :
  loopT (YE r L) L ([],0,c,())=some (Lib.join (r.Params.map fX) [44,32],c,()):=by
 refine loopK r.Params (fun (s:List (List UInt8)) i=>(s,i,c,())) (fun i s=>s=(r.Params.take i).map fX) _ (fun self s i x hP hx hi mem e'=>?_) (fun self s hP=>?_) L 0 [] rfl (eG _) (by omega)
 ·subst hP
  rw [YE]
  simp only [Zg hi,cond_true,Zf,hx,Zn,ZoV L x (ok.Params.2 x mem).Name,wrap_succ hi (by omega)]
  rw [Ah (by simp only [dF,bU,dB,az];omega)]
  exact e' _ (by rw [take_succ' hx];simp)
 ·rw [jl] at hP
  subst hP
  rw [YE]
  simp only [Zd,cond_false]
  rw [ZbN (by simp only [dF];omega) (by omega)]
  rfl
theorem ZmW (L:Nat)(r:Zx)(hl:r.Locals.length<L)(hn:r.Locals.length≤16)(d:Nat)(b:List UInt8)(hb:b.length+((r.Locals.map (Zhj d)).flatten).length≤4398046511104) :
  loopT (Yj r L) L (0,(b,(d:Int)),())=bT (Y7 L (r.Body,()) (b++(r.Locals.map (Zhj d)).flatten,(d:Int))) fun y=>some ((),(y.snd.1,y.snd.2),()) :=
 AX (f := Yj r L) r.Locals (Zhj d) d (fun b=>bT (Y7 L (r.Body,()) (b,(d:Int))) fun y=>some ((),(y.snd.1,y.snd.2),())) hl b hb (fun self b i x hx hi mem hbb=>by
  rw [Yj]
  simp only [Zg hi,cond_true,Zf,hx,Zn,ZiJ,wrap_succ hi (show r.Locals.length≤4611686018427387904 by omega)]
  rw [YV L _ b d (by simp) hbb]
  rfl) (fun self b=>by
  rw [Yj]
  simp only [Zd,cond_false])
theorem Znp (l:List ZX):([40]++Lib.join (l.map fX) [44,32]++[41]:List UInt8)=Zar l:=by simp [Zar]
theorem ZlP (L:Nat)(h1:1001≤L)(r:Zx)(ok:X3 r)(g:YY r=0)(hL:3*SizeOf.sizeOf r≤L)(d:Nat)(b:List UInt8)(hB:(Zbn d r).length≤2199023255552)(hb:b.length+(Zbn d r).length≤4398046511104) :
  YQ L (r,()) (b,(d:Int))=some ((),(b++Zbn d r,(d:Int))):=by
 obtain ⟨g1,g2,g3,g4,g5⟩:=Zcx g
 have hz:=Zet r;have hp:=Z4 r.Params;have hlc:=Z4 r.Locals;have okp:=ok.p
 unfold Zbn at hB hb ⊢
 rw [aZ,aZ,aZ] at hB hb
 have hl0:=ZC d (Lib.join [[114,111,117,116,105,110,101],r.Name,Zar r.Params] [32])
 have hl1:=ZC d [101,110,100]
 have hpm:=Dz [32] (a := [[114,111,117,116,105,110,101],r.Name,Zar r.Params]) (x := Zar r.Params) (by simp)
 have hpj:(Lib.join (r.Params.map fX) [44,32]).length+2=(Zar r.Params).length:=by unfold Zar;simp
 simp only [dB,az] at hl1
 have hd:d≤4398046511104:=by omega
 have e0:=ZmZ L r ok (by omega) g3 (b,(d:Int)) (by omega)
 have e1:=YV L [[114,111,117,116,105,110,101],r.Name,Zar r.Params] b d (by simp) (by omega)
 have e2:=ZmW L r (by omega) g4 (d+1) (b++ZG d (Lib.join [[114,111,117,116,105,110,101],r.Name,Zar r.Params] [32])) (by rw [aZ];omega)
 have e3:=Zks L h1 r.Body (b++ZG d (Lib.join [[114,111,117,116,105,110,101],r.Name,Zar r.Params] [32])++(r.Locals.map (Zhj (d+1))).flatten) (d+1) okp.2.2 g5 (by omega) (by simp only [aZ];omega) (by omega)
 have e4:=YV L [[101,110,100]] (b++ZG d (Lib.join [[114,111,117,116,105,110,101],r.Name,Zar r.Params] [32])++(r.Locals.map (Zhj (d+1))).flatten++Qc r.Body (d+1)) d (by simp) (by rw [jn1];simp only [aZ];omega)
 rw [jn1] at e4
 have c1:(40::Lib.join (r.Params.map fX) [44,32]).length≤4398046511104:=by simp only [dB];omega
 clear hB hb hpm hl0 hl1 g g1 g2 g5 hz
 generalize ZG d (Lib.join [[114,111,117,116,105,110,101],r.Name,Zar r.Params] [32])=T0 at e1 e2 e3 e4 ⊢
 generalize (r.Locals.map (Zhj (d+1))).flatten=T1 at e2 e3 e4 ⊢
 generalize Qc r.Body (d+1)=T2 at e3 e4 ⊢
 generalize ZG d [101,110,100]=T3 at e4 ⊢
 rw [UU]
 simp only [e0,Zn]
 rw [Zh (by simp only [dB,az] at c1 ⊢;omega),Zh (by simp only [aZ,dB,az] at c1 ⊢;omega),Znp,e1]
 simp only [Zn,Zjy hd]
 rw [e2]
 simp only [e3,Zn,Zmp hd,e4]
 simp only [bJ]
theorem Zkm (L:Nat)(h1:1001≤L)(r:Zx)(ok:X3 r)(g:YY r=0)(hL:3*SizeOf.sizeOf r≤L)(hB:(Zbn 2 r).length≤2199023255552) :
  Ul L (r,())=some (Zbn 2 r):=by
 obtain ⟨g1,g2,g3,g4,g5⟩:=Zcx g
 have hz:=Zet r;have hp:=Z4 r.Params;have hlc:=Z4 r.Locals;have okp:=ok.p;have hn:=ok.Name
 have hB':=hB
 unfold Zbn at hB'
 rw [aZ,aZ,aZ,show (2+1:Nat)=3 from rfl] at hB'
 have hl0:=ZC 2 (Lib.join [[114,111,117,116,105,110,101],r.Name,Zar r.Params] [32])
 have hl1:=ZC 2 [101,110,100]
 have hpm:=Dz [32] (a := [[114,111,117,116,105,110,101],r.Name,Zar r.Params]) (x := Zar r.Params) (by simp)
 have hpj:(Lib.join (r.Params.map fX) [44,32]).length+2=(Zar r.Params).length:=by unfold Zar;simp
 simp only [dB,az] at hl1
 have hjj:Lib.join [[114,111,117,116,105,110,101],r.Name,Zar r.Params] [32]=[114,111,117,116,105,110,101,32]++r.Name++[32,40]++Lib.join (r.Params.map fX) [44,32]++[41]:=by simp [G6,jn1,Zar]
 have hr:Zu L (2,Lib.join [[114,111,117,116,105,110,101],r.Name,Zar r.Params] [32],())=some _:=Qn L 2 _ (by omega) (by omega)
 have he:Zu L (2,[101,110,100],())=some (ZG 2 [101,110,100]):=Qn L 2 _ (by omega) (by omega)
 have hs:Iw L (r.Body,3,())=some (Qc r.Body 3):=Fg L h1 L r.Body 3 okp.2.2 g5 (by omega) (by omega) (by omega) (by omega) (dI _)
 rw [Zcr]
 rw [Zh (by ((simp only [aZ,dB,az];omega))),Zh (by ((simp only [aZ,dB,az];omega)))]
 have e1:∀t:List UInt8,t.length≤2199023255552→t++((r.Locals.map (Zhj 3)).flatten++(Qc r.Body 3++ZG 2 [101,110,100]))=Zbn 2 r→loopT (XB r L) L (t,0,())=some (Zbn 2 r):=fun t ht htt=>by
  rw [loopA (f := XB r L) r.Locals (Zhj 3) (fun t=>bT (Iw L (r.Body,3,())) fun y=>bT (catS t y) fun y=>bT (Zu L (2,[101,110,100],())) fun y_1=>bT (catS y y_1) fun y=>some y) (by omega) t (by omega) (fun self b i x hx hi mem hbb=>by
   have hk:=AL x.Ty;have hn:=(ok.Locals.2 x mem).Name
   have e:ZG 3 ([108,111,99,97,108,32]++(x.Name++(32::kdX x.Ty)))=Zhj 3 x:=by unfold Zhj;congr 1;simp [G6,jn1]
   have hr2:Zu L (3,[108,111,99,97,108,32]++(x.Name++(32::kdX x.Ty)),())=some _:=Qn L 3 _ (by omega) (by rw [e];omega)
   rw [e] at hr2
   rw [XB]
   simp only [Zg hi,cond_true,Zf,hx,Zn,ZeZ L (g2 x mem),wrap_succ hi (show r.Locals.length≤4611686018427387904 by omega)]
   rw [Zh (by ((simp only [aZ,dB,az];omega))),Zh (by ((simp only [aZ,dB,az];omega))),Zh (by ((simp only [aZ,dB,az];omega)))]
   rw [show ([108,111,99,97,108,32]++x.Name++[32]++kdX x.Ty:List UInt8)=[108,111,99,97,108,32]++(x.Name++(32::kdX x.Ty)) by simp,hr2]
   simp only [Zn]
   rw [Zh (by omega)]) (fun self b=>by
   rw [XB]
   simp only [Zd,cond_false])]
  simp only [hs,he,Zn]
  rw [Zh (by simp only [aZ];omega),Zh (by simp only [aZ];omega),← htt]
  simp
 refine Gi (f := Jl r L) r.Params (fun i t=>t=[114,111,117,116,105,110,101,32]++r.Name++[32,40]++Lib.join ((r.Params.map fX).take i) [44,32]) _ (by omega) _ (by simp [Lib.join,jr]) (fun self t i x hP hx hi mem e'=>?_) (fun self t hP=>?_)
 ·subst hP
  have b1:=ZbL [44,32] (r.Params.map fX) i
  have hk:=AL x.Ty;have hnx:=(ok.Params.2 x mem).Name
  have hx':(r.Params.map fX)[i]? = some (fX x):=by rw [aP,hx];rfl
  have hs2:=take_succ' hx'
  rw [Jl]
  simp only [Zg hi,cond_true,Zf,hx,Zn,ZeZ L (g1 x mem),wrap_succ hi (show r.Params.length≤4611686018427387904 by omega)]
  by_cases c:i=0
  ·rw [show decide ((i:Int)>0)=false by simp;omega,cond_false]
   rw [Zh (by ((simp only [aZ,dB,az];omega))),Zh (by ((simp only [aZ,dB,az];omega))),Zh (by ((simp only [aZ,dB,az];omega)))]
   refine e' _ ?_
   rw [hs2,Rw,if_pos (by rw [c];rfl),c]
   simp [Lib.join,jr,fX]
  ·rw [show decide ((i:Int)>0)=true by simp;omega,cond_true]
   rw [Zh (by ((simp only [aZ,dB,az];omega))),Zh (by ((simp only [aZ,dB,az];omega))),Zh (by ((simp only [aZ,dB,az];omega))),Zh (by ((simp only [aZ,dB,az];omega)))]
   refine e' _ ?_
   rw [hs2,Rw,if_neg (by
    intro e
    have:=congrArg iM e
    rw [bU,dF] at this
    simp only [az] at this
    omega)]
   simp [fX]
 ·have e:(r.Params.map fX).take r.Params.length=r.Params.map fX:=by rw [← dF (f := fX),jl]
  rw [e] at hP
  subst hP
  rw [Jl]
  simp only [Zd,cond_false]
  rw [Zh (by ((simp only [aZ,dB,az];omega))),← hjj,hr,Zn]
  exact e1 _ (by omega) rfl
def DT (d:Za)(s:Y1):List ZX:=match d.Routines[(JE (fun r:Zx=>decide (r.Name=s.Routine)) d.Routines 0).toNat]? with
 |some r=>r.Params
 |none=>[]
def vaX (ps:List ZX)(l:List Int):List (List UInt8):=List.zipWith (fun (p:ZX) a=>Zjv p.Ty a) ps l
def ZaG (d:Za)(s:Y1):List (List UInt8):=[[115,116,97,114,116],s.Routine,40::(Lib.join (vaX (DT d s) s.Args) [44,32]++[41]),[97,116],Lib.itoa s.At_]
def Zez (d:Za)(s:Y1):List (List UInt8):=ZaG d s++(if s.Every=0 then [] else [[101,118,101,114,121],Lib.itoa s.Every,[117,110,116,105,108],Lib.itoa s.Until])
def Zes (d:Za)(s:Y1):List UInt8:=ZG 2 (Lib.join (Zez d s) [32])
theorem Zle {ps:List ZX}{l:List Int}{i:Nat}{p:ZX}{a:Int}(h1:ps[i]? = some p)(h2:l[i]? = some a):(vaX ps l)[i]? = some (Zjv p.Ty a):=by
 unfold vaX;rw [List.getElem?_zipWith,h1,h2]
theorem ZgP (ps:List ZX)(l:List Int)(h:l.length=ps.length):(vaX ps l).length=l.length:=by unfold vaX;simp [h]
theorem ZiR (L:Nat)(s:Y1)(r:Zx)(ok:Ux s)(hL:s.Args.length<L)(hlen:s.Args.length=r.Params.length)(h6:s.Args.length≤6)(hf:∀(i:Nat) (p:ZX) (a:Int),r.Params[i]? = some p→s.Args[i]? = some a→fitsT p.Ty a=true)(c:List UInt8×Int)(A:Option (PUnit×(List UInt8×Int)×PUnit))
  (hA:ZL s c L r (fun _=>none) (vaX r.Params s.Args,(s.Args.length:Int),())=A):loopT (ZL s c L r) L ([],0,())=A:=by
 have h16:s.Args.length*8≤140737488351232:=ok.Args.1
 refine Gi (f := ZL s c L r) s.Args (fun i t=>t=(vaX r.Params s.Args).take i) _ hL _ (by simp) (fun self t i x hP hx hi mem e'=>?_) (fun self t hP=>?_)
 ·subst hP
  obtain ⟨p,hp⟩:∃p,r.Params[i]? = some p:=⟨_,bG (by omega)⟩
  have hv:=(ZbX L (ok.Args.2 x mem) (hf i p x hp hx)).1
  rw [ZL]
  simp only [Zg hi,cond_true,Zf,hx,Zn,show decide ((i:Int)<(r.Params.length:Int))=true by simp;omega,hp,hv,wrap_succ hi (show s.Args.length≤4611686018427387904 by omega)]
  rw [Ah (by simp only [bU,dB,az];omega)]
  exact e' _ (take_succ' (Zle hp hx)).symm
 ·rw [show (vaX r.Params s.Args).take s.Args.length=vaX r.Params s.Args by rw [← ZgP r.Params s.Args hlen,jl]] at hP
  subst hP
  rw [← hA,ZL,ZL]
  simp only [Zd,cond_false]
theorem ZkU (d:Za)(s:Y1)(gd:Ze3 d)(h:WQ d s=0):∃(k:Nat) (r:Zx),d.Routines[k]? = some r∧JE (fun r:Zx=>decide (r.Name=s.Routine)) d.Routines 0=k∧DT d s=r.Params∧s.Args.length=r.Params.length∧s.Args.length≤6∧∀(i:Nat) (p:ZX) (a:Int),r.Params[i]? = some p→s.Args[i]? = some a→fitsT p.Ty a=true:=by
 obtain ⟨k,r,h1,h2,h3,h4⟩:=Zk5 h
 obtain ⟨-,-,g3,-,-⟩:=Zcx (gd.rou r (aS h1))
 refine ⟨k,r,h1,h2,?_,h3,by omega,h4⟩
 unfold DT
 rw [h2,jk,h1]
theorem ZlT (L:Nat)(d:Za)(s:Y1)(hr:Len d.Routines)(hrL:d.Routines.length<L)(gd:Ze3 d)(ok:Ux s)(g:WQ d s=0)(hL:s.Args.length<L)(b:List UInt8)(hb:b.length+(Zes d s).length≤4398046511104) :
  Y6 L (d,s,()) (b,2)=some ((),(b++Zes d s,2)):=by
 obtain ⟨k,r,h1,h2,h3,h4,h5,h6⟩:=ZkU d s gd g
 have hk:=(ag.1 h1).1
 have hb2:=hb
 unfold Zes at hb2
 rw [ZC] at hb2
 have hpl:Zc L (Zez d s,()) (b,2)=some ((),(b++Zes d s,2)):=YV L (Zez d s) b 2 (by unfold Zez ZaG;split<;>simp) hb
 have hj:(Lib.join (vaX (DT d s) s.Args) [44,32]).length≤4398046511104:=by
  have:=Dz [32] (a := Zez d s) (x := 40::(Lib.join (vaX (DT d s) s.Args) [44,32]++[41])) (by simp [Zez,ZaG])
  simp only [dB,aZ,az] at this
  omega
 rw [Gn,PW L d s.Routine hr hrL,Zn,h2]
 rw [show (decide ((k:Int)≥0)&&decide ((k:Int)<(d.Routines.length:Int)))=true by simp;omega,cond_true,Zf,h1,Zn]
 rw [ZiR L s r ok hL h4 h5 h6 (b,2) (some ((),(b++Zes d s,2),())) (by
  rw [ZL]
  simp only [Zd,cond_false,ZR ok.At_,ZR ok.Every,ZR ok.Until,Zn]
  rw [h3] at hj
  rw [ZbN (by rw [ZgP _ _ h4];omega) (by omega)]
  simp only [Zn]
  rw [Zh (by ((simp only [aZ,dB,az];omega))),Zh (by ((simp only [aZ,dB,az];omega)))]
  unfold Zez ZaG at hpl
  rw [h3] at hpl
  simp only [gB,bn] at hpl ⊢
  by_cases c:s.Every=0
  ·simp only [c,ZI,decide_true,fF,cond_false]
   rw [if_pos c] at hpl
   rw [hpl];rfl
  ·simp only [c,ZI,decide_false,ja,cond_true]
   rw [if_neg c] at hpl
   rw [Ah (by simp)]
   simp only [gB,bn]
   rw [hpl];rfl)]
 rfl
theorem Zkn (L:Nat)(h1L:100≤L)(d:Za)(hd:Z8 d)(hs:Sh L d)(s:Y1)(gd:Ze3 d)(ok:Ux s)(g:WQ d s=0)(hL:s.Args.length<L)(hb:(Zes d s).length≤4398046511104) :
  UQ L (d,s,())=some (Zes d s):=by
 obtain ⟨k,r,h1,h2,h3,h4,h5,h6⟩:=ZkU d s gd g
 have hb2:=hb
 unfold Zes at hb2
 rw [ZC] at hb2
 have hn:=ok.Routine;have lA:=Z9 ok.At_;have lE:=Z9 ok.Every;have lU:=Z9 ok.Until
 have hj:(Lib.join (vaX r.Params s.Args) [44,32]).length≤4398046511104:=by
  have:=Dz [32] (a := Zez d s) (x := 40::(Lib.join (vaX (DT d s) s.Args) [44,32]++[41])) (by simp [Zez,ZaG])
  rw [h3] at this
  simp only [dB,aZ,az] at this
  omega
 have hpl:Zu L (2,Lib.join (Zez d s) [32],())=some (Zes d s):=Qn L 2 _ (by omega) hb
 rw [Zf2,Zbe L d hd hs,h2]
 rw [Zh (by ((simp only [aZ,dB,az];omega))),Zh (by ((simp only [aZ,dB,az];omega)))]
 simp only [Zn,Zf,h1]
 refine Gi (f := Kr s L r) s.Args (fun i t=>t=[115,116,97,114,116,32]++s.Routine++[32,40]++Lib.join ((vaX r.Params s.Args).take i) [44,32]) _ hL _ (by simp [Lib.join,jr]) (fun self t i x hP hx hi mem e'=>?_) (fun self t hP=>?_)
 ·subst hP
  obtain ⟨p,hp⟩:∃p,r.Params[i]? = some p:=⟨_,bG (by omega)⟩
  have hv:=(ZbX L (ok.Args.2 x mem) (h6 i p x hp hx)).2
  have hvl:=ZcI p.Ty (ok.Args.2 x mem)
  have b1:=ZbL [44,32] (vaX r.Params s.Args) i
  have hs2:=take_succ' (Zle hp hx)
  rw [Kr]
  simp only [Zg hi,cond_true,Zf,hx,hp,Zn,hv,wrap_succ hi (show s.Args.length≤4611686018427387904 by omega)]
  by_cases c:i=0
  ·rw [show decide ((i:Int)>0)=false by simp;omega,cond_false]
   rw [Zh (by ((simp only [aZ,dB,az];omega)))]
   refine e' _ ?_
   rw [hs2,Rw,if_pos (by rw [c];rfl),c]
   simp [Lib.join,jr]
  ·rw [show decide ((i:Int)>0)=true by simp;omega,cond_true]
   rw [Zh (by ((simp only [aZ,dB,az];omega))),Zh (by ((simp only [aZ,dB,az];omega)))]
   refine e' _ ?_
   rw [hs2,Rw,if_neg (by
    intro e
    have:=congrArg iM e
    rw [bU,ZgP _ _ h4] at this
    simp only [az] at this
    omega)]
   simp
 ·rw [show (vaX r.Params s.Args).take s.Args.length=vaX r.Params s.Args by rw [← ZgP r.Params s.Args h4,jl]] at hP
  subst hP
  rw [Kr]
  simp only [Zd,cond_false,ZR ok.At_,ZR ok.Every,ZR ok.Until,Zn]
  have e0:Lib.join (ZaG d s) [32]=[115,116,97,114,116,32]++s.Routine++[32,40]++Lib.join (vaX r.Params s.Args) [44,32]++[41,32,97,116,32]++Lib.itoa s.At_:=by
   unfold ZaG;rw [h3];simp [G6,jn1]
  rw [Zh (by ((simp only [aZ,dB,az];omega))),Zh (by ((simp only [aZ,dB,az];omega)))]
  by_cases c:s.Every=0
  ·simp only [c,ZI,decide_true,fF,cond_false]
   have e:Zez d s=ZaG d s:=by unfold Zez;rw [if_pos c,fZ]
   rw [e,e0] at hpl
   rw [hpl];rfl
  ·simp only [c,ZI,decide_false,ja,cond_true]
   have e:Lib.join (Zez d s) [32]=[115,116,97,114,116,32]++s.Routine++[32,40]++Lib.join (vaX r.Params s.Args) [44,32]++[41,32,97,116,32]++Lib.itoa s.At_++[32,101,118,101,114,121,32]++Lib.itoa s.Every++[32,117,110,116,105,108,32]++Lib.itoa s.Until:=by
    unfold Zez;rw [if_neg c,NR _ _ (by simp [ZaG]),e0];simp [spX]
   rw [e] at hpl
   rw [Zh (by ((simp only [aZ,dB,az];omega))),Zh (by ((simp only [aZ,dB,az];omega))),Zh (by ((simp only [aZ,dB,az];omega))),Zh (by ((simp only [aZ,dB,az];omega))),hpl];rfl
def ZjA (n:Int):Int:=if n<0 then -n else n
def sgC (i:Nat)(n:Int):List UInt8:=if i=0 then (if n<0 then [45] else []) else []
def pvC (i:Nat)(n:Int):List (List UInt8):=if i=0 then [] else (if n<0 then [[45]] else [[43]])
def tmW (i:Nat)(t:Vl):List (List UInt8):=pvC i t.Coef++(if ZjA t.Coef=1 then [sgC i t.Coef++t.What,t.Name] else [sgC i t.Coef++Lib.itoa (ZjA t.Coef),[42],t.What,t.Name])
def BH:Nat→List Vl→List (List UInt8)
 |_,[]=>[]
 |i,t::l=>tmW i t++BH (i+1) l
theorem ZcF:∀(l m:List Vl) (i:Nat),BH i (l++m)=BH i l++BH (i+l.length) m
 | [],m,i=>by simp [BH]
 |t::l,m,i=>by
  rw [gB,BH,BH,ZcF l m (i+1),dB,show i+1+l.length=i+(l.length+1) by omega]
  simp
theorem ZgN {l:List Vl}{i:Nat}{x:Vl}(h:l[i]? = some x):BH 0 (l.take (i+1))=BH 0 (l.take i)++tmW i x:=by
 have hi:=(ag.1 h).1
 rw [take_succ' h,ZcF,bU,show 0+min i l.length=i by omega]
 simp [BH]
theorem Zo9 (i:Nat)(t:Vl):(tmW i t).length≤5:=by
 unfold tmW pvC
 repeat' split
 all_goals simp
theorem Zk9:∀(l:List Vl) (i:Nat),(BH i l).length≤5*l.length
 | [],i=>by simp [BH]
 |t::l,i=>by
  have:=Zo9 i t;have:=Zk9 l (i+1)
  rw [BH,aZ,dB];omega
def Zi1 (l:Oj):List (List UInt8):=[[99,111,110,115,101,114,118,101],l.Name,[58]]++(BH 0 l.Terms++[[61],Lib.itoa l.Total])
def Zex (l:Oj):List UInt8:=ZG 2 (Lib.join (Zi1 l) [32])
theorem ZlG (L:Nat)(l:Oj)(ok:ZcW l)(hL:l.Terms.length<L)(h8:l.Terms.length≤8)(hc:∀t∈l.Terms,-1000≤t.Coef∧t.Coef≤1000)(b:List UInt8)(hb:b.length+(Zex l).length≤4398046511104) :
  YR L (l,()) (b,2)=some ((),(b++Zex l,2)):=by
 have hpl:Zc L (Zi1 l,()) (b,2)=some ((),(b++Zex l,2)):=YV L (Zi1 l) b 2 (by
  have:=Zk9 l.Terms 0
  unfold Zi1
  simp only [aZ,dB,az];omega) hb
 rw [Ob]
 rw [Gi (f := Wv l (b,2) L) l.Terms (fun i s=>s=[[99,111,110,115,101,114,118,101],l.Name,[58]]++BH 0 (l.Terms.take i)) (some ((),(b++Zex l,2),())) hL _ (by simp [BH]) (fun self s i x hP hx hi mem e'=>by
  subst hP
  obtain ⟨c1,c2⟩:=hc x mem
  have hw:IntKind.i64.wrap (0 - x.Coef)=-x.Coef:=by rw [ZaH (by omega) (by omega)];omega
  have okx:=ok.Terms.2 x mem
  have hW:=okx.What
  have hn:=Zk9 (l.Terms.take i) 0
  rw [bU] at hn
  have lp:=Z9 (n := x.Coef) ⟨by omega,by omega⟩;have ln:=Z9 (n := -x.Coef) ⟨by omega,by omega⟩
  have e':=e' _ (by rw [ZgN hx,← bJ])
  rw [Wv]
  simp only [Zg hi,cond_true,Zf,hx,Zn,hw,wrap_succ hi (show l.Terms.length≤4611686018427387904 by omega),ZR (show bd x.Coef from ⟨by omega,by omega⟩),ZR (show bd (-x.Coef) from ⟨by omega,by omega⟩),ZI]
  have aps:∀{a m:List (List UInt8)} {ρ:Type} {k:List (List UInt8)→Option ρ},a.length≤100→m.length≤10→bT (apT 16 a m) k=k (a++m):=fun h1 h2=>Ah (by omega)
  have h0:([[99,111,110,115,101,114,118,101],l.Name,[58]]++BH 0 (l.Terms.take i)).length≤60:=by simp only [aZ,dB,az];omega
  generalize [[99,111,110,115,101,114,118,101],l.Name,[58]]++BH 0 (l.Terms.take i)=B at h0 e' ⊢
  unfold tmW pvC sgC ZjA at e'
  by_cases n0:x.Coef<0<;>by_cases i0:i=0
  ·rw [show decide (x.1<0)=true by simpa using n0,show decide ((i:Int)>0)=false by simp;omega]
   simp only [n0,i0,if_true] at e'
   by_cases o1:-x.Coef=1
   ·simp only [o1,if_true,decide_true,fF,cond_true,cond_false] at e' ⊢
    rw [Zh (by ((simp only [aZ,dB,az];omega))),aps (by omega) (by simp),i0]
    exact e'
   ·simp only [o1,if_false,decide_false,ja,cond_true,cond_false] at e' ⊢
    rw [Zh (by ((simp only [aZ,dB,az];omega))),aps (by omega) (by simp),i0]
    exact e'
  ·rw [show decide (x.1<0)=true by simpa using n0,show decide ((i:Int)>0)=true by simp;omega]
   simp only [n0,i0,if_true,if_false] at e'
   by_cases o1:-x.Coef=1
   ·simp only [o1,if_true,decide_true,fF,cond_true,cond_false] at e' ⊢
    rw [aps (by omega) (by simp),Zh (by ((simp only [aZ,dB,az];omega))),aps (by simp;omega) (by simp),← e']
    simp
   ·simp only [o1,if_false,decide_false,ja,cond_true,cond_false] at e' ⊢
    rw [aps (by omega) (by simp),Zh (by ((simp only [aZ,dB,az];omega))),aps (by simp;omega) (by simp),← e']
    simp
  ·rw [show decide (x.1<0)=false by simpa using n0,show decide ((i:Int)>0)=false by simp;omega]
   simp only [n0,i0,if_true,if_false] at e'
   by_cases o1:x.Coef=1
   ·simp only [o1,if_true,decide_true,fF,cond_true,cond_false] at e' ⊢
    rw [Zh (by ((simp only [aZ,dB,az];omega))),aps (by omega) (by simp),i0]
    exact e'
   ·simp only [o1,if_false,decide_false,ja,cond_true,cond_false] at e' ⊢
    rw [Zh (by ((simp only [aZ,dB,az];omega))),aps (by omega) (by simp),i0]
    exact e'
  ·rw [show decide (x.1<0)=false by simpa using n0,show decide ((i:Int)>0)=true by simp;omega]
   simp only [n0,i0,if_true,if_false] at e'
   by_cases o1:x.Coef=1
   ·simp only [o1,if_true,decide_true,fF,cond_true,cond_false] at e' ⊢
    rw [aps (by omega) (by simp),Zh (by ((simp only [aZ,dB,az];omega))),aps (by simp;omega) (by simp),← e']
    simp
   ·simp only [o1,if_false,decide_false,ja,cond_true,cond_false] at e' ⊢
    rw [aps (by omega) (by simp),Zh (by ((simp only [aZ,dB,az];omega))),aps (by simp;omega) (by simp),← e']
    simp) (fun self s hP=>by
  rw [jl] at hP
  subst hP
  have:=Zk9 l.Terms 0
  rw [Wv]
  simp only [Zd,cond_false,ZR ok.Total,Zn]
  rw [Ah (by simp only [aZ,dB,az];omega),bJ]
  rw [show [[99,111,110,115,101,114,118,101],l.Name,[58]]++(BH 0 l.Terms++[[61],Lib.itoa l.Total])=Zi1 l from rfl,hpl]
  rfl)]
 rfl
theorem Zkj (L:Nat)(h2:2<L)(l:Oj)(ok:ZcW l)(hL:l.Terms.length<L)(h8:l.Terms.length≤8)(hc:∀t∈l.Terms,-1000≤t.Coef∧t.Coef≤1000)(hb:(Zex l).length≤4398046511104) :
  TY L (l,())=some (Zex l):=by
 have hpl:Zu L (2,Lib.join (Zi1 l) [32],())=some (Zex l):=Qn L 2 _ h2 hb
 have hn:=ok.Name;have lT:=Z9 ok.Total
 have hj:Lib.join (Zi1 l) [32]=[99,111,110,115,101,114,118,101,32]++l.Name++[32,58]++spX (BH 0 l.Terms)++[32,61,32]++Lib.itoa l.Total:=by
  unfold Zi1
  rw [NR _ _ (by simp)]
  simp [G6,jn1,spX]
 have hT:(Lib.join (Zi1 l) [32]).length≤4398046511104:=by unfold Zex at hb;rw [ZC] at hb;omega
 rw [hj] at hT hpl
 have hsp:∀a b:List (List UInt8),spX (a++b)=spX a++spX b:=fun a b=>by simp [spX]
 have hle:∀i,(spX (BH 0 (l.Terms.take i))).length≤(spX (BH 0 l.Terms)).length:=fun i=>by
  have:=congrArg iM (congrArg (fun m=>spX (BH 0 m)) (jC i l.Terms))
  simp only [ZcF,hsp,aZ] at this
  omega
 simp only [aZ,dB,az] at hT
 rw [ZiZ]
 rw [Zh (by ((simp only [aZ,dB,az];omega))),Zh (by ((simp only [aZ,dB,az];omega)))]
 refine Gi (f := MH l L) l.Terms (fun i t=>t=[99,111,110,115,101,114,118,101,32]++l.Name++[32,58]++spX (BH 0 (l.Terms.take i))) _ hL _ (by simp [BH,spX]) (fun self t i x hP hx hi mem e'=>?_) (fun self t hP=>?_)
 ·subst hP
  obtain ⟨c1,c2⟩:=hc x mem
  have hw:IntKind.i64.wrap (0 - x.Coef)=-x.Coef:=by rw [ZaH (by omega) (by omega)];omega
  have okx:=ok.Terms.2 x mem
  have hW:=okx.What;have hN:=okx.Name
  have lp:=Z9 (n := x.Coef) ⟨by omega,by omega⟩;have ln:=Z9 (n := -x.Coef) ⟨by omega,by omega⟩
  have h3:=hle i
  have e':=e' _ (by rw [ZgN hx,hsp,← bJ])
  have h0:([99,111,110,115,101,114,118,101,32]++l.Name++[32,58]++spX (BH 0 (l.Terms.take i))).length≤4398046511104:=by ((simp only [aZ,dB,az];omega))
  rw [MH]
  simp only [Zg hi,cond_true,Zf,hx,Zn,hw,wrap_succ hi (show l.Terms.length≤4611686018427387904 by omega),ZR (show bd x.Coef from ⟨by omega,by omega⟩),ZR (show bd (-x.Coef) from ⟨by omega,by omega⟩),ZI,ZQ]
  generalize [99,111,110,115,101,114,118,101,32]++l.Name++[32,58]++spX (BH 0 (l.Terms.take i))=B at h0 e' ⊢
  clear hpl hj hT hle h3 hb
  unfold tmW pvC sgC ZjA spX at e'
  have fin:∀(pre:List UInt8) (c:Int) (s:List UInt8),pre.length≤10→(Lib.itoa c).length≤21→(bif !decide (c=1) then bT (some (Lib.itoa c)) fun y_2=>bT (catS (B++pre) y_2) fun y_3=>bT (catS y_3 [32,42,32]) fun y_4=>bT (catS y_4 x.2) fun y_5=>bT (catS y_5 [32]) fun y_6=>bT (catS y_6 x.3) fun y=>self (y,(i:Int)+1,()) else bT (catS (B++pre) x.2) fun y_2=>bT (catS y_2 [32]) fun y_3=>bT (catS y_3 x.3) fun y=>self (y,(i:Int)+1,()))=self (B++(pre++(if c=1 then x.What++(32::x.Name) else Lib.itoa c++([32,42,32]++(x.What++(32::x.Name))))),(i:Int)+1,()):=fun pre c s hp hc=>by
   by_cases o1:c=1
   ·simp only [o1,decide_true,fF,cond_false,if_true]
    rw [Zh (by ((simp only [aZ,dB,az];omega))),Zh (by ((simp only [aZ,dB,az];omega))),Zh (by ((simp only [aZ,dB,az];omega)))]
    simp
   ·simp only [o1,decide_false,ja,cond_true,if_false,Zn]
    rw [Zh (by ((simp only [aZ,dB,az];omega))),Zh (by ((simp only [aZ,dB,az];omega))),Zh (by ((simp only [aZ,dB,az];omega))),Zh (by ((simp only [aZ,dB,az];omega))),Zh (by ((simp only [aZ,dB,az];omega)))]
    simp
  by_cases n0:x.Coef<0<;>by_cases i0:i=0
  ·rw [show decide (x.1<0)=true by simpa using n0,show decide ((i:Int)=0)=true by simp;omega]
   simp only [n0,i0,if_true] at e'
   simp only [Bool.and_true,cond_true]
   rw [Zh (by ((simp only [aZ,dB,az];omega)))]
   refine (fin [32,45] (-x.Coef) [] (by simp) ln).trans ?_
   rw [i0]
   refine Eq.trans ?_ e'
   by_cases o1:-x.Coef=1<;>simp [o1]
  ·rw [show decide (x.1<0)=true by simpa using n0,show decide ((i:Int)=0)=false by simp;omega]
   simp only [n0,i0,if_true,if_false] at e'
   simp only [Bool.and_false,cond_true,cond_false]
   rw [Zh (by ((simp only [aZ,dB,az];omega)))]
   refine (fin [32,45,32] (-x.Coef) [] (by simp) ln).trans ?_
   refine Eq.trans ?_ e'
   by_cases o1:-x.Coef=1<;>simp [o1]
  ·rw [show decide (x.1<0)=false by simpa using n0,show decide ((i:Int)=0)=true by simp;omega]
   simp only [n0,i0,if_true,if_false] at e'
   simp only [jg,cond_true,cond_false]
   rw [Zh (by ((simp only [aZ,dB,az];omega)))]
   refine (fin [32] x.Coef [] (by simp) lp).trans ?_
   rw [i0]
   refine Eq.trans ?_ e'
   by_cases o1:x.Coef=1<;>simp [o1]
  ·rw [show decide (x.1<0)=false by simpa using n0,show decide ((i:Int)=0)=false by simp;omega]
   simp only [n0,i0,if_true,if_false] at e'
   simp only [jg,cond_true,cond_false]
   rw [Zh (by ((simp only [aZ,dB,az];omega)))]
   refine (fin [32,43,32] x.Coef [] (by simp) lp).trans ?_
   refine Eq.trans ?_ e'
   by_cases o1:x.Coef=1<;>simp [o1]
 ·rw [jl] at hP
  subst hP
  rw [MH]
  simp only [Zd,cond_false,ZR ok.Total,Zn]
  rw [Zh (by ((simp only [aZ,dB,az];omega))),Zh (by ((simp only [aZ,dB,az];omega))),hpl]
  rfl
def Zjl (x:ZO):List UInt8:=ZG 2 (Lib.join [[115,116,111,114,101],x.Name,Lib.itoa x.Room,Zku x.Policy] [32])
def ZhN (x:Yv):List UInt8:=ZG 2 (Lib.join [[98,101,108,116],x.Name,Lib.itoa x.Length,Lib.itoa x.Step] [32])
def nmT (d:Za):List UInt8:=namesT [113,117,101,117,101] d.Queues++(namesT [115,116,114,101,97,109] d.Streams++(namesT [116,97,108,108,121] d.Tallies++(namesT [108,101,118,101,108] d.Levels++namesT [99,111,117,110,116] d.Counts)))
def sT0 (d:Za):List UInt8:=(d.Laws.map Zex).flatten
def sT1 (d:Za):List UInt8:=(d.Starts.map (Zes d)).flatten++sT0 d
def sT2 (d:Za):List UInt8:=(d.Routines.map (Zbn 2)).flatten++sT1 d
def sT3 (d:Za):List UInt8:=(d.Belts.map ZhN).flatten++(nmT d++sT2 d)
def sT4 (d:Za):List UInt8:=(d.Stores.map Zjl).flatten++sT3 d
def sT5 (d:Za):List UInt8:=(d.Resources.map resT).flatten++sT4 d
def Bd (d:Za):List UInt8:=ZG 1 (Lib.join [[115,105,116,101],d.Name] [32])++(Xd 2 [118,97,114] d.Vars++(sT5 d++ZG 1 [101,110,100]))
structure SG (L:Nat)(d:Za):Prop where
 ok:Z8 d
 g:Ze3 d
 L0:3*SizeOf.sizeOf d≤L
 L1:1001≤L
 vars:d.Vars.length<L
 res:d.Resources.length<L
 sto:d.Stores.length<L
 bel:d.Belts.length<L
 que:d.Queues.length<L
 str:d.Streams.length<L
 tal:d.Tallies.length<L
 lev:d.Levels.length<L
 cou:d.Counts.length<L
 rou:d.Routines.length<L
 sta:d.Starts.length<L
 law:d.Laws.length<L
 lens:d.Vars.length≤4611686018427387∧d.Resources.length≤4611686018427387∧d.Stores.length≤4611686018427387∧d.Belts.length≤4611686018427387∧d.Queues.length≤4611686018427387∧d.Streams.length≤4611686018427387∧d.Tallies.length≤4611686018427387∧d.Levels.length≤4611686018427387∧d.Counts.length≤4611686018427387∧d.Routines.length≤4611686018427387∧d.Starts.length≤4611686018427387∧d.Laws.length≤4611686018427387
theorem SG.of {L:Nat}{d:Za}(ok:Z8 d)(g:Ze3 d)(hL:3*SizeOf.sizeOf d≤L)(h1:1001≤L):SG L d:=by
 have hz:=Wh d
 have a1:=Z4 d.Vars;have a2:=Z4 d.Resources;have a3:=Z4 d.Stores;have a4:=Z4 d.Belts;have a5:=Z4 d.Queues;have a6:=Z4 d.Streams;have a7:=Z4 d.Tallies;have a8:=Z4 d.Levels;have a9:=Z4 d.Counts;have aa:=Z4 d.Routines;have ab:=Z4 d.Starts;have ac:=Z4 d.Laws
 have b1:=ok.Vars.1;have b2:=ok.Resources.1;have b3:=ok.Stores.1;have b4:=ok.Belts.1;have b5:=ok.Queues.1;have b6:=ok.Streams.1;have b7:=ok.Tallies.1;have b8:=ok.Levels.1;have b9:=ok.Counts.1;have ba:=ok.Routines.1;have bb:=ok.Starts.1;have bc:=ok.Laws.1
 refine ⟨ok,g,hL,h1,?_,?_,?_,?_,?_,?_,?_,?_,?_,?_,?_,?_,?_⟩
 all_goals omega
theorem ZcD {α:Type}[SizeOf α]{l:List α}{x:α}(h:x∈l):SizeOf.sizeOf x<SizeOf.sizeOf l:=jR h
theorem ZkX (s:Y1):SizeOf.sizeOf s.Args<SizeOf.sizeOf s:=by cases s;simp;omega
theorem ZoY (L:Nat)(d:Za)(h:SG L d)(b:List UInt8)(hb:b.length+(sT0 d).length≤4398046511104):loopT (Yd d L) L (0,(b,((2:Nat):Int)),())=some ((),(b++sT0 d,((2:Nat):Int)),()) :=
 AX (f := Yd d L) d.Laws Zex 2 (fun b=>some ((),(b,((2:Nat):Int)),())) h.law b hb (fun self b i x hx hi mem hbb=>by
  have hl:=h.lens;have hm:=ZnG mem;have hz:=Wh d;have hL:=h.L0
  obtain ⟨g1,g2⟩:=law_good (h.g.law x mem)
  have e:YR L (x,()) (b,((2:Nat):Int))=some ((),(b++Zex x,((2:Nat):Int))):=ZlG L x (h.ok.Laws.2 x mem) (by omega) g1 g2 b hbb
  rw [Yd]
  simp only [Zg hi,cond_true,Zf,hx,Zn,e,wrap_succ hi (show d.Laws.length≤4611686018427387904 by omega)]) (fun self b=>by
  rw [Yd]
  simp only [Zd,cond_false])
theorem ZoZ (L:Nat)(d:Za)(h:SG L d)(b:List UInt8)(hb:b.length+(sT1 d).length≤4398046511104):loopT (Ye d L) L (0,(b,((2:Nat):Int)),())=some ((),(b++sT1 d,((2:Nat):Int)),()):=by
 unfold sT1 at hb ⊢
 rw [aZ] at hb
 rw [AX (f := Ye d L) d.Starts (Zes d) 2 (fun b=>loopT (Yd d L) L (0,(b,((2:Nat):Int)),())) h.sta b (by omega) (fun self b i x hx hi mem hbb=>by
  have hl:=h.lens;have hz:=Wh d;have hL:=h.L0;have hm:=ZcD mem;have h2:=ZkX x;have h3:=Z4 x.Args
  have e:Y6 L (d,x,()) (b,((2:Nat):Int))=some ((),(b++Zes d x,((2:Nat):Int))):=ZlT L d x (by unfold Len;omega) h.rou h.g (h.ok.Starts.2 x mem) (h.g.sta x mem) (by omega) b hbb
  rw [Ye]
  simp only [Zg hi,cond_true,Zf,hx,Zn,e,wrap_succ hi (show d.Starts.length≤4611686018427387904 by omega)]) (fun self b=>by
  rw [Ye]
  simp only [Zd,cond_false])]
 rw [ZoY L d h _ (by rw [aZ];omega),bJ]
theorem Zjc {d:Za}{x:Zx}(h:x∈d.Routines):(Zbn 2 x).length≤((d.Routines.map (Zbn 2)).flatten).length:=by
 have:Zbn 2 x∈d.Routines.map (Zbn 2):=iQ h
 generalize d.Routines.map (Zbn 2)=l at this
 induction l with
 |nil=>cases this
 |cons y l ih =>
  rw [cu,aZ]
  rcases gZ.1 this with e|e
  ·rw [← e];omega
  ·have:=ih e;omega
theorem Zpa (L:Nat)(d:Za)(h:SG L d)(b:List UInt8)(hB:(sT2 d).length≤2199023255552)(hb:b.length+(sT2 d).length≤4398046511104):loopT (Yf d L) L (0,(b,((2:Nat):Int)),())=some ((),(b++sT2 d,((2:Nat):Int)),()):=by
 unfold sT2 at hb hB ⊢
 rw [aZ] at hb hB
 rw [AX (f := Yf d L) d.Routines (Zbn 2) 2 (fun b=>loopT (Ye d L) L (0,(b,((2:Nat):Int)),())) h.rou b (by omega) (fun self b i x hx hi mem hbb=>by
  have hl:=h.lens;have hz:=Wh d;have hL:=h.L0;have hm:=ZcD mem;have h2:=Zjc mem
  have e:=ZlP L h.L1 x (h.ok.Routines.2 x mem) (h.g.rou x mem) (by omega) 2 b (by omega) hbb
  rw [Yf]
  simp only [Zg hi,cond_true,Zf,hx,Zn,e,wrap_succ hi (show d.Routines.length≤4611686018427387904 by omega)]) (fun self b=>by
  rw [Yf]
  simp only [Zd,cond_false])]
 rw [ZoZ L d h _ (by rw [aZ];omega),bJ]
theorem DJ (L:Nat)(w:List UInt8)(l:List (List UInt8))(b:List UInt8)(hL:l.length<L)(hl:l.length≤4611686018427387904)(hb:b.length+(namesT w l).length≤4398046511104) :
  Zz L (w,l,()) (b,((2:Nat):Int))=some ((),(b++namesT w l,((2:Nat):Int))):=ZlK L w l b hL hl hb
theorem Zpb (L:Nat)(d:Za)(h:SG L d)(b:List UInt8)(hB:(sT3 d).length≤2199023255552)(hb:b.length+(sT3 d).length≤4398046511104):loopT (Yg d L) L (0,(b,((2:Nat):Int)),())=some ((),(b++sT3 d,((2:Nat):Int)),()):=by
 have hl:=h.lens
 unfold sT3 nmT at hb hB ⊢
 simp only [aZ] at hb hB
 rw [AX (f := Yg d L) d.Belts ZhN 2 (fun b=>bT (Zz L ([113,117,101,117,101],d.Queues,()) (b,((2:Nat):Int))) fun y=>bT (Zz L ([115,116,114,101,97,109],d.Streams,()) (y.snd.1,y.snd.2)) fun y=>bT (Zz L ([116,97,108,108,121],d.Tallies,()) (y.snd.1,y.snd.2)) fun y=>bT (Zz L ([108,101,118,101,108],d.Levels,()) (y.snd.1,y.snd.2)) fun y=>bT (Zz L ([99,111,117,110,116],d.Counts,()) (y.snd.1,y.snd.2)) fun y=>loopT (Yf d L) L (0,(y.snd.1,y.snd.2),())) h.bel b (by omega) (fun self b i x hx hi mem hbb=>by
  have okx:=h.ok.Belts.2 x mem
  rw [Yg]
  simp only [Zg hi,cond_true,Zf,hx,Zn,ZR okx.Length,ZR okx.Step,wrap_succ hi (show d.Belts.length≤4611686018427387904 by omega)]
  rw [YV L _ b 2 (by simp) hbb]
  rfl) (fun self b=>by
  rw [Yg]
  simp only [Zd,cond_false])]
 rw [DJ L _ d.Queues _ h.que (by omega) (by simp only [aZ];omega)]
 simp only [Zn]
 rw [DJ L _ d.Streams _ h.str (by omega) (by simp only [aZ];omega)]
 simp only [Zn]
 rw [DJ L _ d.Tallies _ h.tal (by omega) (by simp only [aZ];omega)]
 simp only [Zn]
 rw [DJ L _ d.Levels _ h.lev (by omega) (by simp only [aZ];omega)]
 simp only [Zn]
 rw [DJ L _ d.Counts _ h.cou (by omega) (by simp only [aZ];omega)]
 simp only [Zn]
 rw [Zpa L d h _ (by omega) (by simp only [aZ];omega)]
 simp only [bJ]
theorem Zpc (L:Nat)(d:Za)(h:SG L d)(b:List UInt8)(hB:(sT4 d).length≤2199023255552)(hb:b.length+(sT4 d).length≤4398046511104):loopT (Yh d L) L (0,(b,((2:Nat):Int)),())=some ((),(b++sT4 d,((2:Nat):Int)),()):=by
 have hl:=h.lens
 unfold sT4 at hb hB ⊢
 rw [aZ] at hb hB
 rw [AX (f := Yh d L) d.Stores Zjl 2 (fun b=>loopT (Yg d L) L (0,(b,((2:Nat):Int)),())) h.sto b (by omega) (fun self b i x hx hi mem hbb=>by
  have okx:=h.ok.Stores.2 x mem
  rw [Yh]
  simp only [Zg hi,cond_true,Zf,hx,Zn,ZR okx.Room,(Zg3 L (ZgJ (h.g.sto x mem))).1,wrap_succ hi (show d.Stores.length≤4611686018427387904 by omega)]
  rw [YV L _ b 2 (by simp) hbb]
  rfl) (fun self b=>by
  rw [Yh]
  simp only [Zd,cond_false])]
 rw [Zpb L d h _ (by omega) (by rw [aZ];omega),bJ]
theorem Zpd (L:Nat)(d:Za)(h:SG L d)(b:List UInt8)(hB:(sT5 d).length≤2199023255552)(hb:b.length+(sT5 d).length≤4398046511104):loopT (Y5 d L) L (0,(b,((2:Nat):Int)),())=some ((),(b++sT5 d,((2:Nat):Int)),()):=by
 have hl:=h.lens
 unfold sT5 at hb hB ⊢
 rw [aZ] at hb hB
 rw [AX (f := Y5 d L) d.Resources resT 2 (fun b=>loopT (Yh d L) L (0,(b,((2:Nat):Int)),())) h.res b (by omega) (fun self b i x hx hi mem hbb=>by
  have hz:=Wh d;have hL:=h.L0;have hm:=ZcD mem
  have e:Yl L (x,()) (b,((2:Nat):Int))=some ((),(b++resT x,((2:Nat):Int))):=ZlO L h.L1 x ⟨h.ok.Resources.2 x mem,ZgC (h.g.res x mem)⟩ (by omega) b hbb
  rw [Y5]
  simp only [Zg hi,cond_true,Zf,hx,Zn,e,wrap_succ hi (show d.Resources.length≤4611686018427387904 by omega)]) (fun self b=>by
  rw [Y5]
  simp only [Zd,cond_false])]
 rw [Zpc L d h _ (by omega) (by rw [aZ];omega),bJ]
theorem Zn9 (L:Nat)(d:Za)(h:SG L d)(b:List UInt8)(hB:(Bd d).length≤2199023255552)(hb:b.length+(Bd d).length≤4398046511104) :
  Wx L (d,()) (b,((1:Nat):Int))=some ((),(b++Bd d,((1:Nat):Int))):=by
 have hl:=h.lens
 unfold Bd at hb hB ⊢
 simp only [aZ] at hb hB
 have e0:=YV L [[115,105,116,101],d.Name] b 1 (by simp) (by omega)
 have e1:=Zg7 L [118,97,114] d.Vars 2 (b++ZG 1 (Lib.join [[115,105,116,101],d.Name] [32])) h.vars (by omega) h.ok.Vars.2 h.g.vars (by rw [aZ];omega)
 have e2:=Zpd L d h (b++ZG 1 (Lib.join [[115,105,116,101],d.Name] [32])++Xd 2 [118,97,114] d.Vars) (by omega) (by simp only [aZ];omega)
 have e3:=YV L [[101,110,100]] (b++ZG 1 (Lib.join [[115,105,116,101],d.Name] [32])++Xd 2 [118,97,114] d.Vars++sT5 d) 1 (by simp) (by rw [jn1];simp only [aZ];omega)
 rw [jn1] at e3
 have u1:IntKind.i64.wrap (((1:Nat):Int)+1)=((2:Nat):Int):=by decide
 have u2:IntKind.i64.wrap (((2:Nat):Int) - 1)=((1:Nat):Int):=by decide
 clear hb hB hl
 generalize ZG 1 (Lib.join [[115,105,116,101],d.Name] [32])=A at e0 e1 e2 e3 ⊢
 generalize Xd 2 [118,97,114] d.Vars=B at e1 e2 e3 ⊢
 generalize sT5 d=C at e2 e3 ⊢
 generalize ZG 1 [101,110,100]=D at e3 ⊢
 rw [GY]
 simp only [e0,Zn,u1,e1,e2,u2,e3]
 simp only [bJ]
def Ziq:List UInt8:=ZG 1 [101,110,100]
theorem Zgo:Ziq.length=5:=by decide
theorem ZnO (L:Nat)(h:1001≤L):Zu L (1,[101,110,100],())=some Ziq:=Qn L 1 _ (by omega) (by decide)
theorem ZoK (L:Nat)(d:Za)(h:SG L d)(b:List UInt8)(hb:b.length+(sT0 d).length+5≤4398046511104):loopT (VP d L) L (b,0,())=some (b++(sT0 d++Ziq)):=by
 have h5:=Zgo
 rw [loopA (f := VP d L) d.Laws Zex (fun b=>bT (catS b Ziq) fun y=>some y) h.law b (by unfold sT0 at hb;omega) (fun self b i x hx hi mem hbb=>by
  have hl:=h.lens;have hm:=ZnG mem;have hz:=Wh d;have hL:=h.L0;have h1:=h.L1
  obtain ⟨g1,g2⟩:=law_good (h.g.law x mem)
  have e:TY L (x,())=some (Zex x):=Zkj L (by omega) x (h.ok.Laws.2 x mem) (by omega) g1 g2 (by omega)
  rw [VP]
  simp only [Zg hi,cond_true,Zf,hx,Zn,e,wrap_succ hi (show d.Laws.length≤4611686018427387904 by omega)]
  rw [Zh (by omega)]) (fun self b=>by
  rw [VP]
  simp only [Zd,cond_false,ZnO L h.L1,Zn])]
 show bT (catS (b++sT0 d) Ziq) (fun y=>some y)=_
 rw [Zh (by rw [aZ];omega),bJ]
theorem ZoL (L:Nat)(d:Za)(h:SG L d)(b:List UInt8)(hb:b.length+(sT1 d).length+5≤4398046511104):loopT (VQ d L) L (b,0,())=some (b++(sT1 d++Ziq)):=by
 unfold sT1 at hb ⊢
 rw [aZ] at hb
 rw [loopA (f := VQ d L) d.Starts (Zes d) (fun b=>loopT (VP d L) L (b,0,())) h.sta b (by omega) (fun self b i x hx hi mem hbb=>by
  have hl:=h.lens;have hz:=Wh d;have hL:=h.L0;have hm:=ZcD mem;have h2:=ZkX x;have h3:=Z4 x.Args;have h1:=h.L1
  have e:UQ L (d,x,())=some (Zes d x):=Zkn L (by omega) d h.ok (Sh.of (by omega)) x h.g (h.ok.Starts.2 x mem) (h.g.sta x mem) (by omega) (by omega)
  rw [VQ]
  simp only [Zg hi,cond_true,Zf,hx,Zn,e,wrap_succ hi (show d.Starts.length≤4611686018427387904 by omega)]
  rw [Zh (by omega)]) (fun self b=>by
  rw [VQ]
  simp only [Zd,cond_false])]
 rw [ZoK L d h _ (by rw [aZ];omega)]
 simp only [bJ]
theorem ZoM (L:Nat)(d:Za)(h:SG L d)(b:List UInt8)(hB:(sT2 d).length≤2199023255552)(hb:b.length+(sT2 d).length+5≤4398046511104):loopT (U9 d L) L (b,0,())=some (b++(sT2 d++Ziq)):=by
 unfold sT2 at hb hB ⊢
 rw [aZ] at hb hB
 rw [loopA (f := U9 d L) d.Routines (Zbn 2) (fun b=>loopT (VQ d L) L (b,0,())) h.rou b (by omega) (fun self b i x hx hi mem hbb=>by
  have hl:=h.lens;have hz:=Wh d;have hL:=h.L0;have hm:=ZcD mem;have h2:=Zjc mem
  have e:=Zkm L h.L1 x (h.ok.Routines.2 x mem) (h.g.rou x mem) (by omega) (by omega)
  rw [U9]
  simp only [Zg hi,cond_true,Zf,hx,Zn,e,wrap_succ hi (show d.Routines.length≤4611686018427387904 by omega)]
  rw [Zh (by omega)]) (fun self b=>by
  rw [U9]
  simp only [Zd,cond_false])]
 rw [ZoL L d h _ (by rw [aZ];omega)]
 simp only [bJ]
theorem ZnN (L:Nat)(h1:1001≤L)(x:Yv)(ok:Me x)(hb:(ZhN x).length≤4398046511104)(K:List UInt8→Option (List UInt8)) :
  (bT (catS [98,101,108,116,32] x.1) fun y_1=>bT (catS y_1 [32]) fun y_2=>bT (bT (Yu x.2) fun y=>some y) fun y_3=>bT (catS y_2 y_3) fun y_4=>bT (catS y_4 [32]) fun y_5=>bT (bT (Yu x.3) fun y=>some y) fun y=>bT (catS y_5 y) fun y=>bT (bT (Zu L (2,y,())) fun y=>some y) K)=K (ZhN x):=by
 have hn:=ok.Name;have l1:=Z9 ok.Length;have l2:=Z9 ok.Step
 have e:ZG 2 ([98,101,108,116,32]++(x.Name++(32::(Lib.itoa x.Length++(32::Lib.itoa x.Step)))))=ZhN x:=by
  unfold ZhN;congr 1;simp [G6,jn1]
 have hr:=Qn L 2 ([98,101,108,116,32]++(x.Name++(32::(Lib.itoa x.Length++(32::Lib.itoa x.Step))))) (by omega) (by rw [e];omega)
 rw [e] at hr
 simp only [ZR ok.Length,ZR ok.Step,Zn]
 clear e hb
 simp (disch := (simp only [aZ,dB,az];omega)) only [Zh,Zn,bJ,gB,bn]
 simp only [gB,bn] at hr
 rw [show Zu L (2,_,())=some (ZhN x) from hr]
 simp only [Zn]
theorem ZoN (L:Nat)(d:Za)(h:SG L d)(b:List UInt8)(hB:(sT3 d).length≤2199023255552)(hb:b.length+(sT3 d).length+5≤4398046511104):loopT (Qo d L) L (b,0,())=some (b++(sT3 d++Ziq)):=by
 have hl:=h.lens;have h1:=h.L1
 unfold sT3 nmT at hb hB ⊢
 simp only [aZ] at hb hB
 rw [loopA (f := Qo d L) d.Belts ZhN (fun b=>Qo d L (fun _=>none) (b,(d.Belts.length:Int),())) h.bel b (by omega) (fun self b i x hx hi mem hbb=>by
  have okx:=h.ok.Belts.2 x mem
  rw [Qo]
  simp only [Zg hi,cond_true,Zf,hx,Zn,wrap_succ hi (show d.Belts.length≤4611686018427387904 by omega)]
  rw [ZnN L h1 x okx (by omega),Zh (by omega)]) (fun self b=>by
  rw [Qo,Qo]
  simp only [Zd,cond_false])]
 rw [Qo]
 have n1:=DN L [113,117,101,117,101] d.Queues (by omega) (by decide) h.que (by omega) h.ok.Queues.2 (by omega)
 have n2:=DN L [115,116,114,101,97,109] d.Streams (by omega) (by decide) h.str (by omega) h.ok.Streams.2 (by omega)
 have n3:=DN L [116,97,108,108,121] d.Tallies (by omega) (by decide) h.tal (by omega) h.ok.Tallies.2 (by omega)
 have n4:=DN L [108,101,118,101,108] d.Levels (by omega) (by decide) h.lev (by omega) h.ok.Levels.2 (by omega)
 have n5:=DN L [99,111,117,110,116] d.Counts (by omega) (by decide) h.cou (by omega) h.ok.Counts.2 (by omega)
 simp only [Zd,cond_false,n1,n2,n3,n4,n5,Zn]
 have e2:=fun c hc=>ZoM L d h c (by omega) hc
 clear n1 n2 n3 n4 n5 hB
 generalize ((d.Belts.map ZhN).flatten)=A at hb ⊢
 generalize namesT [113,117,101,117,101] d.Queues=B1 at hb ⊢
 generalize namesT [115,116,114,101,97,109] d.Streams=B2 at hb ⊢
 generalize namesT [116,97,108,108,121] d.Tallies=B3 at hb ⊢
 generalize namesT [108,101,118,101,108] d.Levels=B4 at hb ⊢
 generalize namesT [99,111,117,110,116] d.Counts=B5 at hb ⊢
 simp (disch := (simp only [aZ];omega)) only [Zh]
 rw [e2 _ (by simp only [aZ];omega)]
 simp only [bJ]
theorem ZnP (L:Nat)(h1:1001≤L)(x:ZO)(ok:GG x)(hg:VK x=0)(hb:(Zjl x).length≤4398046511104)(K:List UInt8→Option (List UInt8)) :
  (bT (catS [115,116,111,114,101,32] x.1) fun y_1=>bT (catS y_1 [32]) fun y_2=>bT (bT (Yu x.2) fun y=>some y) fun y_3=>bT (catS y_2 y_3) fun y_4=>bT (catS y_4 [32]) fun y_5=>bT (bT (JA L (x.3,())) fun y=>some y) fun y=>bT (catS y_5 y) fun y=>bT (bT (Zu L (2,y,())) fun y=>some y) K)=K (Zjl x):=by
 have hn:=ok.Name;have l1:=Z9 ok.Room
 have l2:(Zku x.Policy).length≤5:=by unfold Zku;split<;>(try split)<;>decide
 have e:ZG 2 ([115,116,111,114,101,32]++(x.Name++(32::(Lib.itoa x.Room++(32::Zku x.Policy)))))=Zjl x:=by
  unfold Zjl;congr 1;simp [G6,jn1]
 have hr:=Qn L 2 ([115,116,111,114,101,32]++(x.Name++(32::(Lib.itoa x.Room++(32::Zku x.Policy))))) (by omega) (by rw [e];omega)
 rw [e] at hr
 simp only [ZR ok.Room,(Zg3 L (ZgJ hg)).2,Zn]
 clear e hb
 simp (disch := (simp only [aZ,dB,az];omega)) only [Zh,Zn,bJ,gB,bn]
 simp only [gB,bn] at hr
 rw [show Zu L (2,_,())=some (Zjl x) from hr]
 simp only [Zn]
theorem ZoO (L:Nat)(d:Za)(h:SG L d)(b:List UInt8)(hB:(sT4 d).length≤2199023255552)(hb:b.length+(sT4 d).length+5≤4398046511104):loopT (VS d L) L (b,0,())=some (b++(sT4 d++Ziq)):=by
 have hl:=h.lens;have h1:=h.L1
 unfold sT4 at hb hB ⊢
 rw [aZ] at hb hB
 rw [loopA (f := VS d L) d.Stores Zjl (fun b=>loopT (Qo d L) L (b,0,())) h.sto b (by omega) (fun self b i x hx hi mem hbb=>by
  have okx:=h.ok.Stores.2 x mem
  rw [VS]
  simp only [Zg hi,cond_true,Zf,hx,Zn,wrap_succ hi (show d.Stores.length≤4611686018427387904 by omega)]
  rw [ZnP L h1 x okx (h.g.sto x mem) (by omega),Zh (by omega)]) (fun self b=>by
  rw [VS]
  simp only [Zd,cond_false])]
 rw [ZoN L d h _ (by omega) (by rw [aZ];omega)]
 simp only [bJ]
theorem ZoP (L:Nat)(d:Za)(h:SG L d)(b:List UInt8)(hB:(sT5 d).length≤2199023255552)(hb:b.length+(sT5 d).length+5≤4398046511104):loopT (UA d L) L (b,0,())=some (b++(sT5 d++Ziq)):=by
 have hl:=h.lens
 unfold sT5 at hb hB ⊢
 rw [aZ] at hb hB
 rw [loopA (f := UA d L) d.Resources resT (fun b=>loopT (VS d L) L (b,0,())) h.res b (by omega) (fun self b i x hx hi mem hbb=>by
  have hz:=Wh d;have hL:=h.L0;have hm:=ZcD mem
  have e:XH L (x,())=some (resT x):=Zkl L h.L1 x ⟨h.ok.Resources.2 x mem,ZgC (h.g.res x mem)⟩ (by omega) (by omega)
  rw [UA]
  simp only [Zg hi,cond_true,Zf,hx,Zn,e,wrap_succ hi (show d.Resources.length≤4611686018427387904 by omega)]
  rw [Zh (by omega)]) (fun self b=>by
  rw [UA]
  simp only [Zd,cond_false])]
 rw [ZoO L d h _ (by omega) (by rw [aZ];omega)]
 simp only [bJ]
theorem Zmv (L:Nat)(d:Za)(h:SG L d)(hB:(Bd d).length≤2199023255552):MQ L (d,())=some (Bd d):=by
 have hl:=h.lens;have h1:=h.L1;have hn:=h.ok.Name;have h5:=Zgo
 unfold Bd at hB ⊢
 rw [show ZG 1 [101,110,100]=Ziq from rfl] at hB ⊢
 simp only [aZ] at hB
 have e0:Zu L (1,[115,105,116,101,32]++d.Name,())=some (ZG 1 (Lib.join [[115,105,116,101],d.Name] [32])):=by
  have e:ZG 1 ([115,105,116,101,32]++d.Name)=ZG 1 (Lib.join [[115,105,116,101],d.Name] [32]):=by rw [jn2];rfl
  have hr:=Qn L 1 ([115,105,116,101,32]++d.Name) (by omega) (by rw [e];omega)
  rw [e] at hr;exact hr
 have e1:Xh L (2,[118,97,114],d.Vars,())=some (Xd 2 [118,97,114] d.Vars):=Zd4 L [118,97,114] d.Vars 2 (by decide) (by omega) h.vars (by omega) h.ok.Vars.2 h.g.vars (by omega)
 have e2:=fun c hc=>ZoP L d h c (by omega) hc
 rw [Zh8,Zh (by simp only [dB,az];omega),e0,e1]
 simp only [Zn]
 clear e0 e1
 generalize ZG 1 (Lib.join [[115,105,116,101],d.Name] [32])=A at hB ⊢
 generalize Xd 2 [118,97,114] d.Vars=B at hB ⊢
 rw [Zh (by omega),e2 _ (by rw [aZ];omega)]
 simp only [bJ]
def lkT (x:IY):List UInt8:=ZG 1 (Lib.join [[108,105,110,107],x.From,x.To,Lib.itoa x.Delay] [32])
def mT0 (m:ZF):List UInt8:=(m.Sites.map Bd).flatten
def mT1 (m:ZF):List UInt8:=(m.Links.map lkT).flatten++mT0 m
def Zj3:List UInt8:=ZG 0 [101,110,100]
def mdT (m:ZF):List UInt8:=ZG 0 (Lib.join [[109,111,100,101,108],m.Name] [32])++(Xd 1 [112,97,114,97,109] m.Params++(mT1 m++Zj3))
theorem Ep:Zj3.length=4:=by decide
theorem ZbE {α:Type}(T:α→List UInt8):∀{l:List α} {x:α},x∈l→(T x).length≤((l.map T).flatten).length
 |y::l,x,h=>by
  rw [cO,cu,aZ]
  rcases gZ.1 h with e|e
  ·rw [← e];omega
  ·have:=ZbE T e;omega
structure MG (L:Nat)(m:ZF):Prop where
 ok:Xu m
 par:∀v∈m.Params,Wu v=0
 sit:∀d∈m.Sites,SG L d
 L1:1001≤L
 lp:m.Params.length<L
 ls:m.Sites.length<L
 ll:m.Links.length<L
 lens:m.Params.length≤4611686018427387∧m.Sites.length≤4611686018427387∧m.Links.length≤4611686018427387
theorem MG.of {L:Nat}{m:ZF}(ok:Xu m)(g:IE m=0)(hL:3*SizeOf.sizeOf m≤L)(h1:1001≤L):MG L m:=by
 obtain ⟨g1,g2⟩:=Zhk g
 have hz:=Jm m;have a1:=Z4 m.Params;have a2:=Z4 m.Sites;have a3:=Z4 m.Links
 exact ⟨ok,g1,fun d hd=>SG.of (ok.Sites.2 d hd) (g2 d hd) (by have:=ZcD hd;omega) h1,h1,by omega,by omega,by omega,ok.l⟩
theorem ZoW (L:Nat)(m:ZF)(h:MG L m)(b:List UInt8)(hB:(mT0 m).length≤2199023255552)(hb:b.length+(mT0 m).length≤4398046511104):loopT (QB m L) L (0,(b,((1:Nat):Int)),())=some ((),(b++mT0 m,((1:Nat):Int)),()) :=
 AX (f := QB m L) m.Sites Bd 1 (fun b=>some ((),(b,((1:Nat):Int)),())) h.ls b hb (fun self b i x hx hi mem hbb=>by
  have hl:=h.lens
  have e:=Zn9 L x (h.sit x mem) b (dK (ZbE Bd mem) hB) hbb
  rw [QB]
  simp only [Zg hi,cond_true,Zf,hx,Zn,e,wrap_succ hi (show m.Sites.length≤4611686018427387904 by omega)]) (fun self b=>by
  rw [QB]
  simp only [Zd,cond_false])
theorem ZoX (L:Nat)(m:ZF)(h:MG L m)(b:List UInt8)(hB:(mT1 m).length≤2199023255552)(hb:b.length+(mT1 m).length≤4398046511104):loopT (XA m L) L (0,(b,((1:Nat):Int)),())=some ((),(b++mT1 m,((1:Nat):Int)),()):=by
 have hl:=h.lens
 unfold mT1 at hb hB ⊢
 rw [aZ] at hb hB
 rw [AX (f := XA m L) m.Links lkT 1 (fun b=>loopT (QB m L) L (0,(b,((1:Nat):Int)),())) h.ll b (by omega) (fun self b i x hx hi mem hbb=>by
  have okx:=h.ok.Links.2 x mem
  rw [XA]
  simp only [Zg hi,cond_true,Zf,hx,Zn,ZR okx.Delay,wrap_succ hi (show m.Links.length≤4611686018427387904 by omega)]
  rw [YV L _ b 1 (by simp) hbb]
  rfl) (fun self b=>by
  rw [XA]
  simp only [Zd,cond_false])]
 rw [ZoW L m h _ (by omega) (by rw [aZ];omega),bJ]
theorem Zmk (L:Nat)(m:ZF)(h:MG L m)(g:IE m=0)(hc:V9 L (m,())=some (IE m))(hB:(mdT m).length≤2199023255552) :
  Ug L (m,())=some (if decide (((mdT m).length:Int)>20000)=true then ([],6,()) else (mdT m,0,())):=by
 have hl:=h.lens;have h4:=Ep
 unfold mdT at hB ⊢
 simp only [aZ] at hB
 have e0:Zc L ([[109,111,100,101,108],m.Name],()) ([],0)=_:=YV L [[109,111,100,101,108],m.Name] [] 0 (by simp) (by rw [az];omega)
 rw [bn] at e0
 have e1:=Zg7 L [112,97,114,97,109] m.Params 1 (ZG 0 (Lib.join [[109,111,100,101,108],m.Name] [32])) h.lp (by omega) h.ok.Params.2 h.par (by omega)
 have e2:=ZoX L m h (ZG 0 (Lib.join [[109,111,100,101,108],m.Name] [32])++Xd 1 [112,97,114,97,109] m.Params) (by omega) (by rw [aZ];omega)
 have e3:=YV L [[101,110,100]] (ZG 0 (Lib.join [[109,111,100,101,108],m.Name] [32])++Xd 1 [112,97,114,97,109] m.Params++mT1 m) 0 (by simp) (by rw [jn1];show _+Zj3.length≤_;simp only [aZ];omega)
 rw [jn1,show ZG 0 [101,110,100]=Zj3 from rfl] at e3
 have u1:IntKind.i64.wrap (((0:Nat):Int)+1)=((1:Nat):Int):=by decide
 have u2:IntKind.i64.wrap (((1:Nat):Int) - 1)=((0:Nat):Int):=by decide
 clear hB hl
 generalize ZG 0 (Lib.join [[109,111,100,101,108],m.Name] [32])=A at e0 e1 e2 e3 ⊢
 generalize Xd 1 [112,97,114,97,109] m.Params=B at e1 e2 e3 ⊢
 generalize mT1 m=C at e2 e3 ⊢
 generalize Zj3=D at e3 ⊢
 rw [DX,hc,g]
 simp only [Zn,ZI,decide_true,fF,cond_false,e0,u1,e1,e2,u2,e3]
 simp only [bJ]
 cases decide ((((A++(B++(C++D))).length:Nat):Int)>20000)<;>rfl
theorem ZoI (L:Nat)(m:ZF)(h:MG L m)(b:List UInt8)(hB:(mT0 m).length≤2199023255552)(hb:b.length+(mT0 m).length+4≤4398046511104):loopT (XZ m L) L (b,0,())=XT L (b++(mT0 m++Zj3),()):=by
 have h4:=Ep;have hl:=h.lens
 have e1:Zu L (0,[101,110,100],())=some Zj3:=Qn L 0 _ (by have:=h.L1;omega) (by decide)
 rw [loopA (f := XZ m L) m.Sites Bd (fun b=>bT (catS b Zj3) fun y=>bT (XT L (y,())) fun y=>some (y.1,y.2.1,())) h.ls b (by unfold mT0 at hb;omega) (fun self b i x hx hi mem hbb=>by
  have e:=Zmv L x (h.sit x mem) (dK (ZbE Bd mem) hB)
  rw [XZ]
  simp only [Zg hi,cond_true,Zf,hx,Zn,e,wrap_succ hi (show m.Sites.length≤4611686018427387904 by omega)]
  rw [Zh (by omega)]) (fun self b=>by
  rw [XZ]
  simp only [Zd,cond_false,e1,Zn])]
 show bT (catS (b++mT0 m) Zj3) _=_
 rw [Zh (by rw [aZ];omega),bJ,ZgG,Zn]
theorem ZoH (L:Nat)(h1:1001≤L)(x:IY)(ok:Zge x)(hb:(lkT x).length≤4398046511104)(K:List UInt8→Option (List UInt8×Int×PUnit)) :
  (bT (catS [108,105,110,107,32] x.1) fun y_1=>bT (catS y_1 [32]) fun y_2=>bT (catS y_2 x.2) fun y_3=>bT (catS y_3 [32]) fun y_4=>bT (bT (Yu x.3) fun y=>some y) fun y=>bT (catS y_4 y) fun y=>bT (bT (Zu L (1,y,())) fun y=>some y) K)=K (lkT x):=by
 have hn:=ok.From;have hn2:=ok.To;have l1:=Z9 ok.Delay
 have e:ZG 1 ([108,105,110,107,32]++(x.From++(32::(x.To++(32::Lib.itoa x.Delay)))))=lkT x:=by
  unfold lkT;congr 1;simp [G6,jn1]
 have hr:=Qn L 1 ([108,105,110,107,32]++(x.From++(32::(x.To++(32::Lib.itoa x.Delay))))) (by omega) (by rw [e];omega)
 rw [e] at hr
 simp only [ZR ok.Delay,Zn]
 clear e hb
 simp (disch := (simp only [aZ,dB,az];omega)) only [Zh,Zn,bJ,gB,bn]
 simp only [gB,bn] at hr
 rw [show Zu L (1,_,())=some (lkT x) from hr]
 simp only [Zn]
theorem ZoJ (L:Nat)(m:ZF)(h:MG L m)(b:List UInt8)(hB:(mT1 m).length≤2199023255552)(hb:b.length+(mT1 m).length+4≤4398046511104):loopT (Jy m L) L (b,0,())=XT L (b++(mT1 m++Zj3),()):=by
 have hl:=h.lens;have h1:=h.L1
 unfold mT1 at hb hB ⊢
 rw [aZ] at hb hB
 rw [loopA (f := Jy m L) m.Links lkT (fun b=>loopT (XZ m L) L (b,0,())) h.ll b (by omega) (fun self b i x hx hi mem hbb=>by
  have okx:=h.ok.Links.2 x mem
  rw [Jy]
  simp only [Zg hi,cond_true,Zf,hx,Zn,wrap_succ hi (show m.Links.length≤4611686018427387904 by omega)]
  rw [ZoH L h1 x okx (by omega),Zh (by omega)]) (fun self b=>by
  rw [Jy]
  simp only [Zd,cond_false])]
 rw [ZoI L m h _ (by omega) (by rw [aZ];omega)]
 simp only [bJ]
theorem Zlh (L:Nat)(m:ZF)(h:MG L m)(g:IE m=0)(hc:UN L (m,())=some (IE m))(hB:(mdT m).length≤2199023255552) :
  Iu L (m,())=some (if decide (((mdT m).length:Int)>20000)=true then ([],6,()) else (mdT m,0,())):=by
 have hl:=h.lens;have h1:=h.L1;have hn:=h.ok.Name;have h4:=Ep
 rw [← ZgG L]
 unfold mdT at hB ⊢
 simp only [aZ] at hB
 have e0:Zu L (0,[109,111,100,101,108,32]++m.Name,())=some (ZG 0 (Lib.join [[109,111,100,101,108],m.Name] [32])):=by
  have e:ZG 0 ([109,111,100,101,108,32]++m.Name)=ZG 0 (Lib.join [[109,111,100,101,108],m.Name] [32]):=by rw [jn2];rfl
  have hr:=Qn L 0 ([109,111,100,101,108,32]++m.Name) (by omega) (by rw [e];omega)
  rw [e] at hr;exact hr
 have e1:Xh L (1,[112,97,114,97,109],m.Params,())=some (Xd 1 [112,97,114,97,109] m.Params):=Zd4 L [112,97,114,97,109] m.Params 1 (by decide) (by omega) h.lp (by omega) h.ok.Params.2 h.par (by omega)
 have e2:=fun c hc=>ZoJ L m h c (by omega) hc
 rw [F6,hc,g]
 simp only [Zn,ZI,decide_true,fF,cond_false]
 rw [Zh (by simp only [dB,az];omega),e0,e1]
 simp only [Zn]
 clear e0 e1 hc
 generalize ZG 0 (Lib.join [[109,111,100,101,108],m.Name] [32])=A at hB ⊢
 generalize Xd 1 [112,97,114,97,109] m.Params=B at hB ⊢
 rw [Zh (by omega),e2 _ (by rw [aZ];omega)]
 simp only [bJ]
theorem Zmd (L:Nat)(d:Za)(hl:d.Resources.length≤4611686018427387)(hL:d.Resources.length<L)(self:Int×Int×PUnit→Option Int)(i:Nat)(n:Int)(hi:(i:Int)+1≤4611686018427388)
  (e:∀s,∃r,self (s,(i:Int)+1,())=some r) (s:Int):∃r,loopT (Vr self (n,(i:Int),()) d) L (s,0,())=some r:=by
 refine PU (f := Vr self (n,(i:Int),()) d) d.Resources (fun (s:Int) i=>(s,i,())) (fun self2 s2 i2 x2 hx2 hi2 mem2 e2=>?_) (fun self2 s2=>?_) L 0 _ (eG _) (by omega)
 ·rw [Vr]
  simp only [Zg hi2,cond_true,Zf,hx2,Zn,wrap_succ hi2 (show d.Resources.length≤4611686018427387904 by omega)]
  exact e2 _
 ·rw [Vr]
  simp only [Zd,cond_false,ZaH (n := (i:Int)+1) (by omega) (by omega)]
  exact e _
theorem Zme (L:Nat)(d:Za)(ok:Z8 d)(hd:3*SizeOf.sizeOf d≤L)(self:Int×Int×PUnit→Option Int)(i:Nat)(n:Int)(hi:(i:Int)+1≤4611686018427388)
  (e:∀s,∃r,self (s,(i:Int)+1,())=some r) (s:Int):∃r,loopT (Vs L self (n,(i:Int),()) d) L (s,0,())=some r:=by
 have hz:=Wh d;have l1:=Z4 d.Routines;have l2:=Z4 d.Resources;have k1:=ok.Routines.1;have k2:=ok.Resources.1
 refine PU (f := Vs L self (n,(i:Int),()) d) d.Routines (fun (s:Int) i=>(s,i,())) (fun self2 s2 i2 x2 hx2 hi2 mem2 e2=>?_) (fun self2 s2=>?_) L 0 _ (eG _) (by omega)
 ·have hr:=Zet x2;have hm:=ZcD mem2
  obtain ⟨k,hk⟩:=Zk4 L x2.Body (ok.Routines.2 x2 mem2).p.2.2 (by omega)
  rw [Vs]
  simp only [Zg hi2,cond_true,Zf,hx2,Zn,hk,wrap_succ hi2 (show d.Routines.length≤4611686018427387904 by omega)]
  exact e2 _
 ·rw [Vs]
  simp only [Zd,cond_false]
  exact Zmd L d (by omega) (by omega) self i n hi e _
theorem Znb (L:Nat)(m:ZF)(ok:Xu m)(hL:3*SizeOf.sizeOf m≤L):∃n,Kz L (m,())=some n:=by
 have hz:=Jm m;have l1:=Z4 m.Sites;have k1:=ok.Sites.1
 rw [ZdC]
 refine PU (f := JL m L) m.Sites (fun (s:Int) i=>(s,i,())) (fun self s i x hx hi mem e=>?_) (fun self s=>?_) L 0 _ (eG _) (by omega)
 ·have hm:=ZcD mem
  rw [JL]
  simp only [Zg hi,cond_true,Zf,hx,Zn]
  exact Zme L x (ok.Sites.2 x mem) (by omega) self i s (by omega) e _
 ·rw [JL]
  simp only [Zd,cond_false]
  exact ⟨_,rfl⟩
theorem PY (L:Nat)(h1:1001≤L)(m:ZF)(ok:Xu m)(hL:3*SizeOf.sizeOf m≤L)(hB:(mdT m).length≤2199023255552):XQ L (m,())=some true:=by
 obtain ⟨n,hn⟩:=Znb L m ok hL
 have c1:=ZiK L (by omega) m ok (by omega)
 have c2:=ZiM L (by omega) m ok (by omega)
 rw [RH,hn,Zn]
 cases decide (n>5000)
 ·rw [cond_false]
  by_cases g:IE m=0
  ·have hg:=MG.of ok g hL h1
   rw [Zmk L m hg g c1 hB,Zlh L m hg g c2 hB]
   cases decide (((mdT m).length:Int)>20000)<;>simp [Zn]
  ·rw [DX,F6,c1,c2]
   simp only [g,ZI,decide_false,ja,cond_true,Zn]
   simp
 ·rfl
def UT (k:Nat):List (List UInt8)→Nat
 | []=>0
 |w::l=>w.length+k+UT k l
theorem AC (s:List UInt8):∀ws:List (List UInt8),(Lib.join ws s).length≤UT s.length ws
 | []=>eG _
 | [x]=>by rw [jn1];simp only [UT];omega
 |x::y::l=>by
  have:=AC s (y::l)
  rw [G6,UT]
  simp only [aZ];omega
theorem AB (ws:List (List UInt8)):(Lib.join ws [32]).length≤UT 1 ws:=AC [32] ws
theorem Zdt (ws:List (List UInt8)):(Lib.join ws [44,32]).length≤UT 2 ws:=AC [44,32] ws
theorem H8 (k:Nat):∀a b:List (List UInt8),UT k (a++b)=UT k a+UT k b
 | [],b=>by rw [UT];simp
 |x::a,b=>by rw [gB,UT,UT,H8 k a b];omega
theorem JD {α:Type}(r:α→List AV)(T:α→List UInt8)(M:Nat):∀l:List α,(∀x∈l,(T x).length≤M*bkL (r x))→((l.map T).flatten).length≤M*bkR (l.map r)
 | [],_=>by simp
 |x::l,h=>by
  have h1:=h x (aj ..);have h2:=JD r T M l fun y hy=>h y (ai _ hy)
  rw [cO,cu,aZ,cO,bkR,Nat.mul_add];omega
theorem Zjn {α:Type}(r:α→List AV)(T:α→List UInt8)(k M:Nat):∀l:List α,(∀x∈l,(T x).length+k≤M*bkL (r x))→UT k (l.map T)≤M*bkR (l.map r)
 | [],_=>by simp [UT]
 |x::l,h=>by
  have h1:=h x (aj ..);have h2:=Zjn r T k M l fun y hy=>h y (ai _ hy)
  rw [cO,UT,cO,bkR,Nat.mul_add];omega
theorem Zll {α:Type}(r:α→List AV):∀{l:List α} {x:α},x∈l→bkL (r x)≤bkR (l.map r)
 |y::l,x,h=>by
  rw [cO,bkR]
  rcases gZ.1 h with e|e
  ·rw [← e];omega
  ·have:=Zll r e;omega
theorem Zjw (d:Nat)(hd:d≤3)(w:List UInt8)(hw:w.length≤10)(v:Yc)(ok:Rh v):(Ea d w v).length≤60*bkL (Gs v):=by
 have h1:=AL v.Ty;have h2:=ZcI v.Ty ok.N
 unfold Ea
 rw [ZC]
 unfold Gs
 simp only [G6,jn1,aZ,dB,az,bkL,bkA];omega
theorem Zb3 (d:Nat)(hd:d≤3)(w:List UInt8)(hw:w.length≤10)(l:List Yc)(ok:∀v∈l,Rh v):(Xd d w l).length≤60*bkR (l.map Gs) :=
 JD Gs (Ea d w) 60 l fun v hv=>Zjw d hd w hw v (ok v hv)
theorem OG (w:List UInt8)(hw:w.length≤10)(l:List (List UInt8)):(namesT w l).length≤60*bkR (strs l) :=
 JD (fun s=>[AV.str s]) (ZeL w) 60 l fun s _=>by
  unfold ZeL
  rw [ZC]
  simp only [G6,jn1,aZ,dB,az,bkL,bkA];omega
theorem Nb {c:Prop}[Decidable c]{x y:List (List UInt8)}{k n:Nat}(hx:UT k x≤n)(hy:UT k y≤n):UT k (if c then x else y)≤n:=by split<;>assumption
theorem ZlZ (r:Zi)(ok:Yw r):(resT r).length≤60*bkL (YF r):=by
 have h0:=AB (Zey r)
 have hu:=ZeD r.Fault.Up ok.Fault.Up;have hd:=ZeD r.Fault.Down ok.Fault.Down;have bu:=Ze6 r.Fault.Up;have bd':=Ze6 r.Fault.Down
 have hU:=Z9 ok.Units;have hC:=Z9 ok.Cycle
 have hs:=Zjn Hm chX 1 60 r.Shift fun x hx=>by
  have o:=ok.Shift.2 x hx
  have a1:=Z9 o.At_;have a2:=Z9 o.Units
  unfold chX Hm
  simp only [aZ,dB,bkL,bkA];omega
 unfold resT
 rw [ZC]
 unfold Zey at h0 ⊢
 simp only [H8] at h0
 have e1:UT 1 (if r.Shift=[] then [] else [[115,104,105,102,116]]++(r.Shift.map chX++[[99,121,99,108,101],Lib.itoa r.Cycle]))≤60*bkR (r.Shift.map Hm)+40:=Nb (by simp [UT]) (by simp only [H8,UT,dB,az];omega)
 have e2:UT 1 (if r.Fault.Stream=[] then [] else [[102,97,117,108,116],r.Fault.Stream,[117,112],dtX r.Fault.Up,[100,111,119,110],dtX r.Fault.Down])≤r.Fault.Stream.length+180+44*r.Fault.Up.Values.length+44*r.Fault.Down.Values.length:=Nb (by simp [UT]) (by simp only [UT,dB,az];omega)
 have e3:UT 1 [[114,101,115,111,117,114,99,101],r.Name,Lib.itoa r.Units]≤r.Name.length+32:=by simp only [UT,dB,az];omega
 unfold YF F9
 simp only [Zb7,bkL,bkA]
 omega
theorem Zmg (x:ZO)(ok:GG x):(Zjl x).length≤60*bkL (QD x):=by
 have h1:=Z9 ok.Room
 have l2:(Zku x.Policy).length≤5:=by unfold Zku;split<;>(try split)<;>decide
 unfold Zjl
 rw [ZC]
 unfold QD
 simp only [G6,jn1,aZ,dB,az,bkL,bkA];omega
theorem Zlj (x:Yv)(ok:Me x):(ZhN x).length≤60*bkL (XC x):=by
 have h1:=Z9 ok.Length;have h2:=Z9 ok.Step
 unfold ZhN
 rw [ZC]
 unfold XC
 simp only [G6,jn1,aZ,dB,az,bkL,bkA];omega
theorem Zma (r:Zx)(ok:X3 r)(hk:bkL (XK r)≤1048576):(Zbn 2 r).length≤1049576*bkL (XK r):=by
 have h1:=Zjn II fX 2 60 r.Params fun f _=>by
  have:=Zm3 f
  unfold II
  simp only [bkL,bkA];omega
 have h2:=JD II (Zhj 3) 60 r.Locals fun f _=>by
  have:=AL f.Ty
  unfold Zhj II
  rw [ZC]
  simp only [G6,jn1,aZ,dB,az,bkL,bkA];omega
 have h3:=ZgK r.Body 3 ok.Body.2
 have h4:=Zdt (r.Params.map fX)
 unfold Zbn Zar
 simp only [aZ,ZC,G6,jn1,dB,az,show 2+1=3 from rfl]
 unfold XK at hk ⊢
 simp only [bkL,bkA] at hk ⊢
 generalize bkR (r.Body.map VU)=a at h3 hk ⊢
 have m:a*(60+3+a)≤a*1048639:=kE _ (by omega)
 omega
theorem Zlf:∀(ps:List ZX) (l:List Int),(∀a∈l,bd a)→UT 2 (vaX ps l)≤23*l.length
 | [],l,_=>by simp [vaX,UT]
 |p::ps,[],_=>by simp [vaX,UT]
 |p::ps,a::l,h=>by
  have h1:=ZcI p.Ty (h a (aj ..));have h2:=Zlf ps l fun b hb=>h b (ai _ hb)
  show UT 2 (Zjv p.Ty a::vaX ps l)≤_
  rw [UT,dB];omega
theorem Zmf (d:Za)(s:Y1)(ok:Ux s):(Zes d s).length≤60*bkL (LG s):=by
 have h1:=Z9 ok.At_;have h2:=Z9 ok.Every;have h3:=Z9 ok.Until;have h4:=Zlf (DT d s) s.Args ok.Args.2;have h5:=Ze7 s.Args
 have h6:=Zdt (vaX (DT d s) s.Args)
 have h0:=AB (Zez d s)
 unfold Zes
 rw [ZC]
 unfold Zez ZaG at h0 ⊢
 simp only [H8] at h0
 have e1:UT 1 (if s.Every=0 then [] else [[101,118,101,114,121],Lib.itoa s.Every,[117,110,116,105,108],Lib.itoa s.Until])≤60:=Nb (by simp [UT]) (by simp only [UT,dB,az];omega)
 have e2:UT 1 [[115,116,97,114,116],s.Routine,40::(Lib.join (vaX (DT d s) s.Args) [44,32]++[41]),[97,116],Lib.itoa s.At_]≤s.Routine.length+23*s.Args.length+40:=by simp only [UT,aZ,dB,az];omega
 unfold LG
 simp only [bkL,bkA]
 omega
theorem Zl2 {n:Int}(h:bd n):(Lib.itoa (ZjA n)).length≤21:=by
 by_cases e:n=-9223372036854775808
 ·subst e;decide +kernel
 ·obtain ⟨h1,h2⟩:=h
  refine Z9 (show bd (ZjA n) from ?_)
  unfold ZjA;split<;>exact ⟨by omega,by omega⟩
theorem ZoA (i:Nat)(t:Vl)(ok:Zgf t):UT 1 (tmW i t)≤60*bkL (Zcw t):=by
 have h1:=Zl2 ok.Coef
 have h2:(sgC i t.Coef).length≤1:=by unfold sgC;split<;>(try split)<;>decide
 have h3:UT 1 (pvC i t.Coef)≤2:=by unfold pvC;refine Nb (by simp [UT]) (Nb ?_ ?_)<;>simp [UT]
 unfold tmW
 rw [H8]
 have:UT 1 (if ZjA t.Coef=1 then [sgC i t.Coef++t.What,t.Name] else [sgC i t.Coef++Lib.itoa (ZjA t.Coef),[42],t.What,t.Name])≤t.What.length+t.Name.length+30:=Nb (by simp only [UT,aZ];omega) (by simp only [UT,aZ,dB,az];omega)
 unfold Zcw
 simp only [bkL,bkA];omega
theorem Zlc:∀(l:List Vl) (i:Nat),(∀t∈l,Zgf t)→UT 1 (BH i l)≤60*bkR (l.map Zcw)
 | [],i,_=>by simp [BH,UT]
 |t::l,i,h=>by
  have h1:=ZoA i t (h t (aj ..));have h2:=Zlc l (i+1) fun y hy=>h y (ai _ hy)
  rw [BH,H8,cO,bkR];omega
theorem Zl0 (l:Oj)(ok:ZcW l):(Zex l).length≤60*bkL (Zj6 l):=by
 have h1:=Z9 ok.Total;have h2:=Zlc l.Terms 0 ok.Terms.2
 have h0:=AB (Zi1 l)
 unfold Zex
 rw [ZC]
 unfold Zi1 at h0 ⊢
 simp only [H8,UT,dB,az] at h0
 unfold Zj6
 simp only [bkL,bkA];omega
theorem ZmE (x:IY)(ok:Zge x):(lkT x).length≤60*bkL (Zcu x):=by
 have h1:=Z9 ok.Delay
 unfold lkT
 rw [ZC]
 unfold Zcu
 simp only [G6,jn1,aZ,dB,az,bkL,bkA];omega
theorem Zlm (d:Za):bkL (Q3 d)=d.Name.length+13+bkR (d.Vars.map Gs)+bkR (d.Resources.map YF)+bkR (d.Stores.map QD)+bkR (d.Belts.map XC)+bkR (strs d.Queues)+bkR (strs d.Streams)+bkR (strs d.Tallies)+bkR (strs d.Levels)+bkR (strs d.Counts)+bkR (d.Routines.map XK)+bkR (d.Starts.map LG)+bkR (d.Laws.map Zj6):=by
 unfold Q3
 simp only [bkL,bkA];omega
theorem Zk3 (d:Za)(ok:Z8 d)(hk:bkL (Q3 d)≤1048576):(Bd d).length≤1049576*bkL (Q3 d):=by
 rw [Zlm] at hk ⊢
 have h1:=Zb3 2 (by decide) [118,97,114] (by decide) d.Vars ok.Vars.2
 have h2:=JD YF resT 60 d.Resources fun x hx=>ZlZ x (ok.Resources.2 x hx)
 have h3:=JD QD Zjl 60 d.Stores fun x hx=>Zmg x (ok.Stores.2 x hx)
 have h4:=JD XC ZhN 60 d.Belts fun x hx=>Zlj x (ok.Belts.2 x hx)
 have h5:=OG [113,117,101,117,101] (by decide) d.Queues
 have h6:=OG [115,116,114,101,97,109] (by decide) d.Streams
 have h7:=OG [116,97,108,108,121] (by decide) d.Tallies
 have h8:=OG [108,101,118,101,108] (by decide) d.Levels
 have h9:=OG [99,111,117,110,116] (by decide) d.Counts
 have ha:=JD XK (Zbn 2) 1049576 d.Routines fun x hx=>Zma x (ok.Routines.2 x hx) (by have:=Zll XK hx;omega)
 have hb:=JD LG (Zes d) 60 d.Starts fun x hx=>Zmf d x (ok.Starts.2 x hx)
 have hc:=JD Zj6 Zex 60 d.Laws fun x hx=>Zl0 x (ok.Laws.2 x hx)
 unfold Bd sT5 sT4 sT3 nmT sT2 sT1 sT0
 simp only [aZ,ZC,G6,jn1,dB,az]
 omega
theorem ZjV (m:ZF)(ok:Xu m)(hk:bkL (Cc m)≤1048576):(mdT m).length≤2199023255552:=by
 unfold Cc at hk
 simp only [bkL,bkA] at hk
 have h1:=Zb3 1 (by decide) [112,97,114,97,109] (by decide) m.Params ok.Params.2
 have h2:=JD Q3 Bd 1049576 m.Sites fun x hx=>Zk3 x (ok.Sites.2 x hx) (by have:=Zll Q3 hx;omega)
 have h3:=JD Zcu lkT 60 m.Links fun x hx=>ZmE x (ok.Links.2 x hx)
 have h4:=Ep
 unfold mdT mT1 mT0
 simp only [aZ,ZC,G6,jn1,dB,az]
 omega
end Go.Proofs.YtbcfddaocfpckaaGreatDoor
end
