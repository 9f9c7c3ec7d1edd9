import Derived.Test.YtbcfddaocfpckaaGreatDoorHMo3
set_option linter.all false
open Bool renaming false_eq_true→aK,or_false→jM,not_or→jO,decide_and→jP,eq_false_or_eq_true→jQ
open List renaming sizeOf_lt_of_mem→jR,any_cons→jS,map_cons→cO,mem_cons→gZ,nodup_cons→jT
section
namespace Go.Proofs.YtbcfddaocfpckaaGreatDoor
open Go Abs
set_option maxRecDepth 100000
def ZkK (n:Int):Bool:=decide (97≤n)&&decide (n≤122)
def ZbB (n:Int):Bool:=ZkK n||decide (n=95)||(decide (48≤n)&&decide (n≤57))
def kws:List (List UInt8):=[[97,100,100],[97,102,116,101,114],[97,110,100],[97,116],[98,101,108,116],[98,111,111,108],[99,111,110,115,101,114,118,101],[99,111,110,115,116],[99,111,117,110,116],[99,121,99,108,101],[100,111,119,110],[100,114,97,119],[100,117,114],[101,108,115,101],[101,110,100],[101,118,101,114,121],[102,97,108,115,101],[102,97,117,108,116],[102,105,102,111],[102,114,101,101],[102,114,111,109],[103,101,111,109],[103,101,116],[104,111,108,100],[105,102],[105,110,116],[105,110,116,111],[108,101,97,115,116],[108,101,118,101,108],[108,105,102,111],[108,105,110,107],[108,111,99,97,108],[109,97,120],[109,105,110],[109,111,100,101,108],[110,111,116],[110,111,119],[111,98,115,101,114,118,101],[111,114],[112,97,114,97,109],[112,114,101,101,109,112,116],[112,114,105,111],[112,117,116],[113,117,101,117,101],[114,101,108,101,97,115,101],[114,101,115,111,117,114,99,101],[114,105,100,101],[114,111,117,116,105,110,101],[115,101,105,122,101],[115,101,110,100],[115,101,116],[115,104,105,102,116],[115,105,103,110,97,108],[115,105,116,101],[115,105,122,101],[115,112,97,119,110],[115,116,97,114,116],[115,116,111,112],[115,116,111,114,101],[115,116,114,101,97,109],[115,117,109],[116,97,98,108,101],[116,97,108,108,121],[116,105,99,107,115],[116,105,109,101],[116,114,117,101],[117,110,105,102,111,114,109],[117,110,116,105,108],[117,112],[118,97,114],[119,97,105,116],[119,97,105,116,105,110,103],[119,104,105,108,101]]
def kwB (s:List UInt8):Bool:=kws.any fun k=>decide (s=k)
def Vk (s:List UInt8):Int :=
 match s with
 | []=>3
 |c::r=>if 24<(c::r).length∨ZkK c.toNat=false∨kwB (c::r)=true then 3 else if (c::r).all (fun x=>ZbB x.toNat) then 0 else 3
def inB (n:Int):Bool:=decide (-1000000000000≤n)&&decide (n≤1000000000000)
theorem DD (s:List UInt8):Vk s=0∨Vk s=3:=by
 unfold Vk
 split
 ·exact .inr rfl
 ·split
  ·exact .inr rfl
  ·split
   ·exact .inl rfl
   ·exact .inr rfl
def ZZ {α σ:Type}(step:α→σ→Int×σ):List α→σ→Int×σ
 | [],s=>(0,s)
 |x::r,s=>if decide ((step x s).1≠0)=true then step x s else ZZ step r (step x s).2
def Oh {σ:Type}:List (σ→Int×σ)→σ→Int×σ
 | [],s=>(0,s)
 |f::r,s=>if decide ((f s).1≠0)=true then f s else Oh r (f s).2
theorem ZaH {n:Int}(h1:-9223372036854775808≤n)(h2:n≤9223372036854775807):IntKind.i64.wrap n=n:=i64_in h1 h2
def Zio (a b:Yo):Bool:=decide (a.Op=b.Op)&&decide (a.A=b.A)&&decide (a.B=b.B)&&decide (a.N=b.N)&&decide (a.Values=b.Values)&&decide (a.Weights=b.Weights)
def btw (x lo hi:Int):Bool:=decide (lo≤x)&&decide (x≤hi)
def BA (d:Yo):Bool :=
 if decide (d.Op=1)=true then decide ((d.Values.length:Int)+d.Weights.length=0)&&decide (d.B=0)&&decide (d.N=0)
 else if decide (d.Op=2)=true then decide ((d.Values.length:Int)+d.Weights.length=0)&&decide (d.N=0)
 else if decide (d.Op=5)=true then decide ((d.Values.length:Int)+d.Weights.length=0)&&decide (d.N=0)
 else if decide (d.Op=4)=true then decide ((d.Values.length:Int)+d.Weights.length=0)
 else if decide (d.Op=3)=true then decide (d.A=0)&&decide (d.B=0)&&decide (d.N=0)
 else false
theorem X0.v {d:Yo}(h:X0 d):d.Values.length≤4611686018427387:=by have:=h.Values.1;omega
theorem X0.w {d:Yo}(h:X0 d):d.Weights.length≤4611686018427387:=by have:=h.Weights.1;omega
theorem X0.wr {d:Yo}(h:X0 d):IntKind.i64.wrap ((d.Values.length:Int)+(d.Weights.length:Int))=(d.Values.length:Int)+(d.Weights.length:Int):=by
 have:=h.v;have:=h.w;exact ZaH (by omega) (by omega)
def Zao (d:Yo):Bool :=
 if decide (d.Op=1)=true then decide (d.B=0)&&decide (d.N=0)&&(decide ((d.Values.length:Int)=0)&&decide ((d.Weights.length:Int)=0))
 else if decide (d.Op=2)=true then decide (d.N=0)&&(decide ((d.Values.length:Int)=0)&&decide ((d.Weights.length:Int)=0))
 else if decide (d.Op=5)=true then decide (d.N=0)&&(decide ((d.Values.length:Int)=0)&&decide ((d.Weights.length:Int)=0))
 else if decide (d.Op=3)=true then decide (d.A=0)&&decide (d.B=0)&&decide (d.N=0)
 else if decide (d.Op=4)=true then (decide ((d.Values.length:Int)=0)&&decide ((d.Weights.length:Int)=0))
 else false
def ZkO (lo hi:Int)(x:Int):Bool:=decide (x<lo)||decide (hi<x)
def JE {α:Type}(f:α→Bool):List α→Int→Int
 | [],_=>-1
 |x::r,i=>if f x=true then i else JE f r (i+1)
theorem AA {α:Type}(f:α→Bool):∀(l:List α) (i:Int),0≤i→decide (0≤JE f l i)=l.any f
 | [],i,h=>by simp [JE]
 |x::r,i,h=>by
  have ih:=AA f r (i+1) (by omega)
  cases hx:f x<;>simp [JE,hx,h]
  simpa using ih
def WC (lo hi:Int)(l:List Int):Bool:=!(l.any (ZkO lo hi))
def JK (d:Yo):Int :=
 if (!(BA d))=true then 1
 else if decide (d.Op=1)=true then (if (!(WC 0 1000000000 [d.A]))=true then 2 else 0)
 else if decide (d.Op=2)=true then (if (!(WC 0 1000000000 [d.A,d.B]&&decide (d.A≤d.B)))=true then 2 else 0)
 else if decide (d.Op=4)=true then (if (!(WC 1 20 [d.N]&&WC 0 1000000 [d.A,d.B]&&decide (d.A≤d.B)))=true then 2 else 0)
 else if decide (d.Op=5)=true then (if (!(WC 1 1000 [d.A,d.B]))=true then 2 else 0)
 else if decide (d.Op=3)=true then
  (if decide ((d.Values.length:Int)≠(d.Weights.length:Int))=true then 8 else if decide ((d.Values.length:Int)=0)=true then 7 else if decide (20<(d.Values.length:Int))=true then 6
   else if (!(WC 0 1000000000 d.Values&&WC 1 1000 d.Weights))=true then 2 else 0)
 else 2
def ZkZ:List Int→List Int→Int
 |x::r,y::s=>if (!(btw x 0 1000000000)||!(btw y 1 1000))=true then 2 else ZkZ r s
 |_,_=>0
def ZgM (d:Yo):Int :=
 if decide ((d.Values.length:Int)≠(d.Weights.length:Int))=true then 8 else if decide ((d.Values.length:Int)=0)=true then 7 else if decide (20<(d.Values.length:Int))=true then 6 else ZkZ d.Values d.Weights
def ZjH (d:Yo):Int :=
 if (!(Zao d))=true then 1
 else if decide (d.Op=1)=true then (if (!(btw d.A 0 1000000000))=true then 2 else 0)
 else if decide (d.Op=2)=true then (if (!(btw d.A 0 d.B&&decide (d.B≤1000000000)))=true then 2 else 0)
 else if decide (d.Op=3)=true then ZgM d
 else if decide (d.Op=4)=true then (if (!(btw d.N 1 20&&btw d.A 0 d.B&&decide (d.B≤1000000)))=true then 2 else 0)
 else if decide (d.Op=5)=true then (if (!(btw d.A 1 1000&&btw d.B 1 1000))=true then 2 else 0)
 else 0
def Zj5 (op:Int):Bool:=decide (22≤op)&&decide (op≤24)
def Rx (op:Int):Int :=
 if (decide (op=1)||decide (op=2)||decide (op=3)||decide (op=4))=true then 0
 else if (decide (5≤op)&&decide (op≤8))=true then 1
 else if (decide (9≤op)&&decide (op≤21))=true then 2
 else if (decide (22≤op)&&decide (op≤26))=true then 0 else -1
def AO (code:Bool)(op:Int):Bool :=
 if decide (op=3)=true then !code else if decide (op=25)=true then code else if decide (op=26)=true then code else decide (0≤Rx op)
def Zdx (code:Bool)(op:Int):Bool:=decide (op=3)||(Zj5 op&&!code)
def Zj4 (code:Bool)(op:Int):Int×Int×Bool :=
 if decide (op=2)=true then (0,1,true) else if decide (op=25)=true then (0,15,true) else if decide (op=26)=true then (0,31,true) else if (Zj5 op&&code)=true then (0,63,true) else (0,0,false)
def DI (code:Bool)(e:Zt):Int :=
 if (!(AO code e.Op)||decide ((e.Kids.length:Int)≠Rx e.Op)||(decide (e.Name≠[])&&!(Zdx code e.Op)))=true then 1
 else if decide (e.Op=1)=true then (if (!(inB e.N))=true then 2 else 0)
 else if (!(Zj4 code e.Op).2.2&&decide (e.N≠0))=true then 1
 else if ((Zj4 code e.Op).2.2&&(decide (e.N<(Zj4 code e.Op).1)||decide ((Zj4 code e.Op).2.1<e.N)))=true then 2
 else if Zdx code e.Op=true then Vk e.Name else 0
theorem LD {x e:Zt}(h:x∈e.Kids):SizeOf.sizeOf x<SizeOf.sizeOf e:=by
 cases e
 have:=jR h
 simp at *
 omega
theorem IU (e:Zt):0<SizeOf.sizeOf e:=by cases e;simp;omega
theorem Yi.k {e:Zt}(h:Yi e):e.Kids.length≤4611686018427387:=by have:=h.Kids.1;omega
theorem Yi.n {e:Zt}(h:Yi e):e.Name.length≤140737488351232:=h.Name
mutual
def WF (code:Bool):Zt→Int
 |⟨o,a,n,ks⟩=>if decide (DI code ⟨o,a,n,ks⟩≠0)=true then DI code ⟨o,a,n,ks⟩ else AZ code ks
def AZ (code:Bool):List Zt→Int
 | []=>0
 |x::r=>if decide (WF code x≠0)=true then WF code x else AZ code r
end
theorem Zbc (code:Bool):∀l:List Zt,AZ code l=W9 (WF code) l
 | []=>by rw [AZ];rfl
 |x::r=>by rw [AZ,Zbc code r];rfl
theorem AY (code:Bool)(e:Zt):WF code e=if decide (DI code e≠0)=true then DI code e else W9 (WF code) e.Kids:=by
 cases e;rw [WF,Zbc]
mutual
def Zj2:Zt→Int
 |⟨_,_,_,ks⟩=>Zij ks 1
def Zij:List Zt→Int→Int
 | [],n=>n
 |x::r,n=>Zij r (IntKind.i64.wrap (n+Zj2 x))
end
theorem Zgl:∀(l:List Zt) (n:Int),Zij l n=sumW Zj2 l n
 | [],n=>by rw [Zij];rfl
 |x::r,n=>by rw [Zij,Zgl r];rfl
theorem Zii (e:Zt):Zj2 e=sumW Zj2 e.Kids 1:=by cases e;rw [Zj2,Zgl]
mutual
def Zil:Zt→Int
 |⟨_,_,_,ks⟩=>IntKind.i64.wrap (Zin ks 0+1)
def Zin:List Zt→Int→Int
 | [],n=>n
 |x::r,n=>Zin r (if Zil x>n then Zil x else n)
end
theorem Zgn:∀(l:List Zt) (n:Int),Zin l n=ZjU Zil l n
 | [],n=>by rw [Zin];rfl
 |x::r,n=>by rw [Zin,Zgn r];rfl
theorem Zim (e:Zt):Zil e=IntKind.i64.wrap (ZjU Zil e.Kids 0+1):=by cases e;rw [Zil,Zgn]
def Zhf (a b:Zt):Bool:=decide (a.Op≠b.Op)||decide (a.Name≠b.Name)||decide (a.N≠b.N)
mutual
def ZaF:Zt→Zt→Bool
 |⟨o,a,n,ks⟩,e=>if (Zhf ⟨o,a,n,ks⟩ e||decide ((ks.length:Int)≠(e.Kids.length:Int)))=true then false else CP ks e.Kids
def CP:List Zt→List Zt→Bool
 |x::r,y::s=>if (!(ZaF x y))=true then false else CP r s
 |_,_=>true
end
theorem Zeq:∀l m:List Zt,CP l m=all2 ZaF l m
 | [],[]=>by rw [CP]<;>simp [all2]
 | [],y::s=>by rw [CP]<;>simp [all2]
 |x::r,[]=>by rw [CP]<;>simp [all2]
 |x::r,y::s=>by rw [CP,Zeq r s];rfl
theorem ZcA (a b:Zt):ZaF a b=if (Zhf a b||decide ((a.Kids.length:Int)≠(b.Kids.length:Int)))=true then false else all2 ZaF a.Kids b.Kids:=by
 cases a;rw [ZaF,Zeq]
def Ai (op:Int):Int :=
 if (decide (op<1)||decide (26<op))=true then -1 else if (decide (5≤op)&&decide (op≤8))=true then 1 else if (decide (9≤op)&&decide (op≤21))=true then 2 else 0
def ZjW (op:Int):Int:=if decide (op=25)=true then 15 else if decide (op=26)=true then 31 else 63
def Zhe (code:Bool)(e:Zt):Int :=
 if (!(decide (0≤Ai e.Op)&&((code&&decide (e.Op≠3))||(!code&&decide (e.Op≤24))))||(!(!code&&(decide (e.Op=3)||Zj5 e.Op))&&decide (e.Name≠[]))||(!(decide (e.Op=1)||decide (e.Op=2)||(code&&(Zj5 e.Op||decide (e.Op=25)||decide (e.Op=26))))&&decide (e.N≠0))||decide ((e.Kids.length:Int)≠Ai e.Op))=true then 1
 else if ((decide (e.Op=1)&&!(inB e.N))||((decide (e.Op=2)&&decide (e.N≠0))&&decide (e.N≠1))||((code&&(Zj5 e.Op||decide (e.Op=25)||decide (e.Op=26)))&&(decide (e.N<0)||decide (ZjW e.Op<e.N))))=true then 2
 else if ((!code&&(decide (e.Op=3)||Zj5 e.Op))&&decide (Vk e.Name≠0))=true then Vk e.Name else 0
theorem ZoU (op:Int):1≤op∧op≤26→op=1∨op=2∨op=3∨op=4∨op=5∨op=6∨op=7∨op=8∨op=9∨op=10∨op=11∨op=12∨op=13∨op=14∨op=15∨op=16∨op=17∨op=18∨op=19∨op=20∨op=21∨op=22∨op=23∨op=24∨op=25∨op=26:=by omega
theorem ZjN (code:Bool)(e:Zt):Zhe code e=DI code e:=by
 obtain ⟨op,nm,n,ks⟩:=e
 by_cases h:1≤op∧op≤26
 ·rcases ZoU op h with rfl|rfl|rfl|rfl|rfl|rfl|rfl|rfl|rfl|rfl|rfl|rfl|rfl|rfl|rfl|rfl|rfl|rfl|rfl|rfl|rfl|rfl|rfl|rfl|rfl|rfl<;>cases code<;>simp [Zhe,DI,Ai,ZjW,Zj5,Rx,AO,Zdx,Zj4]<;>grind
 ·have h1:Ai op=-1:=by simp only [Ai];rw [if_pos];simp;omega
  have h2:Rx op=-1:=by
   simp only [Rx]
   rw [if_neg (by simp;omega),if_neg (by simp;omega),if_neg (by simp;omega),if_neg (by simp;omega)]
  have h3:AO code op=false:=by
   simp only [AO,h2]
   rw [if_neg (by simp;omega),if_neg (by simp;omega),if_neg (by simp;omega)];rfl
  simp [Zhe,DI,h1,h2,h3]
theorem Zi8 (code:Bool)(e:Zt):(if decide (Zhe code e≠0)=true then Zhe code e else W9 (WF code) e.Kids)=WF code e:=by rw [ZjN,← AY]
def WX (code:Bool)(e:Zt):Int:=if decide (60<Zj2 e)=true then 6 else if decide (12<Zil e)=true then 11 else WF code e
def JH (op:Int):Uo×Bool:=if decide (op=1)=true then (⟨true,false,true,false,false,false,false,false,false⟩,true) else if decide (op=7)=true then (⟨true,false,true,false,false,false,false,false,false⟩,true) else if decide (op=8)=true then (⟨true,false,true,false,false,false,false,false,false⟩,true) else if decide (op=12)=true then (⟨true,false,true,false,false,false,false,false,false⟩,true) else if decide (op=15)=true then (⟨true,false,true,false,false,false,false,false,false⟩,true) else if decide (op=16)=true then (⟨true,false,true,false,false,false,false,false,false⟩,true) else if decide (op=17)=true then (⟨true,false,true,false,false,false,false,false,false⟩,true) else if decide (op=2)=true then (⟨true,true,false,false,false,true,false,false,false⟩,true) else if decide (op=3)=true then (⟨false,false,true,false,false,false,false,true,true⟩,true) else if decide (op=4)=true then (⟨false,false,true,false,false,false,false,true,false⟩,true) else if decide (op=5)=true then (⟨false,false,true,false,false,false,false,false,false⟩,true) else if decide (op=6)=true then (⟨true,false,true,true,false,false,true,false,false⟩,true) else if decide (op=9)=true then (⟨true,true,false,false,false,false,false,false,false⟩,true) else if decide (op=10)=true then (⟨true,false,false,false,false,false,false,false,false⟩,true) else if decide (op=11)=true then (⟨true,false,false,false,false,false,false,false,false⟩,true) else if decide (op=13)=true then (⟨true,true,true,false,true,false,false,false,false⟩,true) else if decide (op=14)=true then (⟨true,false,true,false,true,false,false,false,false⟩,true) else if decide (op=18)=true then (⟨false,false,false,false,false,false,false,false,false⟩,true) else (⟨false,false,false,false,false,false,false,false,false⟩,false)
def Zaq (e:Zt):Bool:=decide (e.Op=0)&&decide (e.Name=[])&&decide (e.N=0)&&decide ((e.Kids.length:Int)=0)
def PH (d:Yo):Bool:=decide (d.Op=0)&&decide (d.A=0)&&decide (d.B=0)&&decide (d.N=0)&&decide (d.Values=[])&&decide (d.Weights=[])
def Zdq (s:Zl)(u:Uo):Bool :=
 (u.name||decide (s.Name=[]))&&(u.of||decide (s.Of=[]))&&(u.e||Zaq s.E)&&(u.f||Zaq s.F)&&(u.args||decide ((s.Args.length:Int)=0))&&(u.dist||PH s.Dist)&&(u.flag||!s.Flag)&&(u.body||decide ((s.Body.length:Int)=0))&&(u.other||decide ((s.Else.length:Int)=0))
def Zit (s:Zl):Bool :=
 (JH s.Op).2&&((((JH s.Op).1.name||decide (s.Name=[]))&&((JH s.Op).1.of||decide (s.Of=[]))))&&(((JH s.Op).1.e||Zaq s.E)&&((JH s.Op).1.f||Zaq s.F)&&((JH s.Op).1.args||decide ((s.Args.length:Int)=0)))&&(((JH s.Op).1.body||decide ((s.Body.length:Int)=0))&&((JH s.Op).1.other||decide ((s.Else.length:Int)=0)))&&((JH s.Op).1.dist||PH s.Dist)&&((JH s.Op).1.flag||!s.Flag)
theorem ZjK (s:Zl):Zit s=((JH s.Op).2&&Zdq s (JH s.Op).1):=by
 simp only [Zit,Zdq]
 generalize (JH s.Op).1=u
 generalize (JH s.Op).2=b
 ac_rfl
def Dp (s:Zl)(u:Uo):List Zt→Int
 | []=>if u.dist=true then JK s.Dist else 0
 |x::r=>if decide (WX false x≠0)=true then WX false x else Dp s u r
def Zbg (s:Zl)(u:Uo):Int:=if decide (6<(s.Args.length:Int))=true then 6 else Dp s u s.Args
def Zbi (s:Zl)(u:Uo):Int:=if (!u.f)=true then Zbg s u else if decide (WX false s.F≠0)=true then WX false s.F else Zbg s u
def Zbh (s:Zl)(u:Uo):Int:=if (!u.e)=true then Zbi s u else if decide (WX false s.E≠0)=true then WX false s.E else Zbi s u
def Zbj (s:Zl)(u:Uo):Int :=
 if (u.name&&decide (Vk s.Name≠0))=true then Vk s.Name else if (u.of&&decide (Vk s.Of≠0))=true then Vk s.Of else Zbh s u
theorem Ym.a {s:Zl}(h:Ym s):s.Args.length≤4611686018427387:=by have:=h.Args.1;omega
theorem w01:IntKind.i64.wrap (0+1)=1∧IntKind.i64.wrap (1+1)=2∧decide ((0:Int)<2)=true∧decide ((1:Int)<2)=true∧decide ((2:Int)<2)=false∧(∀(α:Type) (a b:α),(([a,b].length:Nat):Int)=2):=⟨by decide,by decide,by decide,by decide,by decide,fun _ _ _=>rfl⟩
theorem ZgL (s:Zl):SizeOf.sizeOf s.E<SizeOf.sizeOf s∧SizeOf.sizeOf s.F<SizeOf.sizeOf s∧SizeOf.sizeOf s.Args<SizeOf.sizeOf s∧SizeOf.sizeOf s.Body<SizeOf.sizeOf s∧SizeOf.sizeOf s.Else<SizeOf.sizeOf s:=by
 cases s;simp;omega
theorem ZnE {s:Zl}{x:Zt}(h:x∈s.Args):SizeOf.sizeOf x<SizeOf.sizeOf s:=by
 have:=jR h
 have:=(ZgL s).2.2.1
 omega
def PP (s:Zl):List Zt→Int→Int
 | [],e=>e
 |x::r,e=>if decide (e=0)=true then PP s r (WX false x) else e
def Aq (s:Zl)(u:Uo):Int :=
 PP s s.Args (if (decide ((if (decide ((if u.e=true then WX false s.E else 0)=0)&&u.f)=true then WX false s.F else (if u.e=true then WX false s.E else 0))=0)&&decide (6<(s.Args.length:Int)))=true then 6
  else (if (decide ((if u.e=true then WX false s.E else 0)=0)&&u.f)=true then WX false s.F else (if u.e=true then WX false s.E else 0)))
def Zok (s:Zl):Int :=
 if (!(Zit s))=true then 1
 else if (((JH s.Op).1.name&&decide (Vk s.Name≠0))||((JH s.Op).1.of&&decide (Vk s.Of≠0)))=true then 3
 else if (decide (Aq s (JH s.Op).1=0)&&(JH s.Op).1.dist)=true then ZjH s.Dist else Aq s (JH s.Op).1
theorem Zb6 (s:Zl)(l:List Zt)(e:Int)(h:e≠0):PP s l e=e:=by
 cases l<;>simp [PP,h]
theorem ZaW (s:Zl)(u:Uo):∀l:List Zt,(if (decide (PP s l 0=0)&&u.dist)=true then JK s.Dist else PP s l 0)=Dp s u l
 | []=>by simp [PP,Dp]
 |x::r=>by
  by_cases h:WX false x=0
  ·simp only [PP,Dp,h,decide_true,if_true,ne_eq,not_true_eq_false,decide_false,aK,if_false]
   exact ZaW s u r
  ·simp [PP,Dp,h,Zb6]
def Zdz (s:Zl):Int:=if (!(JH s.Op).2||!(Zdq s (JH s.Op).1))=true then 1 else Zbj s (JH s.Op).1
theorem Zmm (lo hi a:Int):WC lo hi [a]=btw a lo hi:=by
 simp only [WC,jS,List.any_nil,ZkO,btw,jM,jO,← decide_not,Int.not_lt]
theorem Zmn (lo hi a b:Int):WC lo hi [a,b]=(btw a lo hi&&btw b lo hi):=by
 simp only [WC,jS,List.any_nil,ZkO,btw,jM,jO,← decide_not,Int.not_lt]
theorem Zmo (lo hi a:Int)(l:List Int):WC lo hi (a::l)=(btw a lo hi&&WC lo hi l):=by
 simp only [WC,jS,ZkO,btw,jO,← decide_not,Int.not_lt]
theorem Zla:∀(l m:List Int),l.length=m.length→ZkZ l m=if (!(WC 0 1000000000 l&&WC 1 1000 m))=true then 2 else 0
 | [],[],_=>by simp [ZkZ,WC]
 | [],y::m,h=>by simp at h
 |x::l,[],h=>by simp at h
 |x::l,y::m,h=>by
  have ih:=Zla l m (by simpa using h)
  simp only [ZkZ,Zmo,ih]
  generalize WC 0 1000000000 l=c1
  generalize WC 1 1000 m=c2
  cases btw x 0 1000000000<;>cases btw y 1 1000<;>cases c1<;>cases c2<;>rfl
theorem Zoh (a b:Nat):decide ((a:Int)+(b:Int)=0)=(decide ((a:Int)=0)&&decide ((b:Int)=0)):=by
 rw [← jP];congr 1;apply propext;omega
theorem Zjt (d:Yo):Zao d=BA d:=by
 simp only [Zao,BA,Zoh]
 by_cases h1:d.Op=1
 ·simp [h1];ac_rfl
 by_cases h2:d.Op=2
 ·simp [h2,Bool.and_comm]
 by_cases h5:d.Op=5
 ·simp [h5,Bool.and_comm]
 by_cases h3:d.Op=3
 ·simp [h3]
 by_cases h4:d.Op=4
 ·simp [h4]
 simp [h1,h2,h3,h4,h5]
theorem ZbC (d:Yo):ZjH d=JK d:=by
 simp only [ZjH,JK,Zjt,Zmm,Zmn,ZgM]
 by_cases hu:BA d=true
 ·simp only [hu]
  by_cases h1:d.Op=1
  ·simp [h1]
  by_cases h2:d.Op=2
  ·simp only [h2,btw];simp;grind
  by_cases h3:d.Op=3
  ·simp only [h3]
   by_cases hl:d.Values.length=d.Weights.length
   ·rw [Zla _ _ hl];simp
   ·have:¬((d.Values.length:Int)=d.Weights.length):=by omega
    simp [this]
  by_cases h4:d.Op=4
  ·simp only [h4,btw];simp;grind
  by_cases h5:d.Op=5
  ·simp [h5]
  ·exfalso
   simp [BA,h1,h2,h3,h4,h5] at hu
 ·simp [hu]
theorem ZlA (s:Zl):Zok s=Zdz s:=by
 have n1:=DD s.Name
 have n2:=DD s.Of
 unfold Zok Zdz Zbj
 rw [ZjK,ZbC]
 generalize JH s.Op=w
 obtain ⟨u,b⟩:=w
 simp only
 have key:(if (decide (Aq s u=0)&&u.dist)=true then JK s.Dist else Aq s u)=Zbh s u:=by
  have ha:=ZaW s u s.Args
  unfold Aq Zbh Zbi Zbg
  rcases jQ u.e with h1|h1<;>rcases jQ u.f with h3|h3<;>rcases jQ (decide (6<(s.Args.length:Int))) with h5|h5<;>by_cases h2:WX false s.E=0<;>by_cases h4:WX false s.F=0 <;>
   simp only [h1,h2,h3,h4,h5,ne_eq,not_true_eq_false,not_false_eq_true,decide_true,decide_false,BL,IFJ,Zb6,aK,if_true,if_false]<;>first|exact ha|(simp [Zb6,h2,h4];done)|rfl
 rw [key]
 rcases n1 with h1|h1<;>rcases n2 with h2|h2<;>cases b<;>cases Zdq s u<;>cases u.name<;>cases u.of<;>simp [h1,h2]
mutual
def ZkG:Zl→Int
 |⟨_,_,_,_,_,_,_,_,b,e⟩=>IntKind.i64.wrap (KY b (b.length:Int)+KY e (e.length:Int))
def KY:List Zl→Int→Int
 | [],n=>n
 |x::r,n=>KY r (IntKind.i64.wrap (n+ZkG x))
end
theorem Zlr (s:Zl):ZkG s=IntKind.i64.wrap (KY s.Body (s.Body.length:Int)+KY s.Else (s.Else.length:Int)):=by cases s;rw [ZkG]
mutual
def Zmq:Zl→Int→Int
 |⟨_,_,_,_,_,_,_,_,b,e⟩,n=>IntKind.i64.wrap (IntKind.i64.wrap (IntKind.i64.wrap (n+1)+U3 b 0)+U3 e 0)
def U3:List Zl→Int→Int
 | [],n=>n
 |x::r,n=>U3 r (Zmq x n)
end
theorem Zih (s:Zl)(n:Int):Zmq s n=IntKind.i64.wrap (IntKind.i64.wrap (IntKind.i64.wrap (n+1)+U3 s.Body 0)+U3 s.Else 0):=by cases s;rw [Zmq]
def mx3 (a b c:Int):Int:=if c>(if b>a then b else a) then c else (if b>a then b else a)
mutual
def ZnT:Zl→Int→Int
 |⟨_,_,_,_,_,_,_,_,b,e⟩,n=>mx3 n (IntKind.i64.wrap (1+Rt b 0)) (IntKind.i64.wrap (1+Rt e 0))
def Rt:List Zl→Int→Int
 | [],n=>n
 |x::r,n=>Rt r (ZnT x n)
end
theorem Zik (s:Zl)(n:Int):ZnT s n=mx3 n (IntKind.i64.wrap (1+Rt s.Body 0)) (IntKind.i64.wrap (1+Rt s.Else 0)):=by cases s;rw [ZnT]
mutual
def Zlq:Zl→Int
 |⟨a,b,c,d,e,f,g,h,i,j⟩=>if decide (Zdz ⟨a,b,c,d,e,f,g,h,i,j⟩≠0)=true then Zdz ⟨a,b,c,d,e,f,g,h,i,j⟩ else if decide (WR i≠0)=true then WR i else WR j
def WR:List Zl→Int
 | []=>0
 |x::r=>if decide (Zlq x≠0)=true then Zlq x else WR r
end
theorem ZeB (s:Zl):Zlq s=if decide (Zdz s≠0)=true then Zdz s else if decide (WR s.Body≠0)=true then WR s.Body else WR s.Else:=by cases s;rw [Zlq]
theorem Zlo (b:Bool)(p B E R:Int):(if b=true then 1 else if decide (p≠0)=true then p else if decide (B≠0)=true then B else if decide (E≠0)=true then E else R) =
  if decide ((if decide ((if b=true then 1 else p)≠0)=true then (if b=true then 1 else p) else if decide (B≠0)=true then B else E)≠0)=true then (if decide ((if b=true then 1 else p)≠0)=true then (if b=true then 1 else p) else if decide (B≠0)=true then B else E) else R:=by
 cases b<;>by_cases h1:p=0<;>by_cases h2:B=0<;>by_cases h3:E=0<;>simp [h1,h2,h3]
theorem Zlp (p B E R:Int):(if decide (p=0)=true then (if decide (B=0)=true then (if decide (E≠0)=true then E else R) else if decide (B≠0)=true then B else R) else if decide (p≠0)=true then p else R) =
  if decide ((if decide (p≠0)=true then p else if decide (B≠0)=true then B else E)≠0)=true then (if decide (p≠0)=true then p else if decide (B≠0)=true then B else E) else R:=by
 by_cases h1:p=0<;>by_cases h2:B=0<;>by_cases h3:E=0<;>simp [h1,h2,h3]
theorem Zmr {s:Zl}{l:List Zl}(h:s∈l):SizeOf.sizeOf s<SizeOf.sizeOf l∧SizeOf.sizeOf s.Body<SizeOf.sizeOf l∧SizeOf.sizeOf s.Else<SizeOf.sizeOf l:=by
 have:=jR h
 have:=ZgL s
 omega
def ZaI (l:List Zl):Prop:=l.length≤4611686018427387∧∀s∈l,Ym s
theorem Ym.b {s:Zl}(h:Ym s):ZaI s.Body∧ZaI s.Else:=by
 have h1:=h.Body;have h2:=h.Else
 exact ⟨⟨by omega,h1.2⟩,by omega,h2.2⟩
theorem Zjo (l:List Zl):0<SizeOf.sizeOf l:=by cases l<;>simp<;>omega
def LC (l:List Zl):Int:=if decide (200<KY l (l.length:Int))=true then 6 else if decide (12<Rt l 0)=true then 11 else WR l
def ZeA (l:List Zl):Int:=if decide (200<U3 l 0)=true then 6 else if decide (12<Rt l 0)=true then 11 else WR l
theorem wrK (n:Int):∃k:Int,IntKind.i64.wrap n=n+18446744073709551616*k:=by
 rw [IntKind.wrap_i64]
 exact ⟨-((n+9223372036854775808) / 18446744073709551616),by omega⟩
theorem wrR (n:Int):-9223372036854775808≤IntKind.i64.wrap n∧IntKind.i64.wrap n≤9223372036854775807:=by
 rw [IntKind.wrap_i64]
 constructor<;>omega
mutual
def trS:Zl→Int
 |⟨_,_,_,_,_,_,_,_,b,e⟩=>ZkA b+ZkA e
def ZkA:List Zl→Int
 | []=>0
 |x::r=>1+trS x+ZkA r
end
mutual
theorem trR:∀(s:Zl) (n:Int),∃k:Int,Zmq s n=n+1+trS s+18446744073709551616*k
 |⟨_,_,_,_,_,_,_,_,b,e⟩,n=>by
  rw [Zmq,trS]
  obtain ⟨k1,h1⟩:=ZnI b 0
  obtain ⟨k2,h2⟩:=ZnI e 0
  obtain ⟨k3,h3⟩:=wrK (n+1)
  obtain ⟨k4,h4⟩:=wrK (IntKind.i64.wrap (n+1)+U3 b 0)
  obtain ⟨k5,h5⟩:=wrK (IntKind.i64.wrap (IntKind.i64.wrap (n+1)+U3 b 0)+U3 e 0)
  exact ⟨k1+k2+k3+k4+k5,by omega⟩
theorem ZnI:∀(l:List Zl) (n:Int),∃k:Int,U3 l n=n+ZkA l+18446744073709551616*k
 | [],n=>⟨0,by rw [U3,ZkA];omega⟩
 |x::r,n=>by
  rw [U3,ZkA]
  obtain ⟨k1,h1⟩:=trR x n
  obtain ⟨k2,h2⟩:=ZnI r (Zmq x n)
  exact ⟨k1+k2,by omega⟩
end
mutual
theorem trP:∀(s:Zl),∃k:Int,ZkG s=trS s+18446744073709551616*k
 |⟨_,_,_,_,_,_,_,_,b,e⟩=>by
  rw [ZkG,trS]
  obtain ⟨k1,h1⟩:=ZnH b b.length
  obtain ⟨k2,h2⟩:=ZnH e e.length
  obtain ⟨k3,h3⟩:=wrK (KY b (b.length:Int)+KY e (e.length:Int))
  exact ⟨k1+k2+k3,by omega⟩
theorem ZnH:∀(l:List Zl) (n:Int),∃k:Int,KY l n=n - l.length+ZkA l+18446744073709551616*k
 | [],n=>⟨0,by rw [KY,ZkA];simp⟩
 |x::r,n=>by
  rw [KY,ZkA]
  obtain ⟨k1,h1⟩:=trP x
  obtain ⟨k3,h3⟩:=wrK (n+ZkG x)
  obtain ⟨k2,h2⟩:=ZnH r (IntKind.i64.wrap (n+ZkG x))
  refine ⟨k1+k2+k3,?_⟩
  simp only [List.length_cons]
  omega
end
theorem rgR:∀(l:List Zl) (n:Int),-9223372036854775808≤n→n≤9223372036854775807→-9223372036854775808≤U3 l n∧U3 l n≤9223372036854775807
 | [],n,h1,h2=>by rw [U3];exact ⟨h1,h2⟩
 |x::r,n,_,_=>by
  have h:=wrR (IntKind.i64.wrap (IntKind.i64.wrap (n+1)+U3 x.Body 0)+U3 x.Else 0)
  rw [← Zih] at h
  rw [U3]
  exact rgR r _ h.1 h.2
theorem rgP:∀(l:List Zl) (n:Int),-9223372036854775808≤n→n≤9223372036854775807→-9223372036854775808≤KY l n∧KY l n≤9223372036854775807
 | [],n,h1,h2=>by rw [KY];exact ⟨h1,h2⟩
 |x::r,n,_,_=>by
  have h:=wrR (n+ZkG x)
  rw [KY]
  exact rgP r _ h.1 h.2
theorem Zm1 (l:List Zl)(hl:l.length≤4611686018427387):U3 l 0=KY l (l.length:Int):=by
 obtain ⟨k1,h1⟩:=ZnI l 0
 obtain ⟨k2,h2⟩:=ZnH l l.length
 have r1:=rgR l 0 (by omega) (by omega)
 have r2:=rgP l l.length (by omega) (by omega)
 omega
theorem Zha (l:List Zl)(hl:l.length≤4611686018427387):ZeA l=LC l:=by
 unfold ZeA LC
 rw [Zm1 l hl]
def Y3 (a b:Int):Int:=if decide (a≠0)=true then a else b
def Ya (b:Bool)(e:Int):Int:=if b=true then 0 else e
def fitsT (t n:Int):Bool:=if decide (t=1)=true then inB n else if decide (t=2)=true then (decide (n=0)||decide (n=1)) else if decide (t=3)=true then btw n 0 1000000000 else false
def Zeu (t:Int):Bool:=decide (t=1)||decide (t=2)||decide (t=3)
theorem ZcG (t:Int):Zeu t=btw t 1 3:=by
 simp only [Zeu,btw]
 by_cases h1:t=1
 ·simp [h1]
 by_cases h2:t=2
 ·simp [h2]
 by_cases h3:t=3
 ·simp [h3]
 simp only [h1,h2,h3,decide_false,jM]
 by_cases h4:1≤t<;>by_cases h5:t≤3<;>simp [h4,h5]
 omega
def Zj8 (cyc:Int):Option Int→List XN→Int
 |_,[]=>0
 |p,c::r=>if (!(btw c.At_ 0 (cyc - 1))||!(btw c.Units 0 1000))=true then 2 else if (p.isSome&&decide (c.At_≤p.getD 0))=true then 12 else Zj8 cyc (some c.At_) r
def Zj7 (d:Zi):Int :=
 if decide ((d.Shift.length:Int)=0)=true then (if decide (d.Cycle≠0)=true then 1 else 0)
 else if decide (20<(d.Shift.length:Int))=true then 6 else if (!(btw d.Cycle 1 1000000000))=true then 2 else Zj8 d.Cycle none d.Shift
theorem Yw.s {d:Zi}(h:Yw d):d.Shift.length≤4611686018427387:=by have:=h.Shift.1;omega
theorem Z8.st {d:Za}(h:Z8 d):d.Streams.length≤4611686018427387∧d.Counts.length≤4611686018427387∧d.Stores.length≤4611686018427387∧d.Routines.length≤4611686018427387:=by
 have:=h.Streams.1;have:=h.Counts.1;have:=h.Stores.1;have:=h.Routines.1;omega
def Zdn (d:Za)(f:Oi):Int :=
 if (decide (f.Stream=[])&&(!(PH f.Up)||!(PH f.Down)))=true then 1 else if decide (f.Stream=[])=true then 0 else if (!(d.Streams.contains f.Stream))=true then 5 else if decide (JK f.Up≠0)=true then JK f.Up else JK f.Down
def Zo2 (s:Za)(d:Zi):Int :=
 if decide (Y3 (Ya (btw d.Units 0 1000) 2) (Zj7 d)≠0)=true then Y3 (Ya (btw d.Units 0 1000) 2) (Zj7 d)
 else if decide (d.Fault.Stream=[])=true then Ya (PH d.Fault.Up&&PH d.Fault.Down) 1
 else if (!(s.Streams.contains d.Fault.Stream))=true then 5 else Y3 (JK d.Fault.Up) (JK d.Fault.Down)
def ZcV (s:Za)(d:Zi):Int:=if (!(btw d.Units 0 1000))=true then 2 else if decide (Zj7 d≠0)=true then Zj7 d else Zdn s d.Fault
theorem ZlY (s:Za)(d:Zi):Zo2 s d=ZcV s d:=by
 unfold Zo2 ZcV Zdn Y3 Ya
 cases btw d.Units 0 1000<;>by_cases h1:Zj7 d=0<;>by_cases h2:d.Fault.Stream=[]<;>cases PH d.Fault.Up<;>cases PH d.Fault.Down<;>cases s.Streams.contains d.Fault.Stream<;>simp [h1,h2]
def Eo (t:Vl)(found:Bool):Int:=if (!found)=true then 5 else if (!(btw t.Coef (-1000) 1000)||decide (t.Coef=0))=true then 2 else 0
def En (d:Za)(t:Vl):Int:=if decide (t.What=[99,114,101,97,116,101,100])=true then Eo t ((d.Routines.map (·.Name)).contains t.Name) else if decide (t.What=[101,110,100,101,100])=true then Eo t ((d.Routines.map (·.Name)).contains t.Name) else if decide (t.What=[105,110,115,105,100,101])=true then Eo t ((d.Routines.map (·.Name)).contains t.Name) else if decide (t.What=[115,116,111,114,101,100])=true then Eo t ((d.Stores.map (·.Name)).contains t.Name) else if decide (t.What=[101,110,116,101,114,101,100])=true then Eo t ((d.Stores.map (·.Name)).contains t.Name) else if decide (t.What=[108,101,102,116])=true then Eo t ((d.Stores.map (·.Name)).contains t.Name) else if decide (t.What=[99,111,117,110,116,101,100])=true then Eo t (d.Counts.contains t.Name) else 1
def Pj (s:Y1):Int:=if (!(btw s.At_ 0 1000000000)||!(btw s.Every 0 1000000000)||!(btw s.Until 0 1000000000)||(decide (s.Every=0)&&decide (s.Until≠0)))=true then 2 else 0
def ZfU (s:Y1):Int:=Ya (btw s.At_ 0 1000000000&&btw s.Every 0 1000000000&&btw s.Until 0 1000000000&&(decide (s.Every≠0)||decide (s.Until=0))) 2
theorem Zjk (s:Y1):ZfU s=Pj s:=by
 unfold Pj ZfU Ya
 cases btw s.At_ 0 1000000000<;>cases btw s.Every 0 1000000000<;>cases btw s.Until 0 1000000000<;>by_cases h1:s.Every=0<;>by_cases h2:s.Until=0<;>simp [h1,h2]
def argsT (tl:Int):List ZX→List Int→Int
 |p::ps,a::ys=>if (!(fitsT p.Ty a))=true then 2 else argsT tl ps ys
 |_,_=>tl
def WQ (d:Za)(s:Y1):Int :=
 match d.Routines.find? (fun r=>decide (r.Name=s.Routine)) with
 |none=>5
 |some r=>if decide ((s.Args.length:Int)≠(r.Params.length:Int))=true then 8 else argsT (Pj s) r.Params s.Args
theorem Ux.a {s:Y1}(h:Ux s):s.Args.length≤4611686018427387:=by have:=h.Args.1;omega
theorem X3.p {r:Zx}(h:X3 r):r.Params.length≤4611686018427387∧r.Locals.length≤4611686018427387∧ZaI r.Body:=by
 have:=h.Params.1;have:=h.Locals.1;have:=h.Body
 exact ⟨by omega,by omega,by omega,this.2⟩
abbrev Seen:=List (List UInt8)
def Yt (s:List UInt8)(seen:Seen):Int×Seen:=if decide (Vk s≠0)=true then (Vk s,seen) else if seen.contains s=true then (4,seen) else (0,seen++[s])
def ZN (s:List UInt8)(rest:Int)(seen:Seen):Int×Seen:=if decide ((Yt s seen).1≠0)=true then Yt s seen else (rest,(Yt s seen).2)
def Wu (v:Yc):Int:=if (!(btw v.Ty 1 3))=true then 1 else if (!(fitsT v.Ty v.N))=true then 2 else 0
def VK (x:ZO):Int:=if (!(btw x.Room 1 1000))=true then 2 else if (decide (x.Policy<1)||decide (3<x.Policy))=true then 1 else 0
def Ec (x:Yv):Int:=if (!(btw x.Length 1 1000)||!(btw x.Step 1 1000))=true then 2 else 0
def YK {α σ:Type}(most:Int)(step:α→σ→Int×σ)(l:List α)(s:σ):Int×σ:=if decide (most<(l.length:Int))=true then (6,s) else ZZ step l s
def Oa {α:Type}(most:Int)(f:α→Int)(l:List α):Int:=if decide (most<(l.length:Int))=true then 6 else W9 f l
def Du (f:ZX):Int:=if (!(btw f.Ty 1 3))=true then 1 else 0
def Zir (l:List ZX)(s:Seen):Int×Seen:=ZZ (fun f:ZX=>ZN f.Name (Du f)) l s
def YY (r:Zx):Int :=
 if (decide (6<(r.Params.length:Int))||decide (16<(r.Params.length:Int)+(r.Locals.length:Int)))=true then 6
 else if decide ((Zir (r.Params++r.Locals) []).1≠0)=true then (Zir (r.Params++r.Locals) []).1 else LC r.Body
def Zgu (d:Za)(l:Oj):Int :=
 if decide ((l.Terms.length:Int)=0)=true then 7 else if decide (Oa 8 (En d) l.Terms≠0)=true then Oa 8 (En d) l.Terms else if (!(inB l.Total))=true then 2 else 0
theorem ZcW.t {l:Oj}(h:ZcW l):l.Terms.length≤4611686018427387:=by have:=h.Terms.1;omega
def OC (d:Za):Int:=(YK 32 (fun l:Oj=>ZN l.Name (Zgu d l)) d.Laws []).1
abbrev Step:=Seen→Int×Seen
def XE (d:Za):List Step:=[YK 32 (fun v:Yc=>ZN v.Name (Wu v)) d.Vars,YK 32 (fun v:Zi=>ZN v.Name (ZcV d v)) d.Resources,YK 32 (fun v:ZO=>ZN v.Name (VK v)) d.Stores,YK 32 (fun v:Yv=>ZN v.Name (Ec v)) d.Belts,YK 32 Yt d.Queues,YK 32 Yt d.Streams,YK 32 Yt d.Tallies,YK 32 Yt d.Levels,YK 32 Yt d.Counts,
 YK 16 (fun v:Zx=>ZN v.Name (YY v)) d.Routines,fun s=>(Oa 32 (WQ d) d.Starts,s),fun s=>(OC d,s)]
def Oe (d:Za):Int:=(Oh (XE d) []).1
abbrev Ze2:=List (List UInt8×List UInt8)
def ZbQ (m:ZF)(l:IY)(s:Ze2):Int×Ze2 :=
 if (!(m.Sites.map (·.Name)).contains l.From||!(m.Sites.map (·.Name)).contains l.To)=true then (5,s)
 else if decide (l.From=l.To)=true then (1,s) else if (!(btw l.Delay 1 1000000000))=true then (2,s) else if s.contains (l.From,l.To)=true then (4,s) else (0,s++[(l.From,l.To)])
def AP (m:ZF):Int:=(YK 32 (ZbQ m) m.Links []).1
theorem Xu.l {m:ZF}(h:Xu m):m.Params.length≤4611686018427387∧m.Sites.length≤4611686018427387∧m.Links.length≤4611686018427387:=by
 have:=h.Params.1;have:=h.Sites.1;have:=h.Links.1;omega
def KT (l:List Yc):Int:=(YK 32 (fun v:Yc=>ZN v.Name (Wu v)) l []).1
def IK (m:ZF):Int:=(YK 16 (fun d:Za=>ZN d.Name (Oe d)) m.Sites []).1
def IE (m:ZF):Int :=
 if decide (Vk m.Name≠0)=true then Vk m.Name else if decide (KT m.Params≠0)=true then KT m.Params else if decide ((m.Sites.length:Int)=0)=true then 7 else if decide (IK m≠0)=true then IK m else AP m
theorem ZoG {m:ZF}{d:Za}(h:d∈m.Sites):SizeOf.sizeOf d<SizeOf.sizeOf m:=by
 have h1:=jR h
 have h3:SizeOf.sizeOf m.Sites<SizeOf.sizeOf m:=by cases m;simp;omega
 omega
def DF (s:List UInt8)(seen:Seen):Int:=Y3 (Vk s) (Ya (!(seen.contains s)) 4)
theorem Nk (s:List UInt8)(rest:Int)(seen:Seen):(ZN s rest seen).1=Y3 (DF s seen) rest:=by
 by_cases h1:Vk s=0<;>rcases jQ (seen.contains s) with h2|h2<;>simp only [ZN,Yt,DF,Y3,Ya,h1,h2]<;>simp [h1]
theorem Zml {s:List UInt8}{rest:Int}{seen:Seen}(h:Y3 (DF s seen) rest=0):(ZN s rest seen)=(0,seen++[s]):=by
 by_cases h1:Vk s=0<;>rcases jQ (seen.contains s) with h2|h2<;>simp only [DF,Y3,Ya,h1,h2] at h<;>simp [h1] at h
 simp only [ZN,Yt,h1,h2]
 simp [h]
theorem Zm4 (f:ZX):Ya (Zeu f.Ty) 1=Du f:=by
 rw [ZcG];unfold Ya Du;cases btw f.Ty 1 3<;>rfl
def QJ (d:Za):List (Int×List (List UInt8×Int)):=[(32,d.Vars.map fun v=>(v.Name,Wu v)),(32,d.Resources.map fun v=>(v.Name,ZcV d v)),(32,d.Stores.map fun v=>(v.Name,VK v)),(32,d.Belts.map fun v=>(v.Name,Ec v)),(32,d.Queues.map fun v=>(v,0)),(32,d.Streams.map fun v=>(v,0)),(32,d.Tallies.map fun v=>(v,0)),(32,d.Levels.map fun v=>(v,0)),(32,d.Counts.map fun v=>(v,0)),(16,d.Routines.map fun v=>(v.Name,YY v))]
theorem Zn6 (x:ZO):Y3 (Ya (btw x.Room 1 1000) 2) (Ya (decide (1≤x.Policy)&&decide (x.Policy≤3)) 1)=VK x:=by
 unfold Y3 Ya VK
 have e:(decide (x.Policy<1)||decide (3<x.Policy))=!(decide (1≤x.Policy)&&decide (x.Policy≤3)):=by
  have a1:decide (x.Policy<1)=!decide (1≤x.Policy):=by rw [← decide_not];congr 1;apply propext;omega
  have a2:decide (3<x.Policy)=!decide (x.Policy≤3):=by rw [← decide_not];congr 1;apply propext;omega
  rw [Bool.not_and,a1,a2]
 rw [e]
 cases btw x.Room 1 1000<;>cases (decide (1≤x.Policy)&&decide (x.Policy≤3))<;>simp
theorem ZnQ (x:Yv):Ya (btw x.Length 1 1000&&btw x.Step 1 1000) 2=Ec x:=by
 unfold Ya Ec;cases btw x.Length 1 1000<;>cases btw x.Step 1 1000<;>rfl
theorem valueR (v:Yc):Y3 (Ya (Zeu v.Ty) 1) (Ya (fitsT v.Ty v.N) 2)=Wu v:=by
 rw [ZcG];unfold Y3 Ya Wu;cases btw v.Ty 1 3<;>cases fitsT v.Ty v.N<;>rfl
theorem KP {α β:Type}{f:α→β}{l:List α}{i:Nat}{y:β}(h:(l.map f)[i]? = some y):∃x,l[i]? = some x∧f x=y:=by
 rw [List.getElem?_map] at h
 exact Option.map_eq_some_iff.1 h
theorem kd (k:Nat):(∀j:Nat,k=j→decide (((k:Nat):Int)=(j:Int))=true)∧(∀j:Nat,k≠j→decide (((k:Nat):Int)=(j:Int))=false):=⟨fun j h=>by simp [h],fun j h=>by simp only [decide_eq_false_iff_not];omega⟩
def UG (q:List UInt8×Int):Seen→Int×Seen:=ZN q.1 q.2
def stepD (p:Int×List (List UInt8×Int)):Seen→Int×Seen:=YK p.1 UG p.2
theorem Zer {α β σ:Type}(f:α→β)(step:β→σ→Int×σ):∀(l:List α) (s:σ),ZZ step (l.map f) s=ZZ (fun x=>step (f x)) l s
 | [],s=>rfl
 |x::r,s=>by rw [cO,ZZ,ZZ,Zer f step r]
theorem KZ {α β σ:Type}(f:α→β)(step:β→σ→Int×σ)(most:Int)(l:List α):YK most step (l.map f)=YK most (fun x=>step (f x)) l:=by
 funext s;unfold YK;rw [Zer,List.length_map]
def Ez (d:Za)(laws:Int):Int:=if decide (Oa 32 (WQ d) d.Starts≠0)=true then Oa 32 (WQ d) d.Starts else laws
def Zn5 (d:Za)(laws:Int):Int:=if decide ((Oh ((QJ d).map stepD) []).1≠0)=true then (Oh ((QJ d).map stepD) []).1 else Ez d laws
theorem Zmc (d:Za):Oe d=Zn5 d (OC d):=by
 have e:XE d=(QJ d).map stepD++[fun s=>(Oa 32 (WQ d) d.Starts,s),fun s=>(OC d,s)]:=by
  have f1:stepD (32,d.Vars.map fun v=>(v.Name,Wu v))=YK 32 (fun v:Yc=>ZN v.Name (Wu v)) d.Vars:=KZ _ _ _ _
  have f2:stepD (32,d.Resources.map fun v=>(v.Name,ZcV d v))=YK 32 (fun v:Zi=>ZN v.Name (ZcV d v)) d.Resources:=KZ _ _ _ _
  have f3:stepD (32,d.Stores.map fun v=>(v.Name,VK v))=YK 32 (fun v:ZO=>ZN v.Name (VK v)) d.Stores:=KZ _ _ _ _
  have f4:stepD (32,d.Belts.map fun v=>(v.Name,Ec v))=YK 32 (fun v:Yv=>ZN v.Name (Ec v)) d.Belts:=KZ _ _ _ _
  have z:(fun v:List UInt8=>UG (v,0))=Yt:=by
   funext v s
   show ZN v 0 s=Yt v s
   unfold ZN
   by_cases h:(Yt v s).1=0
   ·simp only [h,ne_eq,not_true_eq_false,decide_false,aK,if_false];rw [← h]
   ·simp [h]
  have f5:∀l:List (List UInt8),stepD (32,l.map fun v=>(v,0))=YK 32 Yt l:=fun l=>by rw [stepD,KZ,z]
  have f6:stepD (16,d.Routines.map fun v=>(v.Name,YY v))=YK 16 (fun v:Zx=>ZN v.Name (YY v)) d.Routines:=KZ _ _ _ _
  unfold XE QJ
  simp only [cO,List.map_nil,f1,f2,f3,f4,f5,f6]
  rfl
 have ap:∀(l:List (Seen→Int×Seen)) (s:Seen),(Oh (l++[fun s=>(Oa 32 (WQ d) d.Starts,s),fun s=>(OC d,s)]) s).1=if decide ((Oh l s).1≠0)=true then (Oh l s).1 else Ez d (OC d):=by
  intro l
  induction l with
  |nil =>
   intro s
   by_cases h:Oa 32 (WQ d) d.Starts=0<;>by_cases h2:OC d=0<;>simp [Oh,Ez,h,h2]
  |cons f r ih =>
   intro s
   rw [List.cons_append,Oh,Oh]
   by_cases h:(f s).1=0
   ·simp only [h,ne_eq,not_true_eq_false,decide_false,aK,if_false]
    exact ih _
   ·simp [h]
 rw [Oe,e,ap]
 rfl
theorem Zhb (d:Za):∀(k:Nat) (p:Int×List (List UInt8×Int)),(QJ d)[k]? = some p→p.1=if k=9 then 16 else 32
 |0,p,h=>by cases h;rfl
 |1,p,h=>by cases h;rfl
 |2,p,h=>by cases h;rfl
 |3,p,h=>by cases h;rfl
 |4,p,h=>by cases h;rfl
 |5,p,h=>by cases h;rfl
 |6,p,h=>by cases h;rfl
 |7,p,h=>by cases h;rfl
 |8,p,h=>by cases h;rfl
 |9,p,h=>by cases h;rfl
 |k+10,p,h=>by simp [QJ] at h
theorem ZgF:∀(l:List (List UInt8×Int)) (s:Seen),(ZZ UG l s).2.length≤s.length+l.length
 | [],s=>by simp [ZZ]
 |x::r,s=>by
  have ih:=ZgF r (UG x s).2
  have h1:(UG x s).2.length≤s.length+1:=by
   unfold UG ZN
   split
   ·unfold Yt;split<;>(try split)<;>simp
   ·show (Yt x.1 s).2.length≤_
    unfold Yt;split<;>(try split)<;>simp
  rw [ZZ]
  split
  ·simp;omega
  ·simp;omega
def DR (l:IY):List UInt8×List UInt8:=(l.From,l.To)
theorem Zgv (m:ZF)(l:IY)(s:Ze2):ZbQ m l s=if (!(m.Sites.map (·.Name)).contains l.From||!(m.Sites.map (·.Name)).contains l.To)=true then (5,s)
 else if decide (l.From=l.To)=true then (1,s) else if (!(btw l.Delay 1 1000000000))=true then (2,s) else if s.contains (l.From,l.To)=true then (4,s) else (0,s++[(l.From,l.To)]):=rfl
theorem Zas (x v:IY)(w:List IY):((x::w).map DR).contains (DR v)=((decide (x.From=v.From)&&decide (x.To=v.To))||(w.map DR).contains (DR v)):=by
 rw [cO,List.contains_cons]
 congr 1
 rw [← jP]
 by_cases h:x.From=v.From∧x.To=v.To
 ·rw [decide_eq_true h];simp [DR,h.1,h.2]
 ·rw [decide_eq_false h]
  simp only [beq_eq_false_iff_ne,ne_eq,DR,Prod.mk.injEq]
  exact fun ⟨a,b⟩=>h ⟨a.symm,b.symm⟩
theorem ZfW {s:List UInt8}{rest:Int}{seen:Seen}(h:(ZN s rest seen).1=0):(ZN s rest seen).2=seen++[s]∧s∉seen∧rest=0:=by
 rw [Nk] at h
 have w:=Zml h
 refine ⟨by rw [w],?_,?_⟩
 ·intro hm
  have:seen.contains s=true:=by simpa using hm
  simp only [DF,this,Y3,Ya] at h
  by_cases h1:Vk s=0<;>simp [h1] at h
 ·by_cases h1:DF s seen=0
  ·simpa [Y3,h1] using h
  ·simp [Y3,h1] at h
theorem Zjf:∀(l:List (List UInt8×Int)) (s:Seen),(ZZ UG l s).1=0→(ZZ UG l s).2=s++l.map (·.1)∧(∀q∈l.map (·.1),q∉s)∧(l.map (·.1)).Nodup∧∀q∈l,q.2=0
 | [],s,_=>by simp [ZZ]
 |x::r,s,h=>by
  by_cases hz:(UG x s).1=0
  ·obtain ⟨w1,w2,w3⟩:=ZfW (s := x.1) (rest := x.2) (seen := s) hz
   have e:ZZ UG (x::r) s=ZZ UG r (s++[x.1]):=by
    have:(UG x s).2=s++[x.1]:=w1
    simp [ZZ,hz,this]
   rw [e] at h ⊢
   obtain ⟨i1,i2,i3,i4⟩:=Zjf r _ h
   refine ⟨by rw [i1];simp,?_,?_,?_⟩
   ·intro q hq
    rw [cO] at hq
    rcases gZ.1 hq with rfl|hq
    ·exact w2
    ·exact fun hm=>i2 q hq (by simp [hm])
   ·rw [cO,jT]
    exact ⟨fun hm=>i2 x.1 hm (by simp),i3⟩
   ·intro q hq
    rcases gZ.1 hq with rfl|hq
    ·exact w3
    ·exact i4 q hq
  ·have e:ZZ UG (x::r) s=UG x s:=by simp [ZZ,hz]
   rw [e] at h;exact absurd h hz
def Ef (p:Int×List (List UInt8×Int)):List (List UInt8):=p.2.map (·.1)
theorem ZkS:∀(ds:List (Int×List (List UInt8×Int))) (s:Seen),(Oh (ds.map stepD) s).1=0→ds.Pairwise (fun a b=>∀x∈Ef a,x∉Ef b)∧(∀p∈ds,(Ef p).Nodup∧(∀x∈Ef p,x∉s)∧∀q∈p.2,q.2=0)
 | [],s,_=>⟨List.Pairwise.nil,fun p h=>by cases h⟩
 |p::r,s,h=>by
  by_cases hz:(stepD p s).1=0
  ·have e:Oh ((p::r).map stepD) s=Oh (r.map stepD) (stepD p s).2:=by simp [Oh,hz]
   rw [e] at h
   have hl:¬p.1<(p.2.length:Int):=fun hl=>by simp [stepD,YK,hl] at hz
   have e2:stepD p s=ZZ UG p.2 s:=by simp [stepD,YK,hl]
   rw [e2] at hz h
   obtain ⟨w1,w2,w3,w4⟩:=Zjf p.2 s hz
   rw [w1] at h
   obtain ⟨i1,i2⟩:=ZkS r _ h
   refine ⟨List.Pairwise.cons (fun b hb x hx hm=>(i2 b hb).2.1 x hm (by simp [Ef] at hx ⊢;exact .inr hx)) i1,fun a ha=>?_⟩
   rcases gZ.1 ha with rfl|ha
   ·exact ⟨w3,w2,w4⟩
   ·exact ⟨(i2 a ha).1,fun x hx hm=>(i2 a ha).2.1 x hx (by simp [hm]),(i2 a ha).2.2⟩
  ·have e:Oh ((p::r).map stepD) s=stepD p s:=by simp [Oh,hz]
   rw [e] at h;exact absurd h hz
def Gf (nm:List UInt8):List (List UInt8×List (List UInt8))→List UInt8
 | []=>[]
 |(w,ns)::r=>if ns.contains nm=true then w else Gf nm r
theorem Zba (nm:List UInt8):∀l:List (List UInt8×List (List UInt8)),Gf nm l=[]∨Gf nm l∈l.map (·.1)
 | []=>.inl rfl
 |(w,ns)::r=>by
  rw [Gf]
  split
  ·right;simp
  ·rcases Zba nm r with h|h
   ·exact .inl h
   ·right;rw [cO];exact List.mem_cons_of_mem _ h
theorem ZaZ (nm:List UInt8):∀l:List (List UInt8×List (List UInt8)),l.Pairwise (fun a b=>∀x∈a.2,x∉b.2)→(l.map (·.1)).Nodup→[]∉l.map (·.1)→∀p∈l,(Gf nm l=p.1↔nm∈p.2)
 | [],_,_,_,p,h=>by cases h
 |(w,ns)::r,hp,hn,he,p,h=>by
  rw [List.pairwise_cons] at hp
  rw [cO,jT] at hn
  rw [cO,gZ,not_or] at he
  rw [Gf]
  by_cases hc:nm∈ns
  ·rw [if_pos (by simpa using hc)]
   rcases gZ.1 h with rfl|h
   ·simp [hc]
   ·refine ⟨fun e=>absurd (List.mem_map_of_mem (f := (·.1)) h) (by show p.1∉_;rw [← e];exact hn.1),fun hm=>absurd hm (hp.1 p h nm hc)⟩
  ·rw [if_neg (by simpa using hc)]
   rcases gZ.1 h with rfl|h
   ·refine ⟨fun e=>?_,fun hm=>absurd hm hc⟩
    rcases Zba nm r with h1|h1
    ·rw [h1] at e;exact absurd e he.1
    ·rw [e] at h1;exact absurd h1 hn.1
   ·exact ZaZ nm r hp.2 hn.2 he.2 p h
def X9 (d:Za):List (List UInt8×List (List UInt8)):=[([118,97,114],d.Vars.map (·.Name)),([114,101,115,111,117,114,99,101],d.Resources.map (·.Name)),([115,116,111,114,101],d.Stores.map (·.Name)),([98,101,108,116],d.Belts.map (·.Name)),([113,117,101,117,101],d.Queues),([115,116,114,101,97,109],d.Streams),([116,97,108,108,121],d.Tallies),([108,101,118,101,108],d.Levels),([99,111,117,110,116],d.Counts),([114,111,117,116,105,110,101],d.Routines.map (·.Name))]
theorem Zgt (d:Za):(X9 d).map (·.2)=(QJ d).map Ef:=by
 simp [X9,QJ,Ef,Function.comp_def]
end Go.Proofs.YtbcfddaocfpckaaGreatDoor
end
