import Derived.Test.YtleomfgijkapfaaGreatDoorS3b
set_option linter.all false
section
namespace Go.Proofs.YtleomfgijkapfaaGreatDoor
open Go Go.Proofs.YtleomfgijkapfaaGreatDoor.Abs
set_option maxRecDepth 100000
def Zt8 (n:Int):Bool:=decide (97≤n) && decide (n≤122)
def Zg0 (n:Int):Bool:=Zt8 n || decide (n=95) || (decide (48≤n) && decide (n≤57))
def kws:List (List UInt8):=[[97,100,100],[97,102,116,101,114],[97,110,100],[97,116],[98,101,108,116],[98,111,111,108],[99,111,110,115,101,114,118,101],[99,111,110,115,116],[99,111,117,110,116],[99,121,99,108,101],[100,111,119,110],[100,114,97,119],[100,117,114],[101,108,115,101],[101,110,100],[101,118,101,114,121],[102,97,108,115,101],[102,97,117,108,116],[102,105,102,111],[102,114,101,101],[102,114,111,109],[103,101,111,109],[103,101,116],[104,111,108,100],[105,102],[105,110,116],[105,110,116,111],[108,101,97,115,116],[108,101,118,101,108],[108,105,102,111],[108,105,110,107],[108,111,99,97,108],[109,97,120],[109,105,110],[109,111,100,101,108],[110,111,116],[110,111,119],[111,98,115,101,114,118,101],[111,114],[112,97,114,97,109],[112,114,101,101,109,112,116],[112,114,105,111],[112,117,116],[113,117,101,117,101],[114,101,108,101,97,115,101],[114,101,115,111,117,114,99,101],[114,105,100,101],[114,111,117,116,105,110,101],[115,101,105,122,101],[115,101,110,100],[115,101,116],[115,104,105,102,116],[115,105,103,110,97,108],[115,105,116,101],[115,105,122,101],[115,112,97,119,110],[115,116,97,114,116],[115,116,111,112],[115,116,111,114,101],[115,116,114,101,97,109],[115,117,109],[116,97,98,108,101],[116,97,108,108,121],[116,105,99,107,115],[116,105,109,101],[116,114,117,101],[117,110,105,102,111,114,109],[117,110,116,105,108],[117,112],[118,97,114],[119,97,105,116],[119,97,105,116,105,110,103],[119,104,105,108,101]]
def kwB (s:List UInt8):Bool:=kws.any fun k=>decide (s=k)
def J5 (s:List UInt8):Int :=
 match s with
 | []=>3
 | c :: r=>if 24 < (c :: r).length∨Zt8 c.toNat=false∨kwB (c :: r)=true then 3 else if (c :: r).all (fun x=>Zg0 x.toNat) then 0 else 3
def inB (n:Int):Bool:=decide (-1000000000000≤n) && decide (n≤1000000000000)
theorem ZiI (s:List UInt8):J5 s=0∨J5 s=3:=by
 unfold J5
 split
 ·exact .inr rfl
 ·split
  ·exact .inr rfl
  ·split
   ·exact .inl rfl
   ·exact .inr rfl
def We {α σ:Type}(step:α→σ→Int×σ):List α→σ→Int×σ
 | [],s=>(0,s)
 | x :: r,s=>if decide ((step x s).1≠0)=true then step x s else We step r (step x s).2
def P6 {σ:Type}:List (σ→Int×σ)→σ→Int×σ
 | [],s=>(0,s)
 | f :: r,s=>if decide ((f s).1≠0)=true then f s else P6 r (f s).2
theorem Zz0 {n:Int}(h1:-9223372036854775808≤n)(h2:n≤9223372036854775807):IntKind.i64.wrap n=n:=i64_in h1 h2
def Ziu (a b:YP):Bool:=decide (a.Op=b.Op) && decide (a.A=b.A) && decide (a.B=b.B) && decide (a.N=b.N) && decide (a.Values=b.Values) && decide (a.Weights=b.Weights)
theorem Zp0 (a b:YP):Ziu a b=decide (a=b):=by
 obtain ⟨a1,a2,a3,a4,a5,a6⟩:=a
 obtain ⟨b1,b2,b3,b4,b5,b6⟩:=b
 simp only [Ziu,YP.mk.injEq,Bool.decide_and,Bool.and_assoc]
def btw (x lo hi:Int):Bool:=decide (lo≤x) && decide (x≤hi)
def E8 (d:YP):Bool :=
 if decide (d.Op=1)=true then decide ((d.Values.length:Int) + d.Weights.length=0) && decide (d.B=0) && decide (d.N=0)
 else if decide (d.Op=2)=true then decide ((d.Values.length:Int) + d.Weights.length=0) && decide (d.N=0)
 else if decide (d.Op=5)=true then decide ((d.Values.length:Int) + d.Weights.length=0) && decide (d.N=0)
 else if decide (d.Op=4)=true then decide ((d.Values.length:Int) + d.Weights.length=0)
 else if decide (d.Op=3)=true then decide (d.A=0) && decide (d.B=0) && decide (d.N=0)
 else false
theorem Jq.v {d:YP}(h:Jq d):d.Values.length≤4611686018427387:=by have:=h.Values.1; omega
theorem Jq.w {d:YP}(h:Jq d):d.Weights.length≤4611686018427387:=by have:=h.Weights.1; omega
theorem Jq.wr {d:YP}(h:Jq d):IntKind.i64.wrap ((d.Values.length:Int) + (d.Weights.length:Int))=(d.Values.length:Int) + (d.Weights.length:Int):=by
 have:=h.v; have:=h.w; exact Zz0 (by omega) (by omega)
def Ze5 (d:YP):Bool :=
 if decide (d.Op=1)=true then decide (d.B=0) && decide (d.N=0) && (decide ((d.Values.length:Int)=0) && decide ((d.Weights.length:Int)=0))
 else if decide (d.Op=2)=true then decide (d.N=0) && (decide ((d.Values.length:Int)=0) && decide ((d.Weights.length:Int)=0))
 else if decide (d.Op=5)=true then decide (d.N=0) && (decide ((d.Values.length:Int)=0) && decide ((d.Weights.length:Int)=0))
 else if decide (d.Op=3)=true then decide (d.A=0) && decide (d.B=0) && decide (d.N=0)
 else if decide (d.Op=4)=true then (decide ((d.Values.length:Int)=0) && decide ((d.Weights.length:Int)=0))
 else false
def ZtI (lo hi:Int)(x:Int):Bool:=decide (x < lo) || decide (hi < x)
def Iw {α:Type}(f:α→Bool):List α→Int→Int
 | [],_=>-1
 | x :: r,i=>if f x=true then i else Iw f r (i + 1)
theorem CG {α:Type}(f:α→Bool):∀ (l:List α) (i:Int),0≤i→decide (0≤Iw f l i)=l.any f
 | [],i,h=>by simp [Iw]
 | x :: r,i,h=>by
  have ih:=CG f r (i + 1) (by omega)
  cases hx:f x <;> simp [Iw,hx,h]
  simpa using ih
def Qx (lo hi:Int)(l:List Int):Bool:=!(l.any (ZtI lo hi))
def RZ (d:YP):Int :=
 if (!(E8 d))=true then 1
 else if decide (d.Op=1)=true then (if (!(Qx 0 1000000000 [d.A]))=true then 2 else 0)
 else if decide (d.Op=2)=true then (if (!(Qx 0 1000000000 [d.A,d.B] && decide (d.A≤d.B)))=true then 2 else 0)
 else if decide (d.Op=4)=true then (if (!(Qx 1 20 [d.N] && Qx 0 1000000 [d.A,d.B] && decide (d.A≤d.B)))=true then 2 else 0)
 else if decide (d.Op=5)=true then (if (!(Qx 1 1000 [d.A,d.B]))=true then 2 else 0)
 else if decide (d.Op=3)=true then
  (if decide ((d.Values.length:Int)≠(d.Weights.length:Int))=true then 8 else if decide ((d.Values.length:Int)=0)=true then 7 else if decide (20 < (d.Values.length:Int))=true then 6
   else if (!(Qx 0 1000000000 d.Values && Qx 1 1000 d.Weights))=true then 2 else 0)
 else 2
def ZtZ:List Int→List Int→Int
 | x :: r,y :: s=>if (!(btw x 0 1000000000) || !(btw y 1 1000))=true then 2 else ZtZ r s
 | _,_=>0
def Znq (d:YP):Int :=
 if decide ((d.Values.length:Int)≠(d.Weights.length:Int))=true then 8 else if decide ((d.Values.length:Int)=0)=true then 7 else if decide (20 < (d.Values.length:Int))=true then 6 else ZtZ d.Values d.Weights
def ZrP (d:YP):Int :=
 if (!(Ze5 d))=true then 1
 else if decide (d.Op=1)=true then (if (!(btw d.A 0 1000000000))=true then 2 else 0)
 else if decide (d.Op=2)=true then (if (!(btw d.A 0 d.B && decide (d.B≤1000000000)))=true then 2 else 0)
 else if decide (d.Op=3)=true then Znq d
 else if decide (d.Op=4)=true then (if (!(btw d.N 1 20 && btw d.A 0 d.B && decide (d.B≤1000000)))=true then 2 else 0)
 else if decide (d.Op=5)=true then (if (!(btw d.A 1 1000 && btw d.B 1 1000))=true then 2 else 0)
 else 0
def Zqm (op:Int):Bool:=decide (22≤op) && decide (op≤24)
def ZiC (op:Int):Int :=
 if (decide (op=1) || decide (op=2) || decide (op=3) || decide (op=4))=true then 0
 else if (decide (5≤op) && decide (op≤8))=true then 1
 else if (decide (9≤op) && decide (op≤21))=true then 2
 else if (decide (22≤op) && decide (op≤26))=true then 0 else -1
def Zdt (code:Bool)(op:Int):Bool :=
 if decide (op=3)=true then !code else if decide (op=25)=true then code else if decide (op=26)=true then code else decide (0≤ZiC op)
def ZfQ (code:Bool)(op:Int):Bool:=decide (op=3) || (Zqm op && !code)
def Zrt (code:Bool)(op:Int):Int×Int×Bool :=
 if decide (op=2)=true then (0,1,true) else if decide (op=25)=true then (0,15,true) else if decide (op=26)=true then (0,31,true) else if (Zqm op && code)=true then (0,63,true) else (0,0,false)
def Zb7 (code:Bool)(e:Zt):Int :=
 if (!(Zdt code e.Op) || decide ((e.Kids.length:Int)≠ZiC e.Op) || (decide (e.Name≠[]) && !(ZfQ code e.Op)))=true then 1
 else if decide (e.Op=1)=true then (if (!(inB e.N))=true then 2 else 0)
 else if (!(Zrt code e.Op).2.2 && decide (e.N≠0))=true then 1
 else if ((Zrt code e.Op).2.2 && (decide (e.N < (Zrt code e.Op).1) || decide ((Zrt code e.Op).2.1 < e.N)))=true then 2
 else if ZfQ code e.Op=true then J5 e.Name else 0
theorem Aq {x e:Zt}(h:x ∈ e.Kids):SizeOf.sizeOf x < SizeOf.sizeOf e:=by
 cases e
 have:=List.sizeOf_lt_of_mem h
 simp at *
 omega
theorem NH (e:Zt):0 < SizeOf.sizeOf e:=by cases e; simp; omega
theorem Yk.k {e:Zt}(h:Yk e):e.Kids.length≤4611686018427387:=by have:=h.Kids.1; omega
theorem Yk.n {e:Zt}(h:Yk e):e.Name.length≤140737488351232:=h.Name
mutual
def Uu (code:Bool):Zt→Int
 | ⟨o,a,n,ks⟩=>if decide (Zb7 code ⟨o,a,n,ks⟩≠0)=true then Zb7 code ⟨o,a,n,ks⟩ else Zdz code ks
def Zdz (code:Bool):List Zt→Int
 | []=>0
 | x :: r=>if decide (Uu code x≠0)=true then Uu code x else Zdz code r
end
theorem ZfR (code:Bool):∀ l:List Zt,Zdz code l=Y2 (Uu code) l
 | []=>by rw [Zdz]; rfl
 | x :: r=>by rw [Zdz,ZfR code r]; rfl
theorem Zdy (code:Bool)(e:Zt):Uu code e=if decide (Zb7 code e≠0)=true then Zb7 code e else Y2 (Uu code) e.Kids:=by
 cases e; rw [Uu,ZfR]
mutual
def Zpt:Zt→Int
 | ⟨_,_,_,ks⟩=>Zpv ks 1
def Zpv:List Zt→Int→Int
 | [],n=>n
 | x :: r,n=>Zpv r (IntKind.i64.wrap (n + Zpt x))
end
theorem Zmp:∀ (l:List Zt) (n:Int),Zpv l n=sumW Zpt l n
 | [],n=>by rw [Zpv]; rfl
 | x :: r,n=>by rw [Zpv,Zmp r]; rfl
theorem Zpu (e:Zt):Zpt e=sumW Zpt e.Kids 1:=by cases e; rw [Zpt,Zmp]
mutual
def ZoG:Zt→Int
 | ⟨_,_,_,ks⟩=>IntKind.i64.wrap (Zpz ks 0 + 1)
def Zpz:List Zt→Int→Int
 | [],n=>n
 | x :: r,n=>Zpz r (if ZoG x > n then ZoG x else n)
end
theorem Zms:∀ (l:List Zt) (n:Int),Zpz l n=Zst ZoG l n
 | [],n=>by rw [Zpz]; rfl
 | x :: r,n=>by rw [Zpz,Zms r]; rfl
theorem Zpy (e:Zt):ZoG e=IntKind.i64.wrap (Zst ZoG e.Kids 0 + 1):=by cases e; rw [ZoG,Zms]
def Zi9 (a b:Zt):Bool:=decide (a.Op≠b.Op) || decide (a.Name≠b.Name) || decide (a.N≠b.N)
mutual
def Ba:Zt→Zt→Bool
 | ⟨o,a,n,ks⟩,e=>if (Zi9 ⟨o,a,n,ks⟩ e || decide ((ks.length:Int)≠(e.Kids.length:Int)))=true then false else NF ks e.Kids
def NF:List Zt→List Zt→Bool
 | x :: r,y :: s=>if (!(Ba x y))=true then false else NF r s
 | _,_=>true
end
theorem ZjI:∀ l m:List Zt,NF l m=all2 Ba l m
 | [],[]=>by rw [NF] <;> simp [all2]
 | [],y :: s=>by rw [NF] <;> simp [all2]
 | x :: r,[]=>by rw [NF] <;> simp [all2]
 | x :: r,y :: s=>by rw [NF,ZjI r s]; rfl
theorem Zch (a b:Zt):Ba a b=if (Zi9 a b || decide ((a.Kids.length:Int)≠(b.Kids.length:Int)))=true then false else all2 Ba a.Kids b.Kids:=by
 cases a; rw [Ba,ZjI]
def ZcO (op:Int):Int :=
 if (decide (op < 1) || decide (26 < op))=true then -1 else if (decide (5≤op) && decide (op≤8))=true then 1 else if (decide (9≤op) && decide (op≤21))=true then 2 else 0
def Zsx (op:Int):Int:=if decide (op=25)=true then 15 else if decide (op=26)=true then 31 else 63
def ZnL (code:Bool)(e:Zt):Int :=
 if (!(decide (0≤ZcO e.Op) && ((code && decide (e.Op≠3)) || (!code && decide (e.Op≤24)))) || (!(!code && (decide (e.Op=3) || Zqm e.Op)) && decide (e.Name≠[])) || (!(decide (e.Op=1) || decide (e.Op=2) || (code && (Zqm e.Op || decide (e.Op=25) || decide (e.Op=26)))) && decide (e.N≠0)) || decide ((e.Kids.length:Int)≠ZcO e.Op))=true then 1
 else if ((decide (e.Op=1) && !(inB e.N)) || ((decide (e.Op=2) && decide (e.N≠0)) && decide (e.N≠1)) || ((code && (Zqm e.Op || decide (e.Op=25) || decide (e.Op=26))) && (decide (e.N < 0) || decide (Zsx e.Op < e.N))))=true then 2
 else if ((!code && (decide (e.Op=3) || Zqm e.Op)) && decide (J5 e.Name≠0))=true then J5 e.Name else 0
theorem ZzO (op:Int):1≤op∧op≤26→op=1∨op=2∨op=3∨op=4∨op=5∨op=6∨op=7∨op=8∨op=9∨op=10∨op=11∨op=12∨op=13∨op=14∨op=15∨op=16∨op=17∨op=18∨op=19∨op=20∨op=21∨op=22∨op=23∨op=24∨op=25∨op=26:=by omega
theorem Zsd (code:Bool)(e:Zt):ZnL code e=Zb7 code e:=by
 obtain ⟨op,nm,n,ks⟩:=e
 by_cases h:1≤op∧op≤26
 ·rcases ZzO op h with rfl | rfl | rfl | rfl | rfl | rfl | rfl | rfl | rfl | rfl | rfl | rfl | rfl | rfl | rfl | rfl | rfl | rfl | rfl | rfl | rfl | rfl | rfl | rfl | rfl | rfl <;> cases code <;> simp [ZnL,Zb7,ZcO,Zsx,Zqm,ZiC,Zdt,ZfQ,Zrt] <;> grind
 ·have h1:ZcO op=-1:=by simp only [ZcO]; rw [if_pos]; simp; omega
  have h2:ZiC op=-1:=by
   simp only [ZiC]
   rw [if_neg (by simp; omega),if_neg (by simp; omega),if_neg (by simp; omega),if_neg (by simp; omega)]
  have h3:Zdt code op=false:=by
   simp only [Zdt,h2]
   rw [if_neg (by simp; omega),if_neg (by simp; omega),if_neg (by simp; omega)]; rfl
  simp [ZnL,Zb7,h1,h2,h3]
theorem Zql (code:Bool)(e:Zt):(if decide (ZnL code e≠0)=true then ZnL code e else Y2 (Uu code) e.Kids)=Uu code e:=by rw [Zsd,← Zdy]
def QI (code:Bool)(e:Zt):Int:=if decide (60 < Zpt e)=true then 6 else if decide (12 < ZoG e)=true then 11 else Uu code e
def RS (op:Int):Ie×Bool:=if decide (op=1)=true then (⟨true,false,true,false,false,false,false,false,false⟩,true) else if decide (op=7)=true then (⟨true,false,true,false,false,false,false,false,false⟩,true) else if decide (op=8)=true then (⟨true,false,true,false,false,false,false,false,false⟩,true) else if decide (op=12)=true then (⟨true,false,true,false,false,false,false,false,false⟩,true) else if decide (op=15)=true then (⟨true,false,true,false,false,false,false,false,false⟩,true) else if decide (op=16)=true then (⟨true,false,true,false,false,false,false,false,false⟩,true) else if decide (op=17)=true then (⟨true,false,true,false,false,false,false,false,false⟩,true) else if decide (op=2)=true then (⟨true,true,false,false,false,true,false,false,false⟩,true) else if decide (op=3)=true then (⟨false,false,true,false,false,false,false,true,true⟩,true) else if decide (op=4)=true then (⟨false,false,true,false,false,false,false,true,false⟩,true) else if decide (op=5)=true then (⟨false,false,true,false,false,false,false,false,false⟩,true) else if decide (op=6)=true then (⟨true,false,true,true,false,false,true,false,false⟩,true) else if decide (op=9)=true then (⟨true,true,false,false,false,false,false,false,false⟩,true) else if decide (op=10)=true then (⟨true,false,false,false,false,false,false,false,false⟩,true) else if decide (op=11)=true then (⟨true,false,false,false,false,false,false,false,false⟩,true) else if decide (op=13)=true then (⟨true,true,true,false,true,false,false,false,false⟩,true) else if decide (op=14)=true then (⟨true,false,true,false,true,false,false,false,false⟩,true) else if decide (op=18)=true then (⟨false,false,false,false,false,false,false,false,false⟩,true) else (⟨false,false,false,false,false,false,false,false,false⟩,false)
def FU (e:Zt):Bool:=decide (e.Op=0) && decide (e.Name=[]) && decide (e.N=0) && decide ((e.Kids.length:Int)=0)
def NQ (d:YP):Bool:=decide (d.Op=0) && decide (d.A=0) && decide (d.B=0) && decide (d.N=0) && decide (d.Values=[]) && decide (d.Weights=[])
def Zkr (s:Zy)(u:Ie):Bool :=
 (u.name || decide (s.Name=[])) && (u.of || decide (s.Of=[])) && (u.e || FU s.E) && (u.f || FU s.F) && (u.args || decide ((s.Args.length:Int)=0)) && (u.dist || NQ s.Dist) && (u.flag || !s.Flag) && (u.body || decide ((s.Body.length:Int)=0)) && (u.other || decide ((s.Else.length:Int)=0))
def Zp7 (s:Zy):Bool :=
 (RS s.Op).2 && ((((RS s.Op).1.name || decide (s.Name=[])) && ((RS s.Op).1.of || decide (s.Of=[])))) && (((RS s.Op).1.e || FU s.E) && ((RS s.Op).1.f || FU s.F) && ((RS s.Op).1.args || decide ((s.Args.length:Int)=0))) && (((RS s.Op).1.body || decide ((s.Body.length:Int)=0)) && ((RS s.Op).1.other || decide ((s.Else.length:Int)=0))) && ((RS s.Op).1.dist || NQ s.Dist) && ((RS s.Op).1.flag || !s.Flag)
theorem ZrW (s:Zy):Zp7 s=((RS s.Op).2 && Zkr s (RS s.Op).1):=by
 simp only [Zp7,Zkr]
 generalize (RS s.Op).1=u
 generalize (RS s.Op).2=b
 ac_rfl
def ZeH (s:Zy)(u:Ie):List Zt→Int
 | []=>if u.dist=true then RZ s.Dist else 0
 | x :: r=>if decide (QI false x≠0)=true then QI false x else ZeH s u r
def ZmV (s:Zy)(u:Ie):Int:=if decide (6 < (s.Args.length:Int))=true then 6 else ZeH s u s.Args
def ZmX (s:Zy)(u:Ie):Int:=if (!u.f)=true then ZmV s u else if decide (QI false s.F≠0)=true then QI false s.F else ZmV s u
def ZmW (s:Zy)(u:Ie):Int:=if (!u.e)=true then ZmX s u else if decide (QI false s.E≠0)=true then QI false s.E else ZmX s u
def ZiV (s:Zy)(u:Ie):Int :=
 if (u.name && decide (J5 s.Name≠0))=true then J5 s.Name else if (u.of && decide (J5 s.Of≠0))=true then J5 s.Of else ZmW s u
theorem YB.a {s:Zy}(h:YB s):s.Args.length≤4611686018427387:=by have:=h.Args.1; omega
theorem w01:IntKind.i64.wrap (0 + 1)=1∧IntKind.i64.wrap (1 + 1)=2∧decide ((0:Int) < 2)=true∧decide ((1:Int) < 2)=true∧decide ((2:Int) < 2)=false∧(∀ (α:Type) (a b:α),(([a,b].length:Nat):Int)=2):=⟨by decide,by decide,by decide,by decide,by decide,fun _ _ _=>rfl⟩
theorem Zrz (s:Zy):SizeOf.sizeOf s.E < SizeOf.sizeOf s∧SizeOf.sizeOf s.F < SizeOf.sizeOf s∧SizeOf.sizeOf s.Args < SizeOf.sizeOf s∧SizeOf.sizeOf s.Body < SizeOf.sizeOf s∧SizeOf.sizeOf s.Else < SizeOf.sizeOf s:=by
 cases s; simp; omega
theorem Zzv {s:Zy}{x:Zt}(h:x ∈ s.Args):SizeOf.sizeOf x < SizeOf.sizeOf s:=by
 have:=List.sizeOf_lt_of_mem h
 have:=(Zrz s).2.2.1
 omega
def Ci (s:Zy):List Zt→Int→Int
 | [],e=>e
 | x :: r,e=>if decide (e=0)=true then Ci s r (QI false x) else e
def Zdh (s:Zy)(u:Ie):Int :=
 Ci s s.Args (if (decide ((if (decide ((if u.e=true then QI false s.E else 0)=0) && u.f)=true then QI false s.F else (if u.e=true then QI false s.E else 0))=0) && decide (6 < (s.Args.length:Int)))=true then 6
  else (if (decide ((if u.e=true then QI false s.E else 0)=0) && u.f)=true then QI false s.F else (if u.e=true then QI false s.E else 0)))
def Zzj (s:Zy):Int :=
 if (!(Zp7 s))=true then 1
 else if (((RS s.Op).1.name && decide (J5 s.Name≠0)) || ((RS s.Op).1.of && decide (J5 s.Of≠0)))=true then 3
 else if (decide (Zdh s (RS s.Op).1=0) && (RS s.Op).1.dist)=true then ZrP s.Dist else Zdh s (RS s.Op).1
theorem Zgq (s:Zy)(l:List Zt)(e:Int)(h:e≠0):Ci s l e=e:=by
 cases l <;> simp [Ci,h]
theorem Zf7 (s:Zy)(u:Ie):∀ l:List Zt,(if (decide (Ci s l 0=0) && u.dist)=true then RZ s.Dist else Ci s l 0)=ZeH s u l
 | []=>by simp [Ci,ZeH]
 | x :: r=>by
  by_cases h:QI false x=0
  ·simp only [Ci,ZeH,h,decide_true,if_true,ne_eq,not_true_eq_false,decide_false,Bool.false_eq_true,if_false]
   exact Zf7 s u r
  ·simp [Ci,ZeH,h,Zgq]
def ZnU (s:Zy):Int:=if (!(RS s.Op).2 || !(Zkr s (RS s.Op).1))=true then 1 else ZiV s (RS s.Op).1
theorem Zwe (lo hi a:Int):Qx lo hi [a]=btw a lo hi:=by
 simp only [Qx,List.any_cons,List.any_nil,ZtI,btw,Bool.or_false,Bool.not_or,← decide_not,Int.not_lt]
theorem Zwf (lo hi a b:Int):Qx lo hi [a,b]=(btw a lo hi && btw b lo hi):=by
 simp only [Qx,List.any_cons,List.any_nil,ZtI,btw,Bool.or_false,Bool.not_or,← decide_not,Int.not_lt]
theorem Zwg (lo hi a:Int)(l:List Int):Qx lo hi (a :: l)=(btw a lo hi && Qx lo hi l):=by
 simp only [Qx,List.any_cons,ZtI,btw,Bool.not_or,← decide_not,Int.not_lt]
theorem Zua:∀ (l m:List Int),l.length=m.length→ZtZ l m=if (!(Qx 0 1000000000 l && Qx 1 1000 m))=true then 2 else 0
 | [],[],_=>by simp [ZtZ,Qx]
 | [],y :: m,h=>by simp at h
 | x :: l,[],h=>by simp at h
 | x :: l,y :: m,h=>by
  have ih:=Zua l m (by simpa using h)
  simp only [ZtZ,Zwg,ih]
  generalize Qx 0 1000000000 l=c1
  generalize Qx 1 1000 m=c2
  cases btw x 0 1000000000 <;> cases btw y 1 1000 <;> cases c1 <;> cases c2 <;> rfl
theorem ZyW (a b:Nat):decide ((a:Int) + (b:Int)=0)=(decide ((a:Int)=0) && decide ((b:Int)=0)):=by
 rw [← Bool.decide_and]; congr 1; apply propext; omega
theorem Zrm (d:YP):Ze5 d=E8 d:=by
 simp only [Ze5,E8,ZyW]
 by_cases h1:d.Op=1
 ·simp [h1]; ac_rfl
 by_cases h2:d.Op=2
 ·simp [h2,Bool.and_comm]
 by_cases h5:d.Op=5
 ·simp [h5,Bool.and_comm]
 by_cases h3:d.Op=3
 ·simp [h3]
 by_cases h4:d.Op=4
 ·simp [h4]
 simp [h1,h2,h3,h4,h5]
theorem Zg3 (d:YP):ZrP d=RZ d:=by
 simp only [ZrP,RZ,Zrm,Zwe,Zwf,Znq]
 by_cases hu:E8 d=true
 ·simp only [hu]
  by_cases h1:d.Op=1
  ·simp [h1]
  by_cases h2:d.Op=2
  ·simp only [h2,btw]; simp; grind
  by_cases h3:d.Op=3
  ·simp only [h3]
   by_cases hl:d.Values.length=d.Weights.length
   ·rw [Zua _ _ hl]; simp
   ·have:¬ ((d.Values.length:Int)=d.Weights.length):=by omega
    simp [this]
  by_cases h4:d.Op=4
  ·simp only [h4,btw]; simp; grind
  by_cases h5:d.Op=5
  ·simp [h5]
  ·exfalso
   simp [E8,h1,h2,h3,h4,h5] at hu
 ·simp [hu]
theorem Zvq (s:Zy):Zzj s=ZnU s:=by
 have n1:=ZiI s.Name
 have n2:=ZiI s.Of
 unfold Zzj ZnU ZiV
 rw [ZrW,Zg3]
 generalize RS s.Op=w
 obtain ⟨u,b⟩:=w
 simp only
 have key:(if (decide (Zdh s u=0) && u.dist)=true then RZ s.Dist else Zdh s u)=ZmW s u:=by
  have ha:=Zf7 s u s.Args
  unfold Zdh ZmW ZmX ZmV
  rcases Bool.eq_false_or_eq_true u.e with h1 | h1 <;> rcases Bool.eq_false_or_eq_true u.f with h3 | h3 <;> rcases Bool.eq_false_or_eq_true (decide (6 < (s.Args.length:Int))) with h5 | h5 <;> by_cases h2:QI false s.E=0 <;> by_cases h4:QI false s.F=0 <;>
   simp only [h1,h2,h3,h4,h5,ne_eq,not_true_eq_false,not_false_eq_true,decide_true,decide_false,BL,IFJ,Zgq,Bool.false_eq_true,if_true,if_false] <;> first | exact ha | (simp [Zgq,h2,h4]; done) | rfl
 rw [key]
 rcases n1 with h1 | h1 <;> rcases n2 with h2 | h2 <;> cases b <;> cases Zkr s u <;> cases u.name <;> cases u.of <;> simp [h1,h2]
mutual
def Ztz:Zy→Int
 | ⟨_,_,_,_,_,_,_,_,b,e⟩=>IntKind.i64.wrap (Tt b (b.length:Int) + Tt e (e.length:Int))
def Tt:List Zy→Int→Int
 | [],n=>n
 | x :: r,n=>Tt r (IntKind.i64.wrap (n + Ztz x))
end
theorem Zut (s:Zy):Ztz s=IntKind.i64.wrap (Tt s.Body (s.Body.length:Int) + Tt s.Else (s.Else.length:Int)):=by cases s; rw [Ztz]
mutual
def Zwj:Zy→Int→Int
 | ⟨_,_,_,_,_,_,_,_,b,e⟩,n=>IntKind.i64.wrap (IntKind.i64.wrap (IntKind.i64.wrap (n + 1) + Io b 0) + Io e 0)
def Io:List Zy→Int→Int
 | [],n=>n
 | x :: r,n=>Io r (Zwj x n)
end
theorem Zps (s:Zy)(n:Int):Zwj s n=IntKind.i64.wrap (IntKind.i64.wrap (IntKind.i64.wrap (n + 1) + Io s.Body 0) + Io s.Else 0):=by cases s; rw [Zwj]
def mx3 (a b c:Int):Int:=if c > (if b > a then b else a) then c else (if b > a then b else a)
mutual
def Zy4:Zy→Int→Int
 | ⟨_,_,_,_,_,_,_,_,b,e⟩,n=>mx3 n (IntKind.i64.wrap (1 + Sr b 0)) (IntKind.i64.wrap (1 + Sr e 0))
def Sr:List Zy→Int→Int
 | [],n=>n
 | x :: r,n=>Sr r (Zy4 x n)
end
theorem Zpx (s:Zy)(n:Int):Zy4 s n=mx3 n (IntKind.i64.wrap (1 + Sr s.Body 0)) (IntKind.i64.wrap (1 + Sr s.Else 0)):=by cases s; rw [Zy4]
mutual
def Zyf:Zy→Int
 | ⟨a,b,c,d,e,f,g,h,i,j⟩=>if decide (ZnU ⟨a,b,c,d,e,f,g,h,i,j⟩≠0)=true then ZnU ⟨a,b,c,d,e,f,g,h,i,j⟩ else if decide (VJ i≠0)=true then VJ i else VJ j
def VJ:List Zy→Int
 | []=>0
 | x :: r=>if decide (Zyf x≠0)=true then Zyf x else VJ r
end
theorem Zpr (s:Zy):Zyf s=if decide (ZnU s≠0)=true then ZnU s else if decide (VJ s.Body≠0)=true then VJ s.Body else VJ s.Else:=by cases s; rw [Zyf]
theorem Zuq (b:Bool)(p B E R:Int):(if b=true then 1 else if decide (p≠0)=true then p else if decide (B≠0)=true then B else if decide (E≠0)=true then E else R) =
  if decide ((if decide ((if b=true then 1 else p)≠0)=true then (if b=true then 1 else p) else if decide (B≠0)=true then B else E)≠0)=true then (if decide ((if b=true then 1 else p)≠0)=true then (if b=true then 1 else p) else if decide (B≠0)=true then B else E) else R:=by
 cases b <;> by_cases h1:p=0 <;> by_cases h2:B=0 <;> by_cases h3:E=0 <;> simp [h1,h2,h3]
theorem Zur (p B E R:Int):(if decide (p=0)=true then (if decide (B=0)=true then (if decide (E≠0)=true then E else R) else if decide (B≠0)=true then B else R) else if decide (p≠0)=true then p else R) =
  if decide ((if decide (p≠0)=true then p else if decide (B≠0)=true then B else E)≠0)=true then (if decide (p≠0)=true then p else if decide (B≠0)=true then B else E) else R:=by
 by_cases h1:p=0 <;> by_cases h2:B=0 <;> by_cases h3:E=0 <;> simp [h1,h2,h3]
theorem Zwr {s:Zy}{l:List Zy}(h:s ∈ l):SizeOf.sizeOf s < SizeOf.sizeOf l∧SizeOf.sizeOf s.Body < SizeOf.sizeOf l∧SizeOf.sizeOf s.Else < SizeOf.sizeOf l:=by
 have:=List.sizeOf_lt_of_mem h
 have:=Zrz s
 omega
def Zkb (l:List Zy):Prop:=l.length≤4611686018427387∧∀ s ∈ l,YB s
theorem YB.b {s:Zy}(h:YB s):Zkb s.Body∧Zkb s.Else:=by
 have h1:=h.Body; have h2:=h.Else
 exact ⟨⟨by omega,h1.2⟩,by omega,h2.2⟩
theorem ZvX (l:List Zy):0 < SizeOf.sizeOf l:=by cases l <;> simp <;> omega
def ZaI (l:List Zy):Int:=if decide (200 < Tt l (l.length:Int))=true then 6 else if decide (12 < Sr l 0)=true then 11 else VJ l
def Zkl (l:List Zy):Int:=if decide (200 < Io l 0)=true then 6 else if decide (12 < Sr l 0)=true then 11 else VJ l
theorem wrK (n:Int):∃ k:Int,IntKind.i64.wrap n=n + 18446744073709551616 * k:=by
 rw [IntKind.wrap_i64]
 exact ⟨-((n + 9223372036854775808) / 18446744073709551616),by omega⟩
theorem wrR (n:Int):-9223372036854775808≤IntKind.i64.wrap n∧IntKind.i64.wrap n≤9223372036854775807:=by
 rw [IntKind.wrap_i64]
 constructor <;> omega
mutual
def trS:Zy→Int
 | ⟨_,_,_,_,_,_,_,_,b,e⟩=>Ztk b + Ztk e
def Ztk:List Zy→Int
 | []=>0
 | x :: r=>1 + trS x + Ztk r
end
mutual
theorem trR:∀ (s:Zy) (n:Int),∃ k:Int,Zwj s n=n + 1 + trS s + 18446744073709551616 * k
 | ⟨_,_,_,_,_,_,_,_,b,e⟩,n=>by
  rw [Zwj,trS]
  obtain ⟨k1,h1⟩:=Zyr b 0
  obtain ⟨k2,h2⟩:=Zyr e 0
  obtain ⟨k3,h3⟩:=wrK (n + 1)
  obtain ⟨k4,h4⟩:=wrK (IntKind.i64.wrap (n + 1) + Io b 0)
  obtain ⟨k5,h5⟩:=wrK (IntKind.i64.wrap (IntKind.i64.wrap (n + 1) + Io b 0) + Io e 0)
  exact ⟨k1 + k2 + k3 + k4 + k5,by omega⟩
theorem Zyr:∀ (l:List Zy) (n:Int),∃ k:Int,Io l n=n + Ztk l + 18446744073709551616 * k
 | [],n=>⟨0,by rw [Io,Ztk]; omega⟩
 | x :: r,n=>by
  rw [Io,Ztk]
  obtain ⟨k1,h1⟩:=trR x n
  obtain ⟨k2,h2⟩:=Zyr r (Zwj x n)
  exact ⟨k1 + k2,by omega⟩
end
mutual
theorem trP:∀ (s:Zy),∃ k:Int,Ztz s=trS s + 18446744073709551616 * k
 | ⟨_,_,_,_,_,_,_,_,b,e⟩=>by
  rw [Ztz,trS]
  obtain ⟨k1,h1⟩:=Zyq b b.length
  obtain ⟨k2,h2⟩:=Zyq e e.length
  obtain ⟨k3,h3⟩:=wrK (Tt b (b.length:Int) + Tt e (e.length:Int))
  exact ⟨k1 + k2 + k3,by omega⟩
theorem Zyq:∀ (l:List Zy) (n:Int),∃ k:Int,Tt l n=n - l.length + Ztk l + 18446744073709551616 * k
 | [],n=>⟨0,by rw [Tt,Ztk]; simp⟩
 | x :: r,n=>by
  rw [Tt,Ztk]
  obtain ⟨k1,h1⟩:=trP x
  obtain ⟨k3,h3⟩:=wrK (n + Ztz x)
  obtain ⟨k2,h2⟩:=Zyq r (IntKind.i64.wrap (n + Ztz x))
  refine ⟨k1 + k2 + k3,?_⟩
  simp only [List.length_cons]
  omega
end
theorem rgR:∀ (l:List Zy) (n:Int),-9223372036854775808≤n→n≤9223372036854775807→-9223372036854775808≤Io l n∧Io l n≤9223372036854775807
 | [],n,h1,h2=>by rw [Io]; exact ⟨h1,h2⟩
 | x :: r,n,_,_=>by
  have h:=wrR (IntKind.i64.wrap (IntKind.i64.wrap (n + 1) + Io x.Body 0) + Io x.Else 0)
  rw [← Zps] at h
  rw [Io]
  exact rgR r _ h.1 h.2
theorem rgP:∀ (l:List Zy) (n:Int),-9223372036854775808≤n→n≤9223372036854775807→-9223372036854775808≤Tt l n∧Tt l n≤9223372036854775807
 | [],n,h1,h2=>by rw [Tt]; exact ⟨h1,h2⟩
 | x :: r,n,_,_=>by
  have h:=wrR (n + Ztz x)
  rw [Tt]
  exact rgP r _ h.1 h.2
theorem Zw3 (l:List Zy)(hl:l.length≤4611686018427387):Io l 0=Tt l (l.length:Int):=by
 obtain ⟨k1,h1⟩:=Zyr l 0
 obtain ⟨k2,h2⟩:=Zyq l l.length
 have r1:=rgR l 0 (by omega) (by omega)
 have r2:=rgP l l.length (by omega) (by omega)
 omega
theorem ZnD (l:List Zy)(hl:l.length≤4611686018427387):Zkl l=ZaI l:=by
 unfold Zkl ZaI
 rw [Zw3 l hl]
def WE (a b:Int):Int:=if decide (a≠0)=true then a else b
def YG (b:Bool)(e:Int):Int:=if b=true then 0 else e
def fitsT (t n:Int):Bool:=if decide (t=1)=true then inB n else if decide (t=2)=true then (decide (n=0) || decide (n=1)) else if decide (t=3)=true then btw n 0 1000000000 else false
def ZjP (t:Int):Bool:=decide (t=1) || decide (t=2) || decide (t=3)
theorem Znr (t:Int):ZjP t=btw t 1 3:=by
 simp only [ZjP,btw]
 by_cases h1:t=1
 ·simp [h1]
 by_cases h2:t=2
 ·simp [h2]
 by_cases h3:t=3
 ·simp [h3]
 simp only [h1,h2,h3,decide_false,Bool.or_false]
 by_cases h4:1≤t <;> by_cases h5:t≤3 <;> simp [h4,h5]
 omega
def Zry (cyc:Int):Option Int→List QR→Int
 | _,[]=>0
 | p,c :: r=>if (!(btw c.At_ 0 (cyc - 1)) || !(btw c.Units 0 1000))=true then 2 else if (p.isSome && decide (c.At_≤p.getD 0))=true then 12 else Zry cyc (some c.At_) r
def Zrx (d:Zn):Int :=
 if decide ((d.Shift.length:Int)=0)=true then (if decide (d.Cycle≠0)=true then 1 else 0)
 else if decide (20 < (d.Shift.length:Int))=true then 6 else if (!(btw d.Cycle 1 1000000000))=true then 2 else Zry d.Cycle none d.Shift
theorem YL.s {d:Zn}(h:YL d):d.Shift.length≤4611686018427387:=by have:=h.Shift.1; omega
theorem ZA.st {d:Zc}(h:ZA d):d.Streams.length≤4611686018427387∧d.Counts.length≤4611686018427387∧d.Stores.length≤4611686018427387∧d.Routines.length≤4611686018427387:=by
 have:=h.Streams.1; have:=h.Counts.1; have:=h.Stores.1; have:=h.Routines.1; omega
def Zmu (d:Zc)(f:Tf):Int :=
 if (decide (f.Stream=[]) && (!(NQ f.Up) || !(NQ f.Down)))=true then 1 else if decide (f.Stream=[])=true then 0 else if (!(d.Streams.contains f.Stream))=true then 5 else if decide (RZ f.Up≠0)=true then RZ f.Up else RZ f.Down
def Zzq (s:Zc)(d:Zn):Int :=
 if decide (WE (YG (btw d.Units 0 1000) 2) (Zrx d)≠0)=true then WE (YG (btw d.Units 0 1000) 2) (Zrx d)
 else if decide (d.Fault.Stream=[])=true then YG (NQ d.Fault.Up && NQ d.Fault.Down) 1
 else if (!(s.Streams.contains d.Fault.Stream))=true then 5 else WE (RZ d.Fault.Up) (RZ d.Fault.Down)
def Zoy (s:Zc)(d:Zn):Int:=if (!(btw d.Units 0 1000))=true then 2 else if decide (Zrx d≠0)=true then Zrx d else Zmu s d.Fault
theorem ZvO (s:Zc)(d:Zn):Zzq s d=Zoy s d:=by
 unfold Zzq Zoy Zmu WE YG
 cases btw d.Units 0 1000 <;> by_cases h1:Zrx d=0 <;> by_cases h2:d.Fault.Stream=[] <;> cases NQ d.Fault.Up <;> cases NQ d.Fault.Down <;> cases s.Streams.contains d.Fault.Stream <;> simp [h1,h2]
def Zfm (t:JC)(found:Bool):Int:=if (!found)=true then 5 else if (!(btw t.Coef (-1000) 1000) || decide (t.Coef=0))=true then 2 else 0
def Zfl (d:Zc)(t:JC):Int:=if decide (t.What=[99,114,101,97,116,101,100])=true then Zfm t ((d.Routines.map (·.Name)).contains t.Name) else if decide (t.What=[101,110,100,101,100])=true then Zfm t ((d.Routines.map (·.Name)).contains t.Name) else if decide (t.What=[105,110,115,105,100,101])=true then Zfm t ((d.Routines.map (·.Name)).contains t.Name) else if decide (t.What=[115,116,111,114,101,100])=true then Zfm t ((d.Stores.map (·.Name)).contains t.Name) else if decide (t.What=[101,110,116,101,114,101,100])=true then Zfm t ((d.Stores.map (·.Name)).contains t.Name) else if decide (t.What=[108,101,102,116])=true then Zfm t ((d.Stores.map (·.Name)).contains t.Name) else if decide (t.What=[99,111,117,110,116,101,100])=true then Zfm t (d.Counts.contains t.Name) else 1
def Zbe (s:Qm):Int:=if (!(btw s.At_ 0 1000000000) || !(btw s.Every 0 1000000000) || !(btw s.Until 0 1000000000) || (decide (s.Every=0) && decide (s.Until≠0)))=true then 2 else 0
def ZlJ (s:Qm):Int:=YG (btw s.At_ 0 1000000000 && btw s.Every 0 1000000000 && btw s.Until 0 1000000000 && (decide (s.Every≠0) || decide (s.Until=0))) 2
theorem Zre (s:Qm):ZlJ s=Zbe s:=by
 unfold Zbe ZlJ YG
 cases btw s.At_ 0 1000000000 <;> cases btw s.Every 0 1000000000 <;> cases btw s.Until 0 1000000000 <;> by_cases h1:s.Every=0 <;> by_cases h2:s.Until=0 <;> simp [h1,h2]
def RY (tl:Int):List Y1→List Int→Int
 | p :: ps,a :: ys=>if (!(fitsT p.Ty a))=true then 2 else RY tl ps ys
 | _,_=>tl
def Jw (d:Zc)(s:Qm):Int :=
 match d.Routines.find? (fun r=>decide (r.Name=s.Routine)) with
 | none=>5
 | some r=>if decide ((s.Args.length:Int)≠(r.Params.length:Int))=true then 8 else RY (Zbe s) r.Params s.Args
theorem Be.a {s:Qm}(h:Be s):s.Args.length≤4611686018427387:=by have:=h.Args.1; omega
theorem Ic.p {r:ZJ}(h:Ic r):r.Params.length≤4611686018427387∧r.Locals.length≤4611686018427387∧Zkb r.Body:=by
 have:=h.Params.1; have:=h.Locals.1; have:=h.Body
 exact ⟨by omega,by omega,by omega,this.2⟩
abbrev Seen:=List (List UInt8)
def YM (s:List UInt8)(seen:Seen):Int×Seen:=if decide (J5 s≠0)=true then (J5 s,seen) else if seen.contains s=true then (4,seen) else (0,seen ++ [s])
def Y9 (s:List UInt8)(rest:Int)(seen:Seen):Int×Seen:=if decide ((YM s seen).1≠0)=true then YM s seen else (rest,(YM s seen).2)
def RU (v:WO):Int:=if (!(btw v.Ty 1 3))=true then 1 else if (!(fitsT v.Ty v.N))=true then 2 else 0
def Rz (x:ZO):Int:=if (!(btw x.Room 1 1000))=true then 2 else if (decide (x.Policy < 1) || decide (3 < x.Policy))=true then 1 else 0
def Zbx (x:Yo):Int:=if (!(btw x.Length 1 1000) || !(btw x.Step 1 1000))=true then 2 else 0
def Xz {α σ:Type}(most:Int)(step:α→σ→Int×σ)(l:List α)(s:σ):Int×σ:=if decide (most < (l.length:Int))=true then (6,s) else We step l s
def Sv {α:Type}(most:Int)(f:α→Int)(l:List α):Int:=if decide (most < (l.length:Int))=true then 6 else Y2 f l
def Zdi (f:Y1):Int:=if (!(btw f.Ty 1 3))=true then 1 else 0
def Zp4 (l:List Y1)(s:Seen):Int×Seen:=We (fun f:Y1=>Y9 f.Name (Zdi f)) l s
def XN (r:ZJ):Int :=
 if (decide (6 < (r.Params.length:Int)) || decide (16 < (r.Params.length:Int) + (r.Locals.length:Int)))=true then 6
 else if decide ((Zp4 (r.Params ++ r.Locals) []).1≠0)=true then (Zp4 (r.Params ++ r.Locals) []).1 else ZaI r.Body
def Zrs (d:Zc)(l:RV):Int :=
 if decide ((l.Terms.length:Int)=0)=true then 7 else if decide (Sv 8 (Zfl d) l.Terms≠0)=true then Sv 8 (Zfl d) l.Terms else if (!(inB l.Total))=true then 2 else 0
theorem Zka.t {l:RV}(h:Zka l):l.Terms.length≤4611686018427387:=by have:=h.Terms.1; omega
def PM (d:Zc):Int:=(Xz 32 (fun l:RV=>Y9 l.Name (Zrs d l)) d.Laws []).1
abbrev Step:=Seen→Int×Seen
def Zei (d:Zc):List Step:=[Xz 32 (fun v:WO=>Y9 v.Name (RU v)) d.Vars,Xz 32 (fun v:Zn=>Y9 v.Name (Zoy d v)) d.Resources,Xz 32 (fun v:ZO=>Y9 v.Name (Rz v)) d.Stores,Xz 32 (fun v:Yo=>Y9 v.Name (Zbx v)) d.Belts,Xz 32 YM d.Queues,Xz 32 YM d.Streams,Xz 32 YM d.Tallies,Xz 32 YM d.Levels,Xz 32 YM d.Counts,
 Xz 16 (fun v:ZJ=>Y9 v.Name (XN v)) d.Routines,fun s=>(Sv 32 (Jw d) d.Starts,s),fun s=>(PM d,s)]
def ZhD (d:Zc):Int:=(P6 (Zei d) []).1
theorem ZoL.l {m:WY}(h:ZoL m):m.Params.length≤4611686018427387∧m.Sites.length≤4611686018427387∧m.Links.length≤4611686018427387:=by
 have:=h.Params.1; have:=h.Sites.1; have:=h.Links.1; omega
def ZaM (s:List UInt8)(seen:Seen):Int:=WE (J5 s) (YG (!(seen.contains s)) 4)
theorem Ze7 (s:List UInt8)(rest:Int)(seen:Seen):(Y9 s rest seen).1=WE (ZaM s seen) rest:=by
 by_cases h1:J5 s=0 <;> rcases Bool.eq_false_or_eq_true (seen.contains s) with h2 | h2 <;> simp only [Y9,YM,ZaM,WE,YG,h1,h2] <;> simp [h1]
theorem Zwd {s:List UInt8}{rest:Int}{seen:Seen}(h:WE (ZaM s seen) rest=0):(Y9 s rest seen)=(0,seen ++ [s]):=by
 by_cases h1:J5 s=0 <;> rcases Bool.eq_false_or_eq_true (seen.contains s) with h2 | h2 <;> simp only [ZaM,WE,YG,h1,h2] at h <;> simp [h1] at h
 simp only [Y9,YM,h1,h2]
 simp [h]
theorem ZwC (f:Y1):YG (ZjP f.Ty) 1=Zdi f:=by
 rw [Znr]; unfold YG Zdi; cases btw f.Ty 1 3 <;> rfl
def XJ (d:Zc):List (Int×List (List UInt8×Int)):=[(32,d.Vars.map fun v=>(v.Name,RU v)),(32,d.Resources.map fun v=>(v.Name,Zoy d v)),(32,d.Stores.map fun v=>(v.Name,Rz v)),(32,d.Belts.map fun v=>(v.Name,Zbx v)),(32,d.Queues.map fun v=>(v,0)),(32,d.Streams.map fun v=>(v,0)),(32,d.Tallies.map fun v=>(v,0)),(32,d.Levels.map fun v=>(v,0)),(32,d.Counts.map fun v=>(v,0)),(16,d.Routines.map fun v=>(v.Name,XN v))]
theorem ZxS (x:ZO):WE (YG (btw x.Room 1 1000) 2) (YG (decide (1≤x.Policy) && decide (x.Policy≤3)) 1)=Rz x:=by
 unfold WE YG Rz
 have e:(decide (x.Policy < 1) || decide (3 < x.Policy))=!(decide (1≤x.Policy) && decide (x.Policy≤3)):=by
  have a1:decide (x.Policy < 1)=!decide (1≤x.Policy):=by rw [← decide_not]; congr 1; apply propext; omega
  have a2:decide (3 < x.Policy)=!decide (x.Policy≤3):=by rw [← decide_not]; congr 1; apply propext; omega
  rw [Bool.not_and,a1,a2]
 rw [e]
 cases btw x.Room 1 1000 <;> cases (decide (1≤x.Policy) && decide (x.Policy≤3)) <;> simp
theorem Zyy (x:Yo):YG (btw x.Length 1 1000 && btw x.Step 1 1000) 2=Zbx x:=by
 unfold YG Zbx; cases btw x.Length 1 1000 <;> cases btw x.Step 1 1000 <;> rfl
theorem valueR (v:WO):WE (YG (ZjP v.Ty) 1) (YG (fitsT v.Ty v.N) 2)=RU v:=by
 rw [Znr]; unfold WE YG RU; cases btw v.Ty 1 3 <;> cases fitsT v.Ty v.N <;> rfl
theorem OW {α β:Type}{f:α→β}{l:List α}{i:Nat}{y:β}(h:(l.map f)[i]? = some y):∃ x,l[i]? = some x∧f x=y:=by
 rw [List.getElem?_map] at h
 exact Option.map_eq_some_iff.1 h
theorem kd (k:Nat):(∀ j:Nat,k=j→decide (((k:Nat):Int)=(j:Int))=true)∧(∀ j:Nat,k≠j→decide (((k:Nat):Int)=(j:Int))=false):=⟨fun j h=>by simp [h],fun j h=>by simp only [decide_eq_false_iff_not]; omega⟩
def II (q:List UInt8×Int):Seen→Int×Seen:=Y9 q.1 q.2
def stepD (p:Int×List (List UInt8×Int)):Seen→Int×Seen:=Xz p.1 II p.2
theorem ZjJ {α β σ:Type}(f:α→β)(step:β→σ→Int×σ):∀ (l:List α) (s:σ),We step (l.map f) s=We (fun x=>step (f x)) l s
 | [],s=>rfl
 | x :: r,s=>by rw [List.map_cons,We,We,ZjJ f step r]
theorem Tv {α β σ:Type}(f:α→β)(step:β→σ→Int×σ)(most:Int)(l:List α):Xz most step (l.map f)=Xz most (fun x=>step (f x)) l:=by
 funext s; unfold Xz; rw [ZjJ,List.length_map]
def Zci (d:Zc)(laws:Int):Int:=if decide (Sv 32 (Jw d) d.Starts≠0)=true then Sv 32 (Jw d) d.Starts else laws
def ZxR (d:Zc)(laws:Int):Int:=if decide ((P6 ((XJ d).map stepD) []).1≠0)=true then (P6 ((XJ d).map stepD) []).1 else Zci d laws
theorem ZvT (d:Zc):ZhD d=ZxR d (PM d):=by
 have e:Zei d=(XJ d).map stepD ++ [fun s=>(Sv 32 (Jw d) d.Starts,s),fun s=>(PM d,s)]:=by
  have f1:stepD (32,d.Vars.map fun v=>(v.Name,RU v))=Xz 32 (fun v:WO=>Y9 v.Name (RU v)) d.Vars:=Tv _ _ _ _
  have f2:stepD (32,d.Resources.map fun v=>(v.Name,Zoy d v))=Xz 32 (fun v:Zn=>Y9 v.Name (Zoy d v)) d.Resources:=Tv _ _ _ _
  have f3:stepD (32,d.Stores.map fun v=>(v.Name,Rz v))=Xz 32 (fun v:ZO=>Y9 v.Name (Rz v)) d.Stores:=Tv _ _ _ _
  have f4:stepD (32,d.Belts.map fun v=>(v.Name,Zbx v))=Xz 32 (fun v:Yo=>Y9 v.Name (Zbx v)) d.Belts:=Tv _ _ _ _
  have z:(fun v:List UInt8=>II (v,0))=YM:=by
   funext v s
   show Y9 v 0 s=YM v s
   unfold Y9
   by_cases h:(YM v s).1=0
   ·simp only [h,ne_eq,not_true_eq_false,decide_false,Bool.false_eq_true,if_false]; rw [← h]
   ·simp [h]
  have f5:∀ l:List (List UInt8),stepD (32,l.map fun v=>(v,0))=Xz 32 YM l:=fun l=>by rw [stepD,Tv,z]
  have f6:stepD (16,d.Routines.map fun v=>(v.Name,XN v))=Xz 16 (fun v:ZJ=>Y9 v.Name (XN v)) d.Routines:=Tv _ _ _ _
  unfold Zei XJ
  simp only [List.map_cons,List.map_nil,f1,f2,f3,f4,f5,f6]
  rfl
 have ap:∀ (l:List (Seen→Int×Seen)) (s:Seen),(P6 (l ++ [fun s=>(Sv 32 (Jw d) d.Starts,s),fun s=>(PM d,s)]) s).1=if decide ((P6 l s).1≠0)=true then (P6 l s).1 else Zci d (PM d):=by
  intro l
  induction l with
  | nil =>
   intro s
   by_cases h:Sv 32 (Jw d) d.Starts=0 <;> by_cases h2:PM d=0 <;> simp [P6,Zci,h,h2]
  | cons f r ih =>
   intro s
   rw [List.cons_append,P6,P6]
   by_cases h:(f s).1=0
   ·simp only [h,ne_eq,not_true_eq_false,decide_false,Bool.false_eq_true,if_false]
    exact ih _
   ·simp [h]
 rw [ZhD,e,ap]
 rfl
theorem ZnG (d:Zc):∀ (k:Nat) (p:Int×List (List UInt8×Int)),(XJ d)[k]? = some p→p.1=if k=9 then 16 else 32
 | 0,p,h=>by cases h; rfl
 | 1,p,h=>by cases h; rfl
 | 2,p,h=>by cases h; rfl
 | 3,p,h=>by cases h; rfl
 | 4,p,h=>by cases h; rfl
 | 5,p,h=>by cases h; rfl
 | 6,p,h=>by cases h; rfl
 | 7,p,h=>by cases h; rfl
 | 8,p,h=>by cases h; rfl
 | 9,p,h=>by cases h; rfl
 | k + 10,p,h=>by simp [XJ] at h
theorem Zni:∀ (l:List (List UInt8×Int)) (s:Seen),(We II l s).2.length≤s.length + l.length
 | [],s=>by simp [We]
 | x :: r,s=>by
  have ih:=Zni r (II x s).2
  have h1:(II x s).2.length≤s.length + 1:=by
   unfold II Y9
   split
   ·unfold YM; split <;> (try split) <;> simp
   ·show (YM x.1 s).2.length≤_
    unfold YM; split <;> (try split) <;> simp
  rw [We]
  split
  ·simp; omega
  ·simp; omega
theorem Zro {s:List UInt8}{rest:Int}{seen:Seen}(h:(Y9 s rest seen).1=0):(Y9 s rest seen).2=seen ++ [s]∧s ∉ seen∧rest=0:=by
 rw [Ze7] at h
 have w:=Zwd h
 refine ⟨by rw [w],?_,?_⟩
 ·intro hm
  have:seen.contains s=true:=by simpa using hm
  simp only [ZaM,this,WE,YG] at h
  by_cases h1:J5 s=0 <;> simp [h1] at h
 ·by_cases h1:ZaM s seen=0
  ·simpa [WE,h1] using h
  ·simp [WE,h1] at h
theorem ZqW:∀ (l:List (List UInt8×Int)) (s:Seen),(We II l s).1=0→(We II l s).2=s ++ l.map (·.1)∧(∀ q ∈ l.map (·.1),q ∉ s)∧(l.map (·.1)).Nodup∧∀ q ∈ l,q.2=0
 | [],s,_=>by simp [We]
 | x :: r,s,h=>by
  by_cases hz:(II x s).1=0
  ·obtain ⟨w1,w2,w3⟩:=Zro (s := x.1) (rest := x.2) (seen := s) hz
   have e:We II (x :: r) s=We II r (s ++ [x.1]):=by
    have:(II x s).2=s ++ [x.1]:=w1
    simp [We,hz,this]
   rw [e] at h ⊢
   obtain ⟨i1,i2,i3,i4⟩:=ZqW r _ h
   refine ⟨by rw [i1]; simp,?_,?_,?_⟩
   ·intro q hq
    rw [List.map_cons] at hq
    rcases List.mem_cons.1 hq with rfl | hq
    ·exact w2
    ·exact fun hm=>i2 q hq (by simp [hm])
   ·rw [List.map_cons,List.nodup_cons]
    exact ⟨fun hm=>i2 x.1 hm (by simp),i3⟩
   ·intro q hq
    rcases List.mem_cons.1 hq with rfl | hq
    ·exact w3
    ·exact i4 q hq
  ·have e:We II (x :: r) s=II x s:=by simp [We,hz]
   rw [e] at h; exact absurd h hz
def Zb6 (p:Int×List (List UInt8×Int)):List (List UInt8):=p.2.map (·.1)
theorem ZtQ:∀ (ds:List (Int×List (List UInt8×Int))) (s:Seen),(P6 (ds.map stepD) s).1=0→ds.Pairwise (fun a b=>∀ x ∈ Zb6 a,x ∉ Zb6 b)∧(∀ p ∈ ds,(Zb6 p).Nodup∧(∀ x ∈ Zb6 p,x ∉ s)∧∀ q ∈ p.2,q.2=0)
 | [],s,_=>⟨List.Pairwise.nil,fun p h=>by cases h⟩
 | p :: r,s,h=>by
  by_cases hz:(stepD p s).1=0
  ·have e:P6 ((p :: r).map stepD) s=P6 (r.map stepD) (stepD p s).2:=by simp [P6,hz]
   rw [e] at h
   have hl:¬ p.1 < (p.2.length:Int):=fun hl=>by simp [stepD,Xz,hl] at hz
   have e2:stepD p s=We II p.2 s:=by simp [stepD,Xz,hl]
   rw [e2] at hz h
   obtain ⟨w1,w2,w3,w4⟩:=ZqW p.2 s hz
   rw [w1] at h
   obtain ⟨i1,i2⟩:=ZtQ r _ h
   refine ⟨List.Pairwise.cons (fun b hb x hx hm=>(i2 b hb).2.1 x hm (by simp [Zb6] at hx ⊢; exact .inr hx)) i1,fun a ha=>?_⟩
   rcases List.mem_cons.1 ha with rfl | ha
   ·exact ⟨w3,w2,w4⟩
   ·exact ⟨(i2 a ha).1,fun x hx hm=>(i2 a ha).2.1 x hx (by simp [hm]),(i2 a ha).2.2⟩
  ·have e:P6 ((p :: r).map stepD) s=stepD p s:=by simp [P6,hz]
   rw [e] at h; exact absurd h hz
def Tz (nm:List UInt8):List (List UInt8×List (List UInt8))→List UInt8
 | []=>[]
 | (w,ns) :: r=>if ns.contains nm=true then w else Tz nm r
theorem ZfM (nm:List UInt8):∀ l:List (List UInt8×List (List UInt8)),Tz nm l=[]∨Tz nm l ∈ l.map (·.1)
 | []=>.inl rfl
 | (w,ns) :: r=>by
  rw [Tz]
  split
  ·right; simp
  ·rcases ZfM nm r with h | h
   ·exact .inl h
   ·right; rw [List.map_cons]; exact List.mem_cons_of_mem _ h
theorem ZfL (nm:List UInt8):∀ l:List (List UInt8×List (List UInt8)),l.Pairwise (fun a b=>∀ x ∈ a.2,x ∉ b.2)→(l.map (·.1)).Nodup→[] ∉ l.map (·.1)→∀ p ∈ l,(Tz nm l=p.1↔nm ∈ p.2)
 | [],_,_,_,p,h=>by cases h
 | (w,ns) :: r,hp,hn,he,p,h=>by
  rw [List.pairwise_cons] at hp
  rw [List.map_cons,List.nodup_cons] at hn
  rw [List.map_cons,List.mem_cons,not_or] at he
  rw [Tz]
  by_cases hc:nm ∈ ns
  ·rw [if_pos (by simpa using hc)]
   rcases List.mem_cons.1 h with rfl | h
   ·simp [hc]
   ·refine ⟨fun e=>absurd (List.mem_map_of_mem (f := (·.1)) h) (by show p.1 ∉ _; rw [← e]; exact hn.1),fun hm=>absurd hm (hp.1 p h nm hc)⟩
  ·rw [if_neg (by simpa using hc)]
   rcases List.mem_cons.1 h with rfl | h
   ·refine ⟨fun e=>?_,fun hm=>absurd hm hc⟩
    rcases ZfM nm r with h1 | h1
    ·rw [h1] at e; exact absurd e he.1
    ·rw [e] at h1; exact absurd h1 hn.1
   ·exact ZfL nm r hp.2 hn.2 he.2 p h
def VK (d:Zc):List (List UInt8×List (List UInt8)):=[([118,97,114],d.Vars.map (·.Name)),([114,101,115,111,117,114,99,101],d.Resources.map (·.Name)),([115,116,111,114,101],d.Stores.map (·.Name)),([98,101,108,116],d.Belts.map (·.Name)),([113,117,101,117,101],d.Queues),([115,116,114,101,97,109],d.Streams),([116,97,108,108,121],d.Tallies),([108,101,118,101,108],d.Levels),([99,111,117,110,116],d.Counts),([114,111,117,116,105,110,101],d.Routines.map (·.Name))]
theorem ZmA (d:Zc):(VK d).map (·.2)=(XJ d).map Zb6:=by
 simp [VK,XJ,Zb6,Function.comp_def]
end Go.Proofs.YtleomfgijkapfaaGreatDoor
end
