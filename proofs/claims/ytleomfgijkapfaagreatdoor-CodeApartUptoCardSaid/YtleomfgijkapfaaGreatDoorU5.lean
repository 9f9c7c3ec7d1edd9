import Derived.Test.YtleomfgijkapfaaGreatDoorU4
set_option linter.all false
section
namespace Go.Proofs.YtleomfgijkapfaaGreatDoor
open Go Go.Proofs.YtleomfgijkapfaaGreatDoor.Abs
set_option maxRecDepth 100000
def Zme (n:Int):Bool:=decide (97≤n) && decide (n≤122)
def CG (n:Int):Bool:=Zme n || decide (n=95) || (decide (48≤n) && decide (n≤57))
def kws:List (List UInt8):=[[97,100,100],[97,102,116,101,114],[97,110,100],[97,116],[98,101,108,116],[98,111,111,108],[99,111,110,115,101,114,118,101],[99,111,110,115,116],[99,111,117,110,116],[99,121,99,108,101],[100,111,119,110],[100,114,97,119],[100,117,114],[101,108,115,101],[101,110,100],[101,118,101,114,121],[102,97,108,115,101],[102,97,117,108,116],[102,105,102,111],[102,114,101,101],[102,114,111,109],[103,101,111,109],[103,101,116],[104,111,108,100],[105,102],[105,110,116],[105,110,116,111],[108,101,97,115,116],[108,101,118,101,108],[108,105,102,111],[108,105,110,107],[108,111,99,97,108],[109,97,120],[109,105,110],[109,111,100,101,108],[110,111,116],[110,111,119],[111,98,115,101,114,118,101],[111,114],[112,97,114,97,109],[112,114,101,101,109,112,116],[112,114,105,111],[112,117,116],[113,117,101,117,101],[114,101,108,101,97,115,101],[114,101,115,111,117,114,99,101],[114,105,100,101],[114,111,117,116,105,110,101],[115,101,105,122,101],[115,101,110,100],[115,101,116],[115,104,105,102,116],[115,105,103,110,97,108],[115,105,116,101],[115,105,122,101],[115,112,97,119,110],[115,116,97,114,116],[115,116,111,112],[115,116,111,114,101],[115,116,114,101,97,109],[115,117,109],[116,97,98,108,101],[116,97,108,108,121],[116,105,99,107,115],[116,105,109,101],[116,114,117,101],[117,110,105,102,111,114,109],[117,110,116,105,108],[117,112],[118,97,114],[119,97,105,116],[119,97,105,116,105,110,103],[119,104,105,108,101]]
def kwB (s:List UInt8):Bool:=kws.any fun k=>decide (s=k)
def V8 (s:List UInt8):Int :=
 match s with
 | []=>3
 | c :: r=>if 24 < (c :: r).length∨Zme c.toNat=false∨kwB (c :: r)=true then 3 else if (c :: r).all (fun x=>CG x.toNat) then 0 else 3
def inB (n:Int):Bool:=decide (-1000000000000≤n) && decide (n≤1000000000000)
theorem ZbW (s:List UInt8):V8 s=0∨V8 s=3:=by
 unfold V8
 split
 ·exact .inr rfl
 ·split
  ·exact .inr rfl
  ·split
   ·exact .inl rfl
   ·exact .inr rfl
def U2 {α σ:Type}(step:α→σ→Int×σ):List α→σ→Int×σ
 | [],s=>(0,s)
 | x :: r,s=>if decide ((step x s).1≠0)=true then step x s else U2 step r (step x s).2
def Zqj {σ:Type}:List (σ→Int×σ)→σ→Int×σ
 | [],s=>(0,s)
 | f :: r,s=>if decide ((f s).1≠0)=true then f s else Zqj r (f s).2
theorem ZrB {n:Int}(h1:-9223372036854775808≤n)(h2:n≤9223372036854775807):IntKind.i64.wrap n=n:=i64_in h1 h2
def Zb9 (a b:ZX):Bool:=decide (a.Op=b.Op) && decide (a.A=b.A) && decide (a.B=b.B) && decide (a.N=b.N) && decide (a.Values=b.Values) && decide (a.Weights=b.Weights)
theorem ZhW (a b:ZX):Zb9 a b=decide (a=b):=by
 obtain ⟨a1,a2,a3,a4,a5,a6⟩:=a
 obtain ⟨b1,b2,b3,b4,b5,b6⟩:=b
 simp only [Zb9,ZX.mk.injEq,Bool.decide_and,Bool.and_assoc]
def btw (x lo hi:Int):Bool:=decide (lo≤x) && decide (x≤hi)
def Uh (d:ZX):Bool :=
 if decide (d.Op=1)=true then decide ((d.Values.length:Int) + d.Weights.length=0) && decide (d.B=0) && decide (d.N=0)
 else if decide (d.Op=2)=true then decide ((d.Values.length:Int) + d.Weights.length=0) && decide (d.N=0)
 else if decide (d.Op=5)=true then decide ((d.Values.length:Int) + d.Weights.length=0) && decide (d.N=0)
 else if decide (d.Op=4)=true then decide ((d.Values.length:Int) + d.Weights.length=0)
 else if decide (d.Op=3)=true then decide (d.A=0) && decide (d.B=0) && decide (d.N=0)
 else false
theorem QE.v {d:ZX}(h:QE d):d.Values.length≤4611686018427387:=by have:=h.Values.1; omega
theorem QE.w {d:ZX}(h:QE d):d.Weights.length≤4611686018427387:=by have:=h.Weights.1; omega
theorem QE.wr {d:ZX}(h:QE d):IntKind.i64.wrap ((d.Values.length:Int) + (d.Weights.length:Int))=(d.Values.length:Int) + (d.Weights.length:Int):=by
 have:=h.v; have:=h.w; exact ZrB (by omega) (by omega)
def Ea (d:ZX):Bool :=
 if decide (d.Op=1)=true then decide (d.B=0) && decide (d.N=0) && (decide ((d.Values.length:Int)=0) && decide ((d.Weights.length:Int)=0))
 else if decide (d.Op=2)=true then decide (d.N=0) && (decide ((d.Values.length:Int)=0) && decide ((d.Weights.length:Int)=0))
 else if decide (d.Op=5)=true then decide (d.N=0) && (decide ((d.Values.length:Int)=0) && decide ((d.Weights.length:Int)=0))
 else if decide (d.Op=3)=true then decide (d.A=0) && decide (d.B=0) && decide (d.N=0)
 else if decide (d.Op=4)=true then (decide ((d.Values.length:Int)=0) && decide ((d.Weights.length:Int)=0))
 else false
def Zmp (lo hi:Int)(x:Int):Bool:=decide (x < lo) || decide (hi < x)
def IK {α:Type}(f:α→Bool):List α→Int→Int
 | [],_=>-1
 | x :: r,i=>if f x=true then i else IK f r (i + 1)
theorem PY {α:Type}(f:α→Bool):∀ (l:List α) (i:Int),0≤i→decide (0≤IK f l i)=l.any f
 | [],i,h=>by simp [IK]
 | x :: r,i,h=>by
  have ih:=PY f r (i + 1) (by omega)
  cases hx:f x <;> simp [IK,hx,h]
  simpa using ih
def YL (lo hi:Int)(l:List Int):Bool:=!(l.any (Zmp lo hi))
def XJ (d:ZX):Int :=
 if (!(Uh d))=true then 1
 else if decide (d.Op=1)=true then (if (!(YL 0 1000000000 [d.A]))=true then 2 else 0)
 else if decide (d.Op=2)=true then (if (!(YL 0 1000000000 [d.A,d.B] && decide (d.A≤d.B)))=true then 2 else 0)
 else if decide (d.Op=4)=true then (if (!(YL 1 20 [d.N] && YL 0 1000000 [d.A,d.B] && decide (d.A≤d.B)))=true then 2 else 0)
 else if decide (d.Op=5)=true then (if (!(YL 1 1000 [d.A,d.B]))=true then 2 else 0)
 else if decide (d.Op=3)=true then
  (if decide ((d.Values.length:Int)≠(d.Weights.length:Int))=true then 8 else if decide ((d.Values.length:Int)=0)=true then 7 else if decide (20 < (d.Values.length:Int))=true then 6
   else if (!(YL 0 1000000000 d.Values && YL 1 1000 d.Weights))=true then 2 else 0)
 else 2
def Zm0:List Int→List Int→Int
 | x :: r,y :: s=>if (!(btw x 0 1000000000) || !(btw y 1 1000))=true then 2 else Zm0 r s
 | _,_=>0
def ZfY (d:ZX):Int :=
 if decide ((d.Values.length:Int)≠(d.Weights.length:Int))=true then 8 else if decide ((d.Values.length:Int)=0)=true then 7 else if decide (20 < (d.Values.length:Int))=true then 6 else Zm0 d.Values d.Weights
def Zkp (d:ZX):Int :=
 if (!(Ea d))=true then 1
 else if decide (d.Op=1)=true then (if (!(btw d.A 0 1000000000))=true then 2 else 0)
 else if decide (d.Op=2)=true then (if (!(btw d.A 0 d.B && decide (d.B≤1000000000)))=true then 2 else 0)
 else if decide (d.Op=3)=true then ZfY d
 else if decide (d.Op=4)=true then (if (!(btw d.N 1 20 && btw d.A 0 d.B && decide (d.B≤1000000)))=true then 2 else 0)
 else if decide (d.Op=5)=true then (if (!(btw d.A 1 1000 && btw d.B 1 1000))=true then 2 else 0)
 else 0
def ZjL (op:Int):Bool:=decide (22≤op) && decide (op≤24)
def Zdy (op:Int):Int :=
 if (decide (op=1) || decide (op=2) || decide (op=3) || decide (op=4))=true then 0
 else if (decide (5≤op) && decide (op≤8))=true then 1
 else if (decide (9≤op) && decide (op≤21))=true then 2
 else if (decide (22≤op) && decide (op≤26))=true then 0 else -1
def Nj (code:Bool)(op:Int):Bool :=
 if decide (op=3)=true then !code else if decide (op=25)=true then code else if decide (op=26)=true then code else decide (0≤Zdy op)
def AZ (code:Bool)(op:Int):Bool:=decide (op=3) || (ZjL op && !code)
def ZkU (code:Bool)(op:Int):Int×Int×Bool :=
 if decide (op=2)=true then (0,1,true) else if decide (op=25)=true then (0,15,true) else if decide (op=26)=true then (0,31,true) else if (ZjL op && code)=true then (0,63,true) else (0,0,false)
def Nq (code:Bool)(e:Zg):Int :=
 if (!(Nj code e.Op) || decide ((e.Kids.length:Int)≠Zdy e.Op) || (decide (e.Name≠[]) && !(AZ code e.Op)))=true then 1
 else if decide (e.Op=1)=true then (if (!(inB e.N))=true then 2 else 0)
 else if (!(ZkU code e.Op).2.2 && decide (e.N≠0))=true then 1
 else if ((ZkU code e.Op).2.2 && (decide (e.N < (ZkU code e.Op).1) || decide ((ZkU code e.Op).2.1 < e.N)))=true then 2
 else if AZ code e.Op=true then V8 e.Name else 0
theorem OZ {x e:Zg}(h:x ∈ e.Kids):SizeOf.sizeOf x < SizeOf.sizeOf e:=by
 cases e
 have:=List.sizeOf_lt_of_mem h
 simp at *
 omega
theorem Ik (e:Zg):0 < SizeOf.sizeOf e:=by cases e; simp; omega
theorem ZL.k {e:Zg}(h:ZL e):e.Kids.length≤4611686018427387:=by have:=h.Kids.1; omega
theorem ZL.n {e:Zg}(h:ZL e):e.Name.length≤140737488351232:=h.Name
mutual
def Qc (code:Bool):Zg→Int
 | ⟨o,a,n,ks⟩=>if decide (Nq code ⟨o,a,n,ks⟩≠0)=true then Nq code ⟨o,a,n,ks⟩ else Xx code ks
def Xx (code:Bool):List Zg→Int
 | []=>0
 | x :: r=>if decide (Qc code x≠0)=true then Qc code x else Xx code r
end
theorem Fa (code:Bool):∀ l:List Zg,Xx code l=Xg (Qc code) l
 | []=>by rw [Xx]; rfl
 | x :: r=>by rw [Xx,Fa code r]; rfl
theorem ZbZ (code:Bool)(e:Zg):Qc code e=if decide (Nq code e≠0)=true then Nq code e else Xg (Qc code) e.Kids:=by
 cases e; rw [Qc,Fa]
mutual
def ZhP:Zg→Int
 | ⟨_,_,_,ks⟩=>ZhR ks 1
def ZhR:List Zg→Int→Int
 | [],n=>n
 | x :: r,n=>ZhR r (IntKind.i64.wrap (n + ZhP x))
end
theorem ZeZ:∀ (l:List Zg) (n:Int),ZhR l n=sumW ZhP l n
 | [],n=>by rw [ZhR]; rfl
 | x :: r,n=>by rw [ZhR,ZeZ r]; rfl
theorem ZhQ (e:Zg):ZhP e=sumW ZhP e.Kids 1:=by cases e; rw [ZhP,ZeZ]
mutual
def Zhq:Zg→Int
 | ⟨_,_,_,ks⟩=>IntKind.i64.wrap (ZhV ks 0 + 1)
def ZhV:List Zg→Int→Int
 | [],n=>n
 | x :: r,n=>ZhV r (if Zhq x > n then Zhq x else n)
end
theorem Zfc:∀ (l:List Zg) (n:Int),ZhV l n=ZkM Zhq l n
 | [],n=>by rw [ZhV]; rfl
 | x :: r,n=>by rw [ZhV,Zfc r]; rfl
theorem ZhU (e:Zg):Zhq e=IntKind.i64.wrap (ZkM Zhq e.Kids 0 + 1):=by cases e; rw [Zhq,Zfc]
def ZbP (a b:Zg):Bool:=decide (a.Op≠b.Op) || decide (a.Name≠b.Name) || decide (a.N≠b.N)
mutual
def KT:Zg→Zg→Bool
 | ⟨o,a,n,ks⟩,e=>if (ZbP ⟨o,a,n,ks⟩ e || decide ((ks.length:Int)≠(e.Kids.length:Int)))=true then false else Ij ks e.Kids
def Ij:List Zg→List Zg→Bool
 | x :: r,y :: s=>if (!(KT x y))=true then false else Ij r s
 | _,_=>true
end
theorem Zc7:∀ l m:List Zg,Ij l m=all2 KT l m
 | [],[]=>by rw [Ij] <;> simp [all2]
 | [],y :: s=>by rw [Ij] <;> simp [all2]
 | x :: r,[]=>by rw [Ij] <;> simp [all2]
 | x :: r,y :: s=>by rw [Ij,Zc7 r s]; rfl
theorem Dh (a b:Zg):KT a b=if (ZbP a b || decide ((a.Kids.length:Int)≠(b.Kids.length:Int)))=true then false else all2 KT a.Kids b.Kids:=by
 cases a; rw [KT,Zc7]
def Px (op:Int):Int :=
 if (decide (op < 1) || decide (26 < op))=true then -1 else if (decide (5≤op) && decide (op≤8))=true then 1 else if (decide (9≤op) && decide (op≤21))=true then 2 else 0
def ZkP (op:Int):Int:=if decide (op=25)=true then 15 else if decide (op=26)=true then 31 else 63
def Zg8 (code:Bool)(e:Zg):Int :=
 if (!(decide (0≤Px e.Op) && ((code && decide (e.Op≠3)) || (!code && decide (e.Op≤24)))) || (!(!code && (decide (e.Op=3) || ZjL e.Op)) && decide (e.Name≠[])) || (!(decide (e.Op=1) || decide (e.Op=2) || (code && (ZjL e.Op || decide (e.Op=25) || decide (e.Op=26)))) && decide (e.N≠0)) || decide ((e.Kids.length:Int)≠Px e.Op))=true then 1
 else if ((decide (e.Op=1) && !(inB e.N)) || ((decide (e.Op=2) && decide (e.N≠0)) && decide (e.N≠1)) || ((code && (ZjL e.Op || decide (e.Op=25) || decide (e.Op=26))) && (decide (e.N < 0) || decide (ZkP e.Op < e.N))))=true then 2
 else if ((!code && (decide (e.Op=3) || ZjL e.Op)) && decide (V8 e.Name≠0))=true then V8 e.Name else 0
theorem ZrX (op:Int):1≤op∧op≤26→op=1∨op=2∨op=3∨op=4∨op=5∨op=6∨op=7∨op=8∨op=9∨op=10∨op=11∨op=12∨op=13∨op=14∨op=15∨op=16∨op=17∨op=18∨op=19∨op=20∨op=21∨op=22∨op=23∨op=24∨op=25∨op=26:=by omega
theorem Zk3 (code:Bool)(e:Zg):Zg8 code e=Nq code e:=by
 obtain ⟨op,nm,n,ks⟩:=e
 by_cases h:1≤op∧op≤26
 ·rcases ZrX op h with rfl | rfl | rfl | rfl | rfl | rfl | rfl | rfl | rfl | rfl | rfl | rfl | rfl | rfl | rfl | rfl | rfl | rfl | rfl | rfl | rfl | rfl | rfl | rfl | rfl | rfl <;> cases code <;> simp [Zg8,Nq,Px,ZkP,ZjL,Zdy,Nj,AZ,ZkU] <;> grind
 ·have h1:Px op=-1:=by simp only [Px]; rw [if_pos]; simp; omega
  have h2:Zdy op=-1:=by
   simp only [Zdy]
   rw [if_neg (by simp; omega),if_neg (by simp; omega),if_neg (by simp; omega),if_neg (by simp; omega)]
  have h3:Nj code op=false:=by
   simp only [Nj,h2]
   rw [if_neg (by simp; omega),if_neg (by simp; omega),if_neg (by simp; omega)]; rfl
  simp [Zg8,Nq,h1,h2,h3]
theorem ZiJ (code:Bool)(e:Zg):(if decide (Zg8 code e≠0)=true then Zg8 code e else Xg (Qc code) e.Kids)=Qc code e:=by rw [Zk3,← ZbZ]
def WC (code:Bool)(e:Zg):Int:=if decide (60 < ZhP e)=true then 6 else if decide (12 < Zhq e)=true then 11 else Qc code e
def Iq (op:Int):ZaQ×Bool:=if decide (op=1)=true then (⟨true,false,true,false,false,false,false,false,false⟩,true) else if decide (op=7)=true then (⟨true,false,true,false,false,false,false,false,false⟩,true) else if decide (op=8)=true then (⟨true,false,true,false,false,false,false,false,false⟩,true) else if decide (op=12)=true then (⟨true,false,true,false,false,false,false,false,false⟩,true) else if decide (op=15)=true then (⟨true,false,true,false,false,false,false,false,false⟩,true) else if decide (op=16)=true then (⟨true,false,true,false,false,false,false,false,false⟩,true) else if decide (op=17)=true then (⟨true,false,true,false,false,false,false,false,false⟩,true) else if decide (op=2)=true then (⟨true,true,false,false,false,true,false,false,false⟩,true) else if decide (op=3)=true then (⟨false,false,true,false,false,false,false,true,true⟩,true) else if decide (op=4)=true then (⟨false,false,true,false,false,false,false,true,false⟩,true) else if decide (op=5)=true then (⟨false,false,true,false,false,false,false,false,false⟩,true) else if decide (op=6)=true then (⟨true,false,true,true,false,false,true,false,false⟩,true) else if decide (op=9)=true then (⟨true,true,false,false,false,false,false,false,false⟩,true) else if decide (op=10)=true then (⟨true,false,false,false,false,false,false,false,false⟩,true) else if decide (op=11)=true then (⟨true,false,false,false,false,false,false,false,false⟩,true) else if decide (op=13)=true then (⟨true,true,true,false,true,false,false,false,false⟩,true) else if decide (op=14)=true then (⟨true,false,true,false,true,false,false,false,false⟩,true) else if decide (op=18)=true then (⟨false,false,false,false,false,false,false,false,false⟩,true) else (⟨false,false,false,false,false,false,false,false,false⟩,false)
def MF (e:Zg):Bool:=decide (e.Op=0) && decide (e.Name=[]) && decide (e.N=0) && decide ((e.Kids.length:Int)=0)
def KI (d:ZX):Bool:=decide (d.Op=0) && decide (d.A=0) && decide (d.B=0) && decide (d.N=0) && decide (d.Values=[]) && decide (d.Weights=[])
def Zkx (s:Zz)(u:ZaQ):Bool :=
 (u.name || decide (s.Name=[])) && (u.of || decide (s.Of=[])) && (u.e || MF s.E) && (u.f || MF s.F) && (u.args || decide ((s.Args.length:Int)=0)) && (u.dist || KI s.Dist) && (u.flag || !s.Flag) && (u.body || decide ((s.Body.length:Int)=0)) && (u.other || decide ((s.Else.length:Int)=0))
def Zie (s:Zz):Bool :=
 (Iq s.Op).2 && ((((Iq s.Op).1.name || decide (s.Name=[])) && ((Iq s.Op).1.of || decide (s.Of=[])))) && (((Iq s.Op).1.e || MF s.E) && ((Iq s.Op).1.f || MF s.F) && ((Iq s.Op).1.args || decide ((s.Args.length:Int)=0))) && (((Iq s.Op).1.body || decide ((s.Body.length:Int)=0)) && ((Iq s.Op).1.other || decide ((s.Else.length:Int)=0))) && ((Iq s.Op).1.dist || KI s.Dist) && ((Iq s.Op).1.flag || !s.Flag)
theorem Zkw (s:Zz):Zie s=((Iq s.Op).2 && Zkx s (Iq s.Op).1):=by
 simp only [Zie,Zkx]
 generalize (Iq s.Op).1=u
 generalize (Iq s.Op).2=b
 ac_rfl
def Zgm (s:Zz)(u:ZaQ):List Zg→Int
 | []=>if u.dist=true then XJ s.Dist else 0
 | x :: r=>if decide (WC false x≠0)=true then WC false x else Zgm s u r
def Zjj (s:Zz)(u:ZaQ):Int:=if decide (6 < (s.Args.length:Int))=true then 6 else Zgm s u s.Args
def Zjl (s:Zz)(u:ZaQ):Int:=if (!u.f)=true then Zjj s u else if decide (WC false s.F≠0)=true then WC false s.F else Zjj s u
def Zjk (s:Zz)(u:ZaQ):Int:=if (!u.e)=true then Zjl s u else if decide (WC false s.E≠0)=true then WC false s.E else Zjl s u
def Zmr (s:Zz)(u:ZaQ):Int :=
 if (u.name && decide (V8 s.Name≠0))=true then V8 s.Name else if (u.of && decide (V8 s.Of≠0))=true then V8 s.Of else Zjk s u
theorem Yo.a {s:Zz}(h:Yo s):s.Args.length≤4611686018427387:=by have:=h.Args.1; omega
theorem ZoH (s:Zz):SizeOf.sizeOf s.E < SizeOf.sizeOf s∧SizeOf.sizeOf s.F < SizeOf.sizeOf s∧SizeOf.sizeOf s.Args < SizeOf.sizeOf s∧SizeOf.sizeOf s.Body < SizeOf.sizeOf s∧SizeOf.sizeOf s.Else < SizeOf.sizeOf s:=by
 cases s; simp; omega
theorem ZrZ {s:Zz}{x:Zg}(h:x ∈ s.Args):SizeOf.sizeOf x < SizeOf.sizeOf s:=by
 have:=List.sizeOf_lt_of_mem h
 have:=(ZoH s).2.2.1
 omega
def MS (s:Zz):List Zg→Int→Int
 | [],e=>e
 | x :: r,e=>if decide (e=0)=true then MS s r (WC false x) else e
def PQ (s:Zz)(u:ZaQ):Int :=
 MS s s.Args (if (decide ((if (decide ((if u.e=true then WC false s.E else 0)=0) && u.f)=true then WC false s.F else (if u.e=true then WC false s.E else 0))=0) && decide (6 < (s.Args.length:Int)))=true then 6
  else (if (decide ((if u.e=true then WC false s.E else 0)=0) && u.f)=true then WC false s.F else (if u.e=true then WC false s.E else 0)))
def Zru (s:Zz):Int :=
 if (!(Zie s))=true then 1
 else if (((Iq s.Op).1.name && decide (V8 s.Name≠0)) || ((Iq s.Op).1.of && decide (V8 s.Of≠0)))=true then 3
 else if (decide (PQ s (Iq s.Op).1=0) && (Iq s.Op).1.dist)=true then Zkp s.Dist else PQ s (Iq s.Op).1
theorem FY (s:Zz)(l:List Zg)(e:Int)(h:e≠0):MS s l e=e:=by
 cases l <;> simp [MS,h]
theorem Ap (s:Zz)(u:ZaQ):∀ l:List Zg,(if (decide (MS s l 0=0) && u.dist)=true then XJ s.Dist else MS s l 0)=Zgm s u l
 | []=>by simp [MS,Zgm]
 | x :: r=>by
  by_cases h:WC false x=0
  ·simp only [MS,Zgm,h,decide_true,if_true,ne_eq,not_true_eq_false,decide_false,Bool.false_eq_true,if_false]
   exact Ap s u r
  ·simp [MS,Zgm,h,FY]
def Zlf (s:Zz):Int:=if (!(Iq s.Op).2 || !(Zkx s (Iq s.Op).1))=true then 1 else Zmr s (Iq s.Op).1
theorem Zo2 (lo hi a:Int):YL lo hi [a]=btw a lo hi:=by
 simp only [YL,List.any_cons,List.any_nil,Zmp,btw,Bool.or_false,Bool.not_or,← decide_not,Int.not_lt]
theorem Zo3 (lo hi a b:Int):YL lo hi [a,b]=(btw a lo hi && btw b lo hi):=by
 simp only [YL,List.any_cons,List.any_nil,Zmp,btw,Bool.or_false,Bool.not_or,← decide_not,Int.not_lt]
theorem Zo4 (lo hi a:Int)(l:List Int):YL lo hi (a :: l)=(btw a lo hi && YL lo hi l):=by
 simp only [YL,List.any_cons,Zmp,btw,Bool.not_or,← decide_not,Int.not_lt]
theorem Zm1:∀ (l m:List Int),l.length=m.length→Zm0 l m=if (!(YL 0 1000000000 l && YL 1 1000 m))=true then 2 else 0
 | [],[],_=>by simp [Zm0,YL]
 | [],y :: m,h=>by simp at h
 | x :: l,[],h=>by simp at h
 | x :: l,y :: m,h=>by
  have ih:=Zm1 l m (by simpa using h)
  simp only [Zm0,Zo4,ih]
  generalize YL 0 1000000000 l=c1
  generalize YL 1 1000 m=c2
  cases btw x 0 1000000000 <;> cases btw y 1 1000 <;> cases c1 <;> cases c2 <;> rfl
theorem Zrk (a b:Nat):decide ((a:Int) + (b:Int)=0)=(decide ((a:Int)=0) && decide ((b:Int)=0)):=by
 rw [← Bool.decide_and]; congr 1; apply propext; omega
theorem ZjE (d:ZX):Ea d=Uh d:=by
 simp only [Ea,Uh,Zrk]
 by_cases h1:d.Op=1
 ·simp [h1]; ac_rfl
 by_cases h2:d.Op=2
 ·simp [h2,Bool.and_comm]
 by_cases h5:d.Op=5
 ·simp [h5,Bool.and_comm]
 by_cases h3:d.Op=3
 ·simp [h3]
 by_cases h4:d.Op=4
 ·simp [h4]
 simp [h1,h2,h3,h4,h5]
theorem CQ (d:ZX):Zkp d=XJ d:=by
 simp only [Zkp,XJ,ZjE,Zo2,Zo3,ZfY]
 by_cases hu:Uh d=true
 ·simp only [hu]
  by_cases h1:d.Op=1
  ·simp [h1]
  by_cases h2:d.Op=2
  ·simp only [h2,btw]; simp; grind
  by_cases h3:d.Op=3
  ·simp only [h3]
   by_cases hl:d.Values.length=d.Weights.length
   ·rw [Zm1 _ _ hl]; simp
   ·have:¬ ((d.Values.length:Int)=d.Weights.length):=by omega
    simp [this]
  by_cases h4:d.Op=4
  ·simp only [h4,btw]; simp; grind
  by_cases h5:d.Op=5
  ·simp [h5]
  ·exfalso
   simp [Uh,h1,h2,h3,h4,h5] at hu
 ·simp [hu]
theorem ZnH (s:Zz):Zru s=Zlf s:=by
 have n1:=ZbW s.Name
 have n2:=ZbW s.Of
 unfold Zru Zlf Zmr
 rw [Zkw,CQ]
 generalize Iq s.Op=w
 obtain ⟨u,b⟩:=w
 simp only
 have key:(if (decide (PQ s u=0) && u.dist)=true then XJ s.Dist else PQ s u)=Zjk s u:=by
  have ha:=Ap s u s.Args
  unfold PQ Zjk Zjl Zjj
  rcases Bool.eq_false_or_eq_true u.e with h1 | h1 <;> rcases Bool.eq_false_or_eq_true u.f with h3 | h3 <;> rcases Bool.eq_false_or_eq_true (decide (6 < (s.Args.length:Int))) with h5 | h5 <;> by_cases h2:WC false s.E=0 <;> by_cases h4:WC false s.F=0 <;>
   simp only [h1,h2,h3,h4,h5,ne_eq,not_true_eq_false,not_false_eq_true,decide_true,decide_false,BL,IFJ,FY,Bool.false_eq_true,if_true,if_false] <;> first | exact ha | (simp [FY,h2,h4]; done) | rfl
 rw [key]
 rcases n1 with h1 | h1 <;> rcases n2 with h2 | h2 <;> cases b <;> cases Zkx s u <;> cases u.name <;> cases u.of <;> simp [h1,h2]
mutual
def Zo8:Zz→Int
 | ⟨_,_,_,_,_,_,_,_,b,e⟩=>IntKind.i64.wrap (OQ b (b.length:Int) + OQ e (e.length:Int))
def OQ:List Zz→Int→Int
 | [],n=>n
 | x :: r,n=>OQ r (IntKind.i64.wrap (n + Zo8 x))
end
mutual
def Zo9:Zz→Int→Int
 | ⟨_,_,_,_,_,_,_,_,b,e⟩,n=>IntKind.i64.wrap (IntKind.i64.wrap (IntKind.i64.wrap (n + 1) + Jn b 0) + Jn e 0)
def Jn:List Zz→Int→Int
 | [],n=>n
 | x :: r,n=>Jn r (Zo9 x n)
end
theorem ZhO (s:Zz)(n:Int):Zo9 s n=IntKind.i64.wrap (IntKind.i64.wrap (IntKind.i64.wrap (n + 1) + Jn s.Body 0) + Jn s.Else 0):=by cases s; rw [Zo9]
def mx3 (a b c:Int):Int:=if c > (if b > a then b else a) then c else (if b > a then b else a)
mutual
def ZqM:Zz→Int→Int
 | ⟨_,_,_,_,_,_,_,_,b,e⟩,n=>mx3 n (IntKind.i64.wrap (1 + PH b 0)) (IntKind.i64.wrap (1 + PH e 0))
def PH:List Zz→Int→Int
 | [],n=>n
 | x :: r,n=>PH r (ZqM x n)
end
theorem ZmX (s:Zz)(n:Int):ZqM s n=mx3 n (IntKind.i64.wrap (1 + PH s.Body 0)) (IntKind.i64.wrap (1 + PH s.Else 0)):=by cases s; rw [ZqM]
mutual
def Zqy:Zz→Int
 | ⟨a,b,c,d,e,f,g,h,i,j⟩=>if decide (Zlf ⟨a,b,c,d,e,f,g,h,i,j⟩≠0)=true then Zlf ⟨a,b,c,d,e,f,g,h,i,j⟩ else if decide (KQ i≠0)=true then KQ i else KQ j
def KQ:List Zz→Int
 | []=>0
 | x :: r=>if decide (Zqy x≠0)=true then Zqy x else KQ r
end
theorem ZmP (s:Zz):Zqy s=if decide (Zlf s≠0)=true then Zlf s else if decide (KQ s.Body≠0)=true then KQ s.Body else KQ s.Else:=by cases s; rw [Zqy]
theorem ZmO (p B E R:Int):(if decide (p=0)=true then (if decide (B=0)=true then (if decide (E≠0)=true then E else R) else if decide (B≠0)=true then B else R) else if decide (p≠0)=true then p else R) =
  if decide ((if decide (p≠0)=true then p else if decide (B≠0)=true then B else E)≠0)=true then (if decide (p≠0)=true then p else if decide (B≠0)=true then B else E) else R:=by
 by_cases h1:p=0 <;> by_cases h2:B=0 <;> by_cases h3:E=0 <;> simp [h1,h2,h3]
theorem Zr5 {s:Zz}{l:List Zz}(h:s ∈ l):SizeOf.sizeOf s < SizeOf.sizeOf l∧SizeOf.sizeOf s.Body < SizeOf.sizeOf l∧SizeOf.sizeOf s.Else < SizeOf.sizeOf l:=by
 have:=List.sizeOf_lt_of_mem h
 have:=ZoH s
 omega
def Zhw (l:List Zz):Prop:=l.length≤4611686018427387∧∀ s ∈ l,Yo s
theorem Yo.b {s:Zz}(h:Yo s):Zhw s.Body∧Zhw s.Else:=by
 have h1:=h.Body; have h2:=h.Else
 exact ⟨⟨by omega,h1.2⟩,by omega,h2.2⟩
theorem Zr6 (l:List Zz):0 < SizeOf.sizeOf l:=by cases l <;> simp <;> omega
def Zb6 (l:List Zz):Int:=if decide (200 < OQ l (l.length:Int))=true then 6 else if decide (12 < PH l 0)=true then 11 else KQ l
def Zdi (l:List Zz):Int:=if decide (200 < Jn l 0)=true then 6 else if decide (12 < PH l 0)=true then 11 else KQ l
theorem wrK (n:Int):∃ k:Int,IntKind.i64.wrap n=n + 18446744073709551616 * k:=by
 rw [IntKind.wrap_i64]
 exact ⟨-((n + 9223372036854775808) / 18446744073709551616),by omega⟩
theorem wrR (n:Int):-9223372036854775808≤IntKind.i64.wrap n∧IntKind.i64.wrap n≤9223372036854775807:=by
 rw [IntKind.wrap_i64]
 constructor <;> omega
mutual
def trS:Zz→Int
 | ⟨_,_,_,_,_,_,_,_,b,e⟩=>ZlD b + ZlD e
def ZlD:List Zz→Int
 | []=>0
 | x :: r=>1 + trS x + ZlD r
end
mutual
theorem trR:∀ (s:Zz) (n:Int),∃ k:Int,Zo9 s n=n + 1 + trS s + 18446744073709551616 * k
 | ⟨_,_,_,_,_,_,_,_,b,e⟩,n=>by
  rw [Zo9,trS]
  obtain ⟨k1,h1⟩:=Zq8 b 0
  obtain ⟨k2,h2⟩:=Zq8 e 0
  obtain ⟨k3,h3⟩:=wrK (n + 1)
  obtain ⟨k4,h4⟩:=wrK (IntKind.i64.wrap (n + 1) + Jn b 0)
  obtain ⟨k5,h5⟩:=wrK (IntKind.i64.wrap (IntKind.i64.wrap (n + 1) + Jn b 0) + Jn e 0)
  exact ⟨k1 + k2 + k3 + k4 + k5,by omega⟩
theorem Zq8:∀ (l:List Zz) (n:Int),∃ k:Int,Jn l n=n + ZlD l + 18446744073709551616 * k
 | [],n=>⟨0,by rw [Jn,ZlD]; omega⟩
 | x :: r,n=>by
  rw [Jn,ZlD]
  obtain ⟨k1,h1⟩:=trR x n
  obtain ⟨k2,h2⟩:=Zq8 r (Zo9 x n)
  exact ⟨k1 + k2,by omega⟩
end
mutual
theorem trP:∀ (s:Zz),∃ k:Int,Zo8 s=trS s + 18446744073709551616 * k
 | ⟨_,_,_,_,_,_,_,_,b,e⟩=>by
  rw [Zo8,trS]
  obtain ⟨k1,h1⟩:=Zq7 b b.length
  obtain ⟨k2,h2⟩:=Zq7 e e.length
  obtain ⟨k3,h3⟩:=wrK (OQ b (b.length:Int) + OQ e (e.length:Int))
  exact ⟨k1 + k2 + k3,by omega⟩
theorem Zq7:∀ (l:List Zz) (n:Int),∃ k:Int,OQ l n=n - l.length + ZlD l + 18446744073709551616 * k
 | [],n=>⟨0,by rw [OQ,ZlD]; simp⟩
 | x :: r,n=>by
  rw [OQ,ZlD]
  obtain ⟨k1,h1⟩:=trP x
  obtain ⟨k3,h3⟩:=wrK (n + Zo8 x)
  obtain ⟨k2,h2⟩:=Zq7 r (IntKind.i64.wrap (n + Zo8 x))
  refine ⟨k1 + k2 + k3,?_⟩
  simp only [List.length_cons]
  omega
end
theorem rgR:∀ (l:List Zz) (n:Int),-9223372036854775808≤n→n≤9223372036854775807→-9223372036854775808≤Jn l n∧Jn l n≤9223372036854775807
 | [],n,h1,h2=>by rw [Jn]; exact ⟨h1,h2⟩
 | x :: r,n,_,_=>by
  have h:=wrR (IntKind.i64.wrap (IntKind.i64.wrap (n + 1) + Jn x.Body 0) + Jn x.Else 0)
  rw [← ZhO] at h
  rw [Jn]
  exact rgR r _ h.1 h.2
theorem rgP:∀ (l:List Zz) (n:Int),-9223372036854775808≤n→n≤9223372036854775807→-9223372036854775808≤OQ l n∧OQ l n≤9223372036854775807
 | [],n,h1,h2=>by rw [OQ]; exact ⟨h1,h2⟩
 | x :: r,n,_,_=>by
  have h:=wrR (n + Zo8 x)
  rw [OQ]
  exact rgP r _ h.1 h.2
theorem ZoV (l:List Zz)(hl:l.length≤4611686018427387):Jn l 0=OQ l (l.length:Int):=by
 obtain ⟨k1,h1⟩:=Zq8 l 0
 obtain ⟨k2,h2⟩:=Zq7 l l.length
 have r1:=rgR l 0 (by omega) (by omega)
 have r2:=rgP l l.length (by omega) (by omega)
 omega
theorem Zg0 (l:List Zz)(hl:l.length≤4611686018427387):Zdi l=Zb6 l:=by
 unfold Zdi Zb6
 rw [ZoV l hl]
def XE (a b:Int):Int:=if decide (a≠0)=true then a else b
def YR (b:Bool)(e:Int):Int:=if b=true then 0 else e
def fitsT (t n:Int):Bool:=if decide (t=1)=true then inB n else if decide (t=2)=true then (decide (n=0) || decide (n=1)) else if decide (t=3)=true then btw n 0 1000000000 else false
def ZcE (t:Int):Bool:=decide (t=1) || decide (t=2) || decide (t=3)
theorem Zga (t:Int):ZcE t=btw t 1 3:=by
 simp only [ZcE,btw]
 by_cases h1:t=1
 ·simp [h1]
 by_cases h2:t=2
 ·simp [h2]
 by_cases h3:t=3
 ·simp [h3]
 simp only [h1,h2,h3,decide_false,Bool.or_false]
 by_cases h4:1≤t <;> by_cases h5:t≤3 <;> simp [h4,h5]
 omega
def ZoG (cyc:Int):Option Int→List V5→Int
 | _,[]=>0
 | p,c :: r=>if (!(btw c.At_ 0 (cyc - 1)) || !(btw c.Units 0 1000))=true then 2 else if (p.isSome && decide (c.At_≤p.getD 0))=true then 12 else ZoG cyc (some c.At_) r
def Zop (d:Zv):Int :=
 if decide ((d.Shift.length:Int)=0)=true then (if decide (d.Cycle≠0)=true then 1 else 0)
 else if decide (20 < (d.Shift.length:Int))=true then 6 else if (!(btw d.Cycle 1 1000000000))=true then 2 else ZoG d.Cycle none d.Shift
theorem Wj.s {d:Zv}(h:Wj d):d.Shift.length≤4611686018427387:=by have:=h.Shift.1; omega
theorem YS.st {d:Zm}(h:YS d):d.Streams.length≤4611686018427387∧d.Counts.length≤4611686018427387∧d.Stores.length≤4611686018427387∧d.Routines.length≤4611686018427387:=by
 have:=h.Streams.1; have:=h.Counts.1; have:=h.Stores.1; have:=h.Routines.1; omega
def ZlX (d:Zm)(f:LU):Int :=
 if (decide (f.Stream=[]) && (!(KI f.Up) || !(KI f.Down)))=true then 1 else if decide (f.Stream=[])=true then 0 else if (!(d.Streams.contains f.Stream))=true then 5 else if decide (XJ f.Up≠0)=true then XJ f.Up else XJ f.Down
def Zr1 (s:Zm)(d:Zv):Int :=
 if decide (XE (YR (btw d.Units 0 1000) 2) (Zop d)≠0)=true then XE (YR (btw d.Units 0 1000) 2) (Zop d)
 else if decide (d.Fault.Stream=[])=true then YR (KI d.Fault.Up && KI d.Fault.Down) 1
 else if (!(s.Streams.contains d.Fault.Stream))=true then 5 else XE (XJ d.Fault.Up) (XJ d.Fault.Down)
def ZpZ (s:Zm)(d:Zv):Int:=if (!(btw d.Units 0 1000))=true then 2 else if decide (Zop d≠0)=true then Zop d else ZlX s d.Fault
theorem Zom (s:Zm)(d:Zv):Zr1 s d=ZpZ s d:=by
 unfold Zr1 ZpZ ZlX XE YR
 cases btw d.Units 0 1000 <;> by_cases h1:Zop d=0 <;> by_cases h2:d.Fault.Stream=[] <;> cases KI d.Fault.Up <;> cases KI d.Fault.Down <;> cases s.Streams.contains d.Fault.Stream <;> simp [h1,h2]
def FZ (tl:Int):List Vg→List Int→Int
 | p :: ps,a :: ys=>if (!(fitsT p.Ty a))=true then 2 else FZ tl ps ys
 | _,_=>tl
theorem FO.a {s:O4}(h:FO s):s.Args.length≤4611686018427387:=by have:=h.Args.1; omega
theorem KW.p {r:Wu}(h:KW r):r.Params.length≤4611686018427387∧r.Locals.length≤4611686018427387∧Zhw r.Body:=by
 have:=h.Params.1; have:=h.Locals.1; have:=h.Body
 exact ⟨by omega,by omega,by omega,this.2⟩
abbrev Seen:=List (List UInt8)
def Ig (s:List UInt8)(seen:Seen):Int×Seen:=if decide (V8 s≠0)=true then (V8 s,seen) else if seen.contains s=true then (4,seen) else (0,seen ++ [s])
def UV (s:List UInt8)(rest:Int)(seen:Seen):Int×Seen:=if decide ((Ig s seen).1≠0)=true then Ig s seen else (rest,(Ig s seen).2)
def Zge (v:Kw):Int:=if (!(btw v.Ty 1 3))=true then 1 else if (!(fitsT v.Ty v.N))=true then 2 else 0
def ZfW (x:WA):Int:=if (!(btw x.Room 1 1000))=true then 2 else if (decide (x.Policy < 1) || decide (3 < x.Policy))=true then 1 else 0
def ZjY (x:Qn):Int:=if (!(btw x.Length 1 1000) || !(btw x.Step 1 1000))=true then 2 else 0
def ZmZ {α σ:Type}(most:Int)(step:α→σ→Int×σ)(l:List α)(s:σ):Int×σ:=if decide (most < (l.length:Int))=true then (6,s) else U2 step l s
def ZbF (f:Vg):Int:=if (!(btw f.Ty 1 3))=true then 1 else 0
def Zib (l:List Vg)(s:Seen):Int×Seen:=U2 (fun f:Vg=>UV f.Name (ZbF f)) l s
def TC (r:Wu):Int :=
 if (decide (6 < (r.Params.length:Int)) || decide (16 < (r.Params.length:Int) + (r.Locals.length:Int)))=true then 6
 else if decide ((Zib (r.Params ++ r.Locals) []).1≠0)=true then (Zib (r.Params ++ r.Locals) []).1 else Zb6 r.Body
theorem ZjV.t {l:ZjS}(h:ZjV l):l.Terms.length≤4611686018427387:=by have:=h.Terms.1; omega
abbrev Step:=Seen→Int×Seen
theorem Zhv.l {m:Dn}(h:Zhv m):m.Params.length≤4611686018427387∧m.Sites.length≤4611686018427387∧m.Links.length≤4611686018427387:=by
 have:=h.Params.1; have:=h.Sites.1; have:=h.Links.1; omega
def RG (s:List UInt8)(seen:Seen):Int:=XE (V8 s) (YR (!(seen.contains s)) 4)
theorem ZeF (s:List UInt8)(rest:Int)(seen:Seen):(UV s rest seen).1=XE (RG s seen) rest:=by
 by_cases h1:V8 s=0 <;> rcases Bool.eq_false_or_eq_true (seen.contains s) with h2 | h2 <;> simp only [UV,Ig,RG,XE,YR,h1,h2] <;> simp [h1]
theorem Zo0 {s:List UInt8}{rest:Int}{seen:Seen}(h:XE (RG s seen) rest=0):(UV s rest seen)=(0,seen ++ [s]):=by
 by_cases h1:V8 s=0 <;> rcases Bool.eq_false_or_eq_true (seen.contains s) with h2 | h2 <;> simp only [RG,XE,YR,h1,h2] at h <;> simp [h1] at h
 simp only [UV,Ig,h1,h2]
 simp [h]
theorem Zpg (f:Vg):YR (ZcE f.Ty) 1=ZbF f:=by
 rw [Zga]; unfold YR ZbF; cases btw f.Ty 1 3 <;> rfl
def V7 (d:Zm):List (Int×List (List UInt8×Int)):=[(32,d.Vars.map fun v=>(v.Name,Zge v)),(32,d.Resources.map fun v=>(v.Name,ZpZ d v)),(32,d.Stores.map fun v=>(v.Name,ZfW v)),(32,d.Belts.map fun v=>(v.Name,ZjY v)),(32,d.Queues.map fun v=>(v,0)),(32,d.Streams.map fun v=>(v,0)),(32,d.Tallies.map fun v=>(v,0)),(32,d.Levels.map fun v=>(v,0)),(32,d.Counts.map fun v=>(v,0)),(16,d.Routines.map fun v=>(v.Name,TC v))]
theorem Zqk (x:WA):XE (YR (btw x.Room 1 1000) 2) (YR (decide (1≤x.Policy) && decide (x.Policy≤3)) 1)=ZfW x:=by
 unfold XE YR ZfW
 have e:(decide (x.Policy < 1) || decide (3 < x.Policy))=!(decide (1≤x.Policy) && decide (x.Policy≤3)):=by
  have a1:decide (x.Policy < 1)=!decide (1≤x.Policy):=by rw [← decide_not]; congr 1; apply propext; omega
  have a2:decide (3 < x.Policy)=!decide (x.Policy≤3):=by rw [← decide_not]; congr 1; apply propext; omega
  rw [Bool.not_and,a1,a2]
 rw [e]
 cases btw x.Room 1 1000 <;> cases (decide (1≤x.Policy) && decide (x.Policy≤3)) <;> simp
theorem ZqF (x:Qn):YR (btw x.Length 1 1000 && btw x.Step 1 1000) 2=ZjY x:=by
 unfold YR ZjY; cases btw x.Length 1 1000 <;> cases btw x.Step 1 1000 <;> rfl
theorem valueR (v:Kw):XE (YR (ZcE v.Ty) 1) (YR (fitsT v.Ty v.N) 2)=Zge v:=by
 rw [Zga]; unfold XE YR Zge; cases btw v.Ty 1 3 <;> cases fitsT v.Ty v.N <;> rfl
theorem Ue {α β:Type}{f:α→β}{l:List α}{i:Nat}{y:β}(h:(l.map f)[i]? = some y):∃ x,l[i]? = some x∧f x=y:=by
 rw [List.getElem?_map] at h
 exact Option.map_eq_some_iff.1 h
theorem kd (k:Nat):(∀ j:Nat,k=j→decide (((k:Nat):Int)=(j:Int))=true)∧(∀ j:Nat,k≠j→decide (((k:Nat):Int)=(j:Int))=false):=⟨fun j h=>by simp [h],fun j h=>by simp only [decide_eq_false_iff_not]; omega⟩
def LH (q:List UInt8×Int):Seen→Int×Seen:=UV q.1 q.2
def stepD (p:Int×List (List UInt8×Int)):Seen→Int×Seen:=ZmZ p.1 LH p.2
theorem Zg4 (d:Zm):∀ (k:Nat) (p:Int×List (List UInt8×Int)),(V7 d)[k]? = some p→p.1=if k=9 then 16 else 32
 | 0,p,h=>by cases h; rfl
 | 1,p,h=>by cases h; rfl
 | 2,p,h=>by cases h; rfl
 | 3,p,h=>by cases h; rfl
 | 4,p,h=>by cases h; rfl
 | 5,p,h=>by cases h; rfl
 | 6,p,h=>by cases h; rfl
 | 7,p,h=>by cases h; rfl
 | 8,p,h=>by cases h; rfl
 | 9,p,h=>by cases h; rfl
 | k + 10,p,h=>by simp [V7] at h
theorem ZfQ:∀ (l:List (List UInt8×Int)) (s:Seen),(U2 LH l s).2.length≤s.length + l.length
 | [],s=>by simp [U2]
 | x :: r,s=>by
  have ih:=ZfQ r (LH x s).2
  have h1:(LH x s).2.length≤s.length + 1:=by
   unfold LH UV
   split
   ·unfold Ig; split <;> (try split) <;> simp
   ·show (Ig x.1 s).2.length≤_
    unfold Ig; split <;> (try split) <;> simp
  rw [U2]
  split
  ·simp; omega
  ·simp; omega
theorem Zo1 {s:List UInt8}{rest:Int}{seen:Seen}(h:(UV s rest seen).1=0):(UV s rest seen).2=seen ++ [s]∧s ∉ seen∧rest=0:=by
 rw [ZeF] at h
 have w:=Zo0 h
 refine ⟨by rw [w],?_,?_⟩
 ·intro hm
  have:seen.contains s=true:=by simpa using hm
  simp only [RG,this,XE,YR] at h
  by_cases h1:V8 s=0 <;> simp [h1] at h
 ·by_cases h1:RG s seen=0
  ·simpa [XE,h1] using h
  ·simp [XE,h1] at h
def ZbX (p:Int×List (List UInt8×Int)):List (List UInt8):=p.2.map (·.1)
end Go.Proofs.YtleomfgijkapfaaGreatDoor
end
