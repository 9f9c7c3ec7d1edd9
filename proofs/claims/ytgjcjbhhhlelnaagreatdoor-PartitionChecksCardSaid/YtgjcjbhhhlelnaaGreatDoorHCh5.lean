import Derived.Test.YtgjcjbhhhlelnaaGreatDoorHCh4
set_option linter.all false
section
namespace Go.Proofs.YtgjcjbhhhlelnaaGreatDoor
open Go Go.Proofs.YtgjcjbhhhlelnaaGreatDoor.Abs
set_option maxRecDepth 100000
def Zuv (n:Int):Bool:=decide (97≤n) && decide (n≤122)
def Zg5 (n:Int):Bool:=Zuv n || decide (n=95) || (decide (48≤n) && decide (n≤57))
def kws:List (List UInt8):=[[97,100,100],[97,102,116,101,114],[97,110,100],[97,116],[98,101,108,116],[98,111,111,108],[99,111,110,115,101,114,118,101],[99,111,110,115,116],[99,111,117,110,116],[99,121,99,108,101],[100,111,119,110],[100,114,97,119],[100,117,114],[101,108,115,101],[101,110,100],[101,118,101,114,121],[102,97,108,115,101],[102,97,117,108,116],[102,105,102,111],[102,114,101,101],[102,114,111,109],[103,101,111,109],[103,101,116],[104,111,108,100],[105,102],[105,110,116],[105,110,116,111],[108,101,97,115,116],[108,101,118,101,108],[108,105,102,111],[108,105,110,107],[108,111,99,97,108],[109,97,120],[109,105,110],[109,111,100,101,108],[110,111,116],[110,111,119],[111,98,115,101,114,118,101],[111,114],[112,97,114,97,109],[112,114,101,101,109,112,116],[112,114,105,111],[112,117,116],[113,117,101,117,101],[114,101,108,101,97,115,101],[114,101,115,111,117,114,99,101],[114,105,100,101],[114,111,117,116,105,110,101],[115,101,105,122,101],[115,101,110,100],[115,101,116],[115,104,105,102,116],[115,105,103,110,97,108],[115,105,116,101],[115,105,122,101],[115,112,97,119,110],[115,116,97,114,116],[115,116,111,112],[115,116,111,114,101],[115,116,114,101,97,109],[115,117,109],[116,97,98,108,101],[116,97,108,108,121],[116,105,99,107,115],[116,105,109,101],[116,114,117,101],[117,110,105,102,111,114,109],[117,110,116,105,108],[117,112],[118,97,114],[119,97,105,116],[119,97,105,116,105,110,103],[119,104,105,108,101]]
def kwB (s:List UInt8):Bool:=kws.any fun k=>decide (s=k)
def V9 (s:List UInt8):Int :=
 match s with
 | []=>3
 | c :: r=>if 24 < (c :: r).length∨Zuv c.toNat=false∨kwB (c :: r)=true then 3 else if (c :: r).all (fun x=>Zg5 x.toNat) then 0 else 3
def inB (n:Int):Bool:=decide (-1000000000000≤n) && decide (n≤1000000000000)
theorem ZiK (s:List UInt8):V9 s=0∨V9 s=3:=by
 unfold V9
 split
 ·exact .inr rfl
 ·split
  ·exact .inr rfl
  ·split
   ·exact .inl rfl
   ·exact .inr rfl
def YL {α σ:Type}(step:α→σ→Int×σ):List α→σ→Int×σ
 | [],s=>(0,s)
 | x :: r,s=>if decide ((step x s).1≠0)=true then step x s else YL step r (step x s).2
def Dx {σ:Type}:List (σ→Int×σ)→σ→Int×σ
 | [],s=>(0,s)
 | f :: r,s=>if decide ((f s).1≠0)=true then f s else Dx r (f s).2
theorem Z0Q {n:Int}(h1:-9223372036854775808≤n)(h2:n≤9223372036854775807):IntKind.i64.wrap n=n:=i64_in h1 h2
def ZpK (a b:YX):Bool:=decide (a.Op=b.Op) && decide (a.A=b.A) && decide (a.B=b.B) && decide (a.N=b.N) && decide (a.Values=b.Values) && decide (a.Weights=b.Weights)
def btw (x lo hi:Int):Bool:=decide (lo≤x) && decide (x≤hi)
def Ec (d:YX):Bool :=
 if decide (d.Op=1)=true then decide ((d.Values.length:Int) + d.Weights.length=0) && decide (d.B=0) && decide (d.N=0)
 else if decide (d.Op=2)=true then decide ((d.Values.length:Int) + d.Weights.length=0) && decide (d.N=0)
 else if decide (d.Op=5)=true then decide ((d.Values.length:Int) + d.Weights.length=0) && decide (d.N=0)
 else if decide (d.Op=4)=true then decide ((d.Values.length:Int) + d.Weights.length=0)
 else if decide (d.Op=3)=true then decide (d.A=0) && decide (d.B=0) && decide (d.N=0)
 else false
theorem JB.v {d:YX}(h:JB d):d.Values.length≤4611686018427387:=by have:=h.Values.1; omega
theorem JB.w {d:YX}(h:JB d):d.Weights.length≤4611686018427387:=by have:=h.Weights.1; omega
theorem JB.wr {d:YX}(h:JB d):IntKind.i64.wrap ((d.Values.length:Int) + (d.Weights.length:Int))=(d.Values.length:Int) + (d.Weights.length:Int):=by
 have:=h.v; have:=h.w; exact Z0Q (by omega) (by omega)
def Ze0 (d:YX):Bool :=
 if decide (d.Op=1)=true then decide (d.B=0) && decide (d.N=0) && (decide ((d.Values.length:Int)=0) && decide ((d.Weights.length:Int)=0))
 else if decide (d.Op=2)=true then decide (d.N=0) && (decide ((d.Values.length:Int)=0) && decide ((d.Weights.length:Int)=0))
 else if decide (d.Op=5)=true then decide (d.N=0) && (decide ((d.Values.length:Int)=0) && decide ((d.Weights.length:Int)=0))
 else if decide (d.Op=3)=true then decide (d.A=0) && decide (d.B=0) && decide (d.N=0)
 else if decide (d.Op=4)=true then (decide ((d.Values.length:Int)=0) && decide ((d.Weights.length:Int)=0))
 else false
def Zu3 (lo hi:Int)(x:Int):Bool:=decide (x < lo) || decide (hi < x)
def GG {α:Type}(f:α→Bool):List α→Int→Int
 | [],_=>-1
 | x :: r,i=>if f x=true then i else GG f r (i + 1)
theorem Ci {α:Type}(f:α→Bool):∀ (l:List α) (i:Int),0≤i→decide (0≤GG f l i)=l.any f
 | [],i,h=>by simp [GG]
 | x :: r,i,h=>by
  have ih:=Ci f r (i + 1) (by omega)
  cases hx:f x <;> simp [GG,hx,h]
  simpa using ih
def Qa (lo hi:Int)(l:List Int):Bool:=!(l.any (Zu3 lo hi))
def LM (d:YX):Int :=
 if (!(Ec d))=true then 1
 else if decide (d.Op=1)=true then (if (!(Qa 0 1000000000 [d.A]))=true then 2 else 0)
 else if decide (d.Op=2)=true then (if (!(Qa 0 1000000000 [d.A,d.B] && decide (d.A≤d.B)))=true then 2 else 0)
 else if decide (d.Op=4)=true then (if (!(Qa 1 20 [d.N] && Qa 0 1000000 [d.A,d.B] && decide (d.A≤d.B)))=true then 2 else 0)
 else if decide (d.Op=5)=true then (if (!(Qa 1 1000 [d.A,d.B]))=true then 2 else 0)
 else if decide (d.Op=3)=true then
  (if decide ((d.Values.length:Int)≠(d.Weights.length:Int))=true then 8 else if decide ((d.Values.length:Int)=0)=true then 7 else if decide (20 < (d.Values.length:Int))=true then 6
   else if (!(Qa 0 1000000000 d.Values && Qa 1 1000 d.Weights))=true then 2 else 0)
 else 2
def ZuG:List Int→List Int→Int
 | x :: r,y :: s=>if (!(btw x 0 1000000000) || !(btw y 1 1000))=true then 2 else ZuG r s
 | _,_=>0
def Zn0 (d:YX):Int :=
 if decide ((d.Values.length:Int)≠(d.Weights.length:Int))=true then 8 else if decide ((d.Values.length:Int)=0)=true then 7 else if decide (20 < (d.Values.length:Int))=true then 6 else ZuG d.Values d.Weights
def Zst (d:YX):Int :=
 if (!(Ze0 d))=true then 1
 else if decide (d.Op=1)=true then (if (!(btw d.A 0 1000000000))=true then 2 else 0)
 else if decide (d.Op=2)=true then (if (!(btw d.A 0 d.B && decide (d.B≤1000000000)))=true then 2 else 0)
 else if decide (d.Op=3)=true then Zn0 d
 else if decide (d.Op=4)=true then (if (!(btw d.N 1 20 && btw d.A 0 d.B && decide (d.B≤1000000)))=true then 2 else 0)
 else if decide (d.Op=5)=true then (if (!(btw d.A 1 1000 && btw d.B 1 1000))=true then 2 else 0)
 else 0
def ZqC (op:Int):Bool:=decide (22≤op) && decide (op≤24)
def ZiD (op:Int):Int :=
 if (decide (op=1) || decide (op=2) || decide (op=3) || decide (op=4))=true then 0
 else if (decide (5≤op) && decide (op≤8))=true then 1
 else if (decide (9≤op) && decide (op≤21))=true then 2
 else if (decide (22≤op) && decide (op≤26))=true then 0 else -1
def Zdd (code:Bool)(op:Int):Bool :=
 if decide (op=3)=true then !code else if decide (op=25)=true then code else if decide (op=26)=true then code else decide (0≤ZiD op)
def ZfJ (code:Bool)(op:Int):Bool:=decide (op=3) || (ZqC op && !code)
def ZrN (code:Bool)(op:Int):Int×Int×Bool :=
 if decide (op=2)=true then (0,1,true) else if decide (op=25)=true then (0,15,true) else if decide (op=26)=true then (0,31,true) else if (ZqC op && code)=true then (0,63,true) else (0,0,false)
def Zb0 (code:Bool)(e:Zu):Int :=
 if (!(Zdd code e.Op) || decide ((e.Kids.length:Int)≠ZiD e.Op) || (decide (e.Name≠[]) && !(ZfJ code e.Op)))=true then 1
 else if decide (e.Op=1)=true then (if (!(inB e.N))=true then 2 else 0)
 else if (!(ZrN code e.Op).2.2 && decide (e.N≠0))=true then 1
 else if ((ZrN code e.Op).2.2 && (decide (e.N < (ZrN code e.Op).1) || decide ((ZrN code e.Op).2.1 < e.N)))=true then 2
 else if ZfJ code e.Op=true then V9 e.Name else 0
theorem ES {x e:Zu}(h:x ∈ e.Kids):SizeOf.sizeOf x < SizeOf.sizeOf e:=by
 cases e
 have:=List.sizeOf_lt_of_mem h
 simp at *
 omega
theorem PW (e:Zu):0 < SizeOf.sizeOf e:=by cases e; simp; omega
theorem Yi.k {e:Zu}(h:Yi e):e.Kids.length≤4611686018427387:=by have:=h.Kids.1; omega
theorem Yi.n {e:Zu}(h:Yi e):e.Name.length≤140737488351232:=h.Name
mutual
def JE (code:Bool):Zu→Int
 | ⟨o,a,n,ks⟩=>if decide (Zb0 code ⟨o,a,n,ks⟩≠0)=true then Zb0 code ⟨o,a,n,ks⟩ else Zdm code ks
def Zdm (code:Bool):List Zu→Int
 | []=>0
 | x :: r=>if decide (JE code x≠0)=true then JE code x else Zdm code r
end
theorem ZfK (code:Bool):∀ l:List Zu,Zdm code l=Yk (JE code) l
 | []=>by rw [Zdm]; rfl
 | x :: r=>by rw [Zdm,ZfK code r]; rfl
theorem Zdl (code:Bool)(e:Zu):JE code e=if decide (Zb0 code e≠0)=true then Zb0 code e else Yk (JE code) e.Kids:=by
 cases e; rw [JE,ZfK]
mutual
def ZpA:Zu→Int
 | ⟨_,_,_,ks⟩=>ZpC ks 1
def ZpC:List Zu→Int→Int
 | [],n=>n
 | x :: r,n=>ZpC r (IntKind.i64.wrap (n + ZpA x))
end
theorem Zm0:∀ (l:List Zu) (n:Int),ZpC l n=sumW ZpA l n
 | [],n=>by rw [ZpC]; rfl
 | x :: r,n=>by rw [ZpC,Zm0 r]; rfl
theorem ZpB (e:Zu):ZpA e=sumW ZpA e.Kids 1:=by cases e; rw [ZpA,Zm0]
mutual
def ZoW:Zu→Int
 | ⟨_,_,_,ks⟩=>IntKind.i64.wrap (ZpJ ks 0 + 1)
def ZpJ:List Zu→Int→Int
 | [],n=>n
 | x :: r,n=>ZpJ r (if ZoW x > n then ZoW x else n)
end
theorem Zm5:∀ (l:List Zu) (n:Int),ZpJ l n=ZsW ZoW l n
 | [],n=>by rw [ZpJ]; rfl
 | x :: r,n=>by rw [ZpJ,Zm5 r]; rfl
theorem ZpI (e:Zu):ZoW e=IntKind.i64.wrap (ZsW ZoW e.Kids 0 + 1):=by cases e; rw [ZoW,Zm5]
def Zk1 (a b:Zu):Bool:=decide (a.Op≠b.Op) || decide (a.Name≠b.Name) || decide (a.N≠b.N)
mutual
def A8:Zu→Zu→Bool
 | ⟨o,a,n,ks⟩,e=>if (Zk1 ⟨o,a,n,ks⟩ e || decide ((ks.length:Int)≠(e.Kids.length:Int)))=true then false else ZdS ks e.Kids
def ZdS:List Zu→List Zu→Bool
 | x :: r,y :: s=>if (!(A8 x y))=true then false else ZdS r s
 | _,_=>true
end
theorem ZjP:∀ l m:List Zu,ZdS l m=all2 A8 l m
 | [],[]=>by rw [ZdS] <;> simp [all2]
 | [],y :: s=>by rw [ZdS] <;> simp [all2]
 | x :: r,[]=>by rw [ZdS] <;> simp [all2]
 | x :: r,y :: s=>by rw [ZdS,ZjP r s]; rfl
theorem ZbQ (a b:Zu):A8 a b=if (Zk1 a b || decide ((a.Kids.length:Int)≠(b.Kids.length:Int)))=true then false else all2 A8 a.Kids b.Kids:=by
 cases a; rw [A8,ZjP]
def Zc6 (op:Int):Int :=
 if (decide (op < 1) || decide (26 < op))=true then -1 else if (decide (5≤op) && decide (op≤8))=true then 1 else if (decide (9≤op) && decide (op≤21))=true then 2 else 0
def Ztb (op:Int):Int:=if decide (op=25)=true then 15 else if decide (op=26)=true then 31 else 63
def ZnV (code:Bool)(e:Zu):Int :=
 if (!(decide (0≤Zc6 e.Op) && ((code && decide (e.Op≠3)) || (!code && decide (e.Op≤24)))) || (!(!code && (decide (e.Op=3) || ZqC e.Op)) && decide (e.Name≠[])) || (!(decide (e.Op=1) || decide (e.Op=2) || (code && (ZqC e.Op || decide (e.Op=25) || decide (e.Op=26)))) && decide (e.N≠0)) || decide ((e.Kids.length:Int)≠Zc6 e.Op))=true then 1
 else if ((decide (e.Op=1) && !(inB e.N)) || ((decide (e.Op=2) && decide (e.N≠0)) && decide (e.N≠1)) || ((code && (ZqC e.Op || decide (e.Op=25) || decide (e.Op=26))) && (decide (e.N < 0) || decide (Ztb e.Op < e.N))))=true then 2
 else if ((!code && (decide (e.Op=3) || ZqC e.Op)) && decide (V9 e.Name≠0))=true then V9 e.Name else 0
theorem Z1r (op:Int):1≤op∧op≤26→op=1∨op=2∨op=3∨op=4∨op=5∨op=6∨op=7∨op=8∨op=9∨op=10∨op=11∨op=12∨op=13∨op=14∨op=15∨op=16∨op=17∨op=18∨op=19∨op=20∨op=21∨op=22∨op=23∨op=24∨op=25∨op=26:=by omega
theorem ZsE (code:Bool)(e:Zu):ZnV code e=Zb0 code e:=by
 obtain ⟨op,nm,n,ks⟩:=e
 by_cases h:1≤op∧op≤26
 ·rcases Z1r op h with rfl | rfl | rfl | rfl | rfl | rfl | rfl | rfl | rfl | rfl | rfl | rfl | rfl | rfl | rfl | rfl | rfl | rfl | rfl | rfl | rfl | rfl | rfl | rfl | rfl | rfl <;> cases code <;> simp [ZnV,Zb0,Zc6,Ztb,ZqC,ZiD,Zdd,ZfJ,ZrN] <;> grind
 ·have h1:Zc6 op=-1:=by simp only [Zc6]; rw [if_pos]; simp; omega
  have h2:ZiD op=-1:=by
   simp only [ZiD]
   rw [if_neg (by simp; omega),if_neg (by simp; omega),if_neg (by simp; omega),if_neg (by simp; omega)]
  have h3:Zdd code op=false:=by
   simp only [Zdd,h2]
   rw [if_neg (by simp; omega),if_neg (by simp; omega),if_neg (by simp; omega)]; rfl
  simp [ZnV,Zb0,h1,h2,h3]
theorem ZqB (code:Bool)(e:Zu):(if decide (ZnV code e≠0)=true then ZnV code e else Yk (JE code) e.Kids)=JE code e:=by rw [ZsE,← Zdl]
def Qp (code:Bool)(e:Zu):Int:=if decide (60 < ZpA e)=true then 6 else if decide (12 < ZoW e)=true then 11 else JE code e
def L9 (op:Int):Gu×Bool:=if decide (op=1)=true then (⟨true,false,true,false,false,false,false,false,false⟩,true) else if decide (op=7)=true then (⟨true,false,true,false,false,false,false,false,false⟩,true) else if decide (op=8)=true then (⟨true,false,true,false,false,false,false,false,false⟩,true) else if decide (op=12)=true then (⟨true,false,true,false,false,false,false,false,false⟩,true) else if decide (op=15)=true then (⟨true,false,true,false,false,false,false,false,false⟩,true) else if decide (op=16)=true then (⟨true,false,true,false,false,false,false,false,false⟩,true) else if decide (op=17)=true then (⟨true,false,true,false,false,false,false,false,false⟩,true) else if decide (op=2)=true then (⟨true,true,false,false,false,true,false,false,false⟩,true) else if decide (op=3)=true then (⟨false,false,true,false,false,false,false,true,true⟩,true) else if decide (op=4)=true then (⟨false,false,true,false,false,false,false,true,false⟩,true) else if decide (op=5)=true then (⟨false,false,true,false,false,false,false,false,false⟩,true) else if decide (op=6)=true then (⟨true,false,true,true,false,false,true,false,false⟩,true) else if decide (op=9)=true then (⟨true,true,false,false,false,false,false,false,false⟩,true) else if decide (op=10)=true then (⟨true,false,false,false,false,false,false,false,false⟩,true) else if decide (op=11)=true then (⟨true,false,false,false,false,false,false,false,false⟩,true) else if decide (op=13)=true then (⟨true,true,true,false,true,false,false,false,false⟩,true) else if decide (op=14)=true then (⟨true,false,true,false,true,false,false,false,false⟩,true) else if decide (op=18)=true then (⟨false,false,false,false,false,false,false,false,false⟩,true) else (⟨false,false,false,false,false,false,false,false,false⟩,false)
def F9 (e:Zu):Bool:=decide (e.Op=0) && decide (e.Name=[]) && decide (e.N=0) && decide ((e.Kids.length:Int)=0)
def Nk (d:YX):Bool:=decide (d.Op=0) && decide (d.A=0) && decide (d.B=0) && decide (d.N=0) && decide (d.Values=[]) && decide (d.Weights=[])
def Zky (s:Z8)(u:Gu):Bool :=
 (u.name || decide (s.Name=[])) && (u.of || decide (s.Of=[])) && (u.e || F9 s.E) && (u.f || F9 s.F) && (u.args || decide ((s.Args.length:Int)=0)) && (u.dist || Nk s.Dist) && (u.flag || !s.Flag) && (u.body || decide ((s.Body.length:Int)=0)) && (u.other || decide ((s.Else.length:Int)=0))
def ZpR (s:Z8):Bool :=
 (L9 s.Op).2 && ((((L9 s.Op).1.name || decide (s.Name=[])) && ((L9 s.Op).1.of || decide (s.Of=[])))) && (((L9 s.Op).1.e || F9 s.E) && ((L9 s.Op).1.f || F9 s.F) && ((L9 s.Op).1.args || decide ((s.Args.length:Int)=0))) && (((L9 s.Op).1.body || decide ((s.Body.length:Int)=0)) && ((L9 s.Op).1.other || decide ((s.Else.length:Int)=0))) && ((L9 s.Op).1.dist || Nk s.Dist) && ((L9 s.Op).1.flag || !s.Flag)
theorem Zs1 (s:Z8):ZpR s=((L9 s.Op).2 && Zky s (L9 s.Op).1):=by
 simp only [ZpR,Zky]
 generalize (L9 s.Op).1=u
 generalize (L9 s.Op).2=b
 ac_rfl
def ZeE (s:Z8)(u:Gu):List Zu→Int
 | []=>if u.dist=true then LM s.Dist else 0
 | x :: r=>if decide (Qp false x≠0)=true then Qp false x else ZeE s u r
def Znj (s:Z8)(u:Gu):Int:=if decide (6 < (s.Args.length:Int))=true then 6 else ZeE s u s.Args
def Znl (s:Z8)(u:Gu):Int:=if (!u.f)=true then Znj s u else if decide (Qp false s.F≠0)=true then Qp false s.F else Znj s u
def Znk (s:Z8)(u:Gu):Int:=if (!u.e)=true then Znl s u else if decide (Qp false s.E≠0)=true then Qp false s.E else Znl s u
def ZiZ (s:Z8)(u:Gu):Int :=
 if (u.name && decide (V9 s.Name≠0))=true then V9 s.Name else if (u.of && decide (V9 s.Of≠0))=true then V9 s.Of else Znk s u
theorem YE.a {s:Z8}(h:YE s):s.Args.length≤4611686018427387:=by have:=h.Args.1; omega
theorem w01:IntKind.i64.wrap (0 + 1)=1∧IntKind.i64.wrap (1 + 1)=2∧decide ((0:Int) < 2)=true∧decide ((1:Int) < 2)=true∧decide ((2:Int) < 2)=false∧(∀ (α:Type) (a b:α),(([a,b].length:Nat):Int)=2):=⟨by decide,by decide,by decide,by decide,by decide,fun _ _ _=>rfl⟩
theorem ZuD (s:Z8):SizeOf.sizeOf s.E < SizeOf.sizeOf s∧SizeOf.sizeOf s.F < SizeOf.sizeOf s∧SizeOf.sizeOf s.Args < SizeOf.sizeOf s∧SizeOf.sizeOf s.Body < SizeOf.sizeOf s∧SizeOf.sizeOf s.Else < SizeOf.sizeOf s:=by
 cases s; simp; omega
theorem Z1d {s:Z8}{x:Zu}(h:x ∈ s.Args):SizeOf.sizeOf x < SizeOf.sizeOf s:=by
 have:=List.sizeOf_lt_of_mem h
 have:=(ZuD s).2.2.1
 omega
def FO (s:Z8):List Zu→Int→Int
 | [],e=>e
 | x :: r,e=>if decide (e=0)=true then FO s r (Qp false x) else e
def ZcQ (s:Z8)(u:Gu):Int :=
 FO s s.Args (if (decide ((if (decide ((if u.e=true then Qp false s.E else 0)=0) && u.f)=true then Qp false s.F else (if u.e=true then Qp false s.E else 0))=0) && decide (6 < (s.Args.length:Int)))=true then 6
  else (if (decide ((if u.e=true then Qp false s.E else 0)=0) && u.f)=true then Qp false s.F else (if u.e=true then Qp false s.E else 0)))
def Z03 (s:Z8):Int :=
 if (!(ZpR s))=true then 1
 else if (((L9 s.Op).1.name && decide (V9 s.Name≠0)) || ((L9 s.Op).1.of && decide (V9 s.Of≠0)))=true then 3
 else if (decide (ZcQ s (L9 s.Op).1=0) && (L9 s.Op).1.dist)=true then Zst s.Dist else ZcQ s (L9 s.Op).1
theorem Zgv (s:Z8)(l:List Zu)(e:Int)(h:e≠0):FO s l e=e:=by
 cases l <;> simp [FO,h]
theorem Zfy (s:Z8)(u:Gu):∀ l:List Zu,(if (decide (FO s l 0=0) && u.dist)=true then LM s.Dist else FO s l 0)=ZeE s u l
 | []=>by simp [FO,ZeE]
 | x :: r=>by
  by_cases h:Qp false x=0
  ·simp only [FO,ZeE,h,decide_true,if_true,ne_eq,not_true_eq_false,decide_false,Bool.false_eq_true,if_false]
   exact Zfy s u r
  ·simp [FO,ZeE,h,Zgv]
def Zoe (s:Z8):Int:=if (!(L9 s.Op).2 || !(Zky s (L9 s.Op).1))=true then 1 else ZiZ s (L9 s.Op).1
theorem ZwL (lo hi a:Int):Qa lo hi [a]=btw a lo hi:=by
 simp only [Qa,List.any_cons,List.any_nil,Zu3,btw,Bool.or_false,Bool.not_or,← decide_not,Int.not_lt]
theorem ZwM (lo hi a b:Int):Qa lo hi [a,b]=(btw a lo hi && btw b lo hi):=by
 simp only [Qa,List.any_cons,List.any_nil,Zu3,btw,Bool.or_false,Bool.not_or,← decide_not,Int.not_lt]
theorem ZwN (lo hi a:Int)(l:List Int):Qa lo hi (a :: l)=(btw a lo hi && Qa lo hi l):=by
 simp only [Qa,List.any_cons,Zu3,btw,Bool.not_or,← decide_not,Int.not_lt]
theorem ZuH:∀ (l m:List Int),l.length=m.length→ZuG l m=if (!(Qa 0 1000000000 l && Qa 1 1000 m))=true then 2 else 0
 | [],[],_=>by simp [ZuG,Qa]
 | [],y :: m,h=>by simp at h
 | x :: l,[],h=>by simp at h
 | x :: l,y :: m,h=>by
  have ih:=ZuH l m (by simpa using h)
  simp only [ZuG,ZwN,ih]
  generalize Qa 0 1000000000 l=c1
  generalize Qa 1 1000 m=c2
  cases btw x 0 1000000000 <;> cases btw y 1 1000 <;> cases c1 <;> cases c2 <;> rfl
theorem Z0u (a b:Nat):decide ((a:Int) + (b:Int)=0)=(decide ((a:Int)=0) && decide ((b:Int)=0)):=by
 rw [← Bool.decide_and]; congr 1; apply propext; omega
theorem ZrG (d:YX):Ze0 d=Ec d:=by
 simp only [Ze0,Ec,Z0u]
 by_cases h1:d.Op=1
 ·simp [h1]; ac_rfl
 by_cases h2:d.Op=2
 ·simp [h2,Bool.and_comm]
 by_cases h5:d.Op=5
 ·simp [h5,Bool.and_comm]
 by_cases h3:d.Op=3
 ·simp [h3]
 by_cases h4:d.Op=4
 ·simp [h4]
 simp [h1,h2,h3,h4,h5]
theorem Zg8 (d:YX):Zst d=LM d:=by
 simp only [Zst,LM,ZrG,ZwL,ZwM,Zn0]
 by_cases hu:Ec d=true
 ·simp only [hu]
  by_cases h1:d.Op=1
  ·simp [h1]
  by_cases h2:d.Op=2
  ·simp only [h2,btw]; simp; grind
  by_cases h3:d.Op=3
  ·simp only [h3]
   by_cases hl:d.Values.length=d.Weights.length
   ·rw [ZuH _ _ hl]; simp
   ·have:¬ ((d.Values.length:Int)=d.Weights.length):=by omega
    simp [this]
  by_cases h4:d.Op=4
  ·simp only [h4,btw]; simp; grind
  by_cases h5:d.Op=5
  ·simp [h5]
  ·exfalso
   simp [Ec,h1,h2,h3,h4,h5] at hu
 ·simp [hu]
theorem ZvZ (s:Z8):Z03 s=Zoe s:=by
 have n1:=ZiK s.Name
 have n2:=ZiK s.Of
 unfold Z03 Zoe ZiZ
 rw [Zs1,Zg8]
 generalize L9 s.Op=w
 obtain ⟨u,b⟩:=w
 simp only
 have key:(if (decide (ZcQ s u=0) && u.dist)=true then LM s.Dist else ZcQ s u)=Znk s u:=by
  have ha:=Zfy s u s.Args
  unfold ZcQ Znk Znl Znj
  rcases Bool.eq_false_or_eq_true u.e with h1 | h1 <;> rcases Bool.eq_false_or_eq_true u.f with h3 | h3 <;> rcases Bool.eq_false_or_eq_true (decide (6 < (s.Args.length:Int))) with h5 | h5 <;> by_cases h2:Qp false s.E=0 <;> by_cases h4:Qp false s.F=0 <;>
   simp only [h1,h2,h3,h4,h5,ne_eq,not_true_eq_false,not_false_eq_true,decide_true,decide_false,BL,IFJ,Zgv,Bool.false_eq_true,if_true,if_false] <;> first | exact ha | (simp [Zgv,h2,h4]; done) | rfl
 rw [key]
 rcases n1 with h1 | h1 <;> rcases n2 with h2 | h2 <;> cases b <;> cases Zky s u <;> cases u.name <;> cases u.of <;> simp [h1,h2]
mutual
def Zuk:Z8→Int
 | ⟨_,_,_,_,_,_,_,_,b,e⟩=>IntKind.i64.wrap (Oo b (b.length:Int) + Oo e (e.length:Int))
def Oo:List Z8→Int→Int
 | [],n=>n
 | x :: r,n=>Oo r (IntKind.i64.wrap (n + Zuk x))
end
theorem Zve (s:Z8):Zuk s=IntKind.i64.wrap (Oo s.Body (s.Body.length:Int) + Oo s.Else (s.Else.length:Int)):=by cases s; rw [Zuk]
mutual
def ZwQ:Z8→Int→Int
 | ⟨_,_,_,_,_,_,_,_,b,e⟩,n=>IntKind.i64.wrap (IntKind.i64.wrap (IntKind.i64.wrap (n + 1) + G7 b 0) + G7 e 0)
def G7:List Z8→Int→Int
 | [],n=>n
 | x :: r,n=>G7 r (ZwQ x n)
end
theorem Zp9 (s:Z8)(n:Int):ZwQ s n=IntKind.i64.wrap (IntKind.i64.wrap (IntKind.i64.wrap (n + 1) + G7 s.Body 0) + G7 s.Else 0):=by cases s; rw [ZwQ]
def mx3 (a b c:Int):Int:=if c > (if b > a then b else a) then c else (if b > a then b else a)
mutual
def ZzR:Z8→Int→Int
 | ⟨_,_,_,_,_,_,_,_,b,e⟩,n=>mx3 n (IntKind.i64.wrap (1 + NE b 0)) (IntKind.i64.wrap (1 + NE e 0))
def NE:List Z8→Int→Int
 | [],n=>n
 | x :: r,n=>NE r (ZzR x n)
end
theorem ZpH (s:Z8)(n:Int):ZzR s n=mx3 n (IntKind.i64.wrap (1 + NE s.Body 0)) (IntKind.i64.wrap (1 + NE s.Else 0)):=by cases s; rw [ZzR]
mutual
def Zzv:Z8→Int
 | ⟨a,b,c,d,e,f,g,h,i,j⟩=>if decide (Zoe ⟨a,b,c,d,e,f,g,h,i,j⟩≠0)=true then Zoe ⟨a,b,c,d,e,f,g,h,i,j⟩ else if decide (Vp i≠0)=true then Vp i else Vp j
def Vp:List Z8→Int
 | []=>0
 | x :: r=>if decide (Zzv x≠0)=true then Zzv x else Vp r
end
theorem Zp8 (s:Z8):Zzv s=if decide (Zoe s≠0)=true then Zoe s else if decide (Vp s.Body≠0)=true then Vp s.Body else Vp s.Else:=by cases s; rw [Zzv]
theorem Zvb (b:Bool)(p B E R:Int):(if b=true then 1 else if decide (p≠0)=true then p else if decide (B≠0)=true then B else if decide (E≠0)=true then E else R) =
  if decide ((if decide ((if b=true then 1 else p)≠0)=true then (if b=true then 1 else p) else if decide (B≠0)=true then B else E)≠0)=true then (if decide ((if b=true then 1 else p)≠0)=true then (if b=true then 1 else p) else if decide (B≠0)=true then B else E) else R:=by
 cases b <;> by_cases h1:p=0 <;> by_cases h2:B=0 <;> by_cases h3:E=0 <;> simp [h1,h2,h3]
theorem Zvc (p B E R:Int):(if decide (p=0)=true then (if decide (B=0)=true then (if decide (E≠0)=true then E else R) else if decide (B≠0)=true then B else R) else if decide (p≠0)=true then p else R) =
  if decide ((if decide (p≠0)=true then p else if decide (B≠0)=true then B else E)≠0)=true then (if decide (p≠0)=true then p else if decide (B≠0)=true then B else E) else R:=by
 by_cases h1:p=0 <;> by_cases h2:B=0 <;> by_cases h3:E=0 <;> simp [h1,h2,h3]
theorem Zxf {s:Z8}{l:List Z8}(h:s ∈ l):SizeOf.sizeOf s < SizeOf.sizeOf l∧SizeOf.sizeOf s.Body < SizeOf.sizeOf l∧SizeOf.sizeOf s.Else < SizeOf.sizeOf l:=by
 have:=List.sizeOf_lt_of_mem h
 have:=ZuD s
 omega
def Zki (l:List Z8):Prop:=l.length≤4611686018427387∧∀ s ∈ l,YE s
theorem YE.b {s:Z8}(h:YE s):Zki s.Body∧Zki s.Else:=by
 have h1:=h.Body; have h2:=h.Else
 exact ⟨⟨by omega,h1.2⟩,by omega,h2.2⟩
theorem Zxg (l:List Z8):0 < SizeOf.sizeOf l:=by cases l <;> simp <;> omega
def ZaF (l:List Z8):Int:=if decide (200 < Oo l (l.length:Int))=true then 6 else if decide (12 < NE l 0)=true then 11 else Vp l
def Zkr (l:List Z8):Int:=if decide (200 < G7 l 0)=true then 6 else if decide (12 < NE l 0)=true then 11 else Vp l
theorem wrK (n:Int):∃ k:Int,IntKind.i64.wrap n=n + 18446744073709551616 * k:=by
 rw [IntKind.wrap_i64]
 exact ⟨-((n + 9223372036854775808) / 18446744073709551616),by omega⟩
theorem wrR (n:Int):-9223372036854775808≤IntKind.i64.wrap n∧IntKind.i64.wrap n≤9223372036854775807:=by
 rw [IntKind.wrap_i64]
 constructor <;> omega
mutual
def trS:Z8→Int
 | ⟨_,_,_,_,_,_,_,_,b,e⟩=>ZtY b + ZtY e
def ZtY:List Z8→Int
 | []=>0
 | x :: r=>1 + trS x + ZtY r
end
mutual
theorem trR:∀ (s:Z8) (n:Int),∃ k:Int,ZwQ s n=n + 1 + trS s + 18446744073709551616 * k
 | ⟨_,_,_,_,_,_,_,_,b,e⟩,n=>by
  rw [ZwQ,trS]
  obtain ⟨k1,h1⟩:=Zz7 b 0
  obtain ⟨k2,h2⟩:=Zz7 e 0
  obtain ⟨k3,h3⟩:=wrK (n + 1)
  obtain ⟨k4,h4⟩:=wrK (IntKind.i64.wrap (n + 1) + G7 b 0)
  obtain ⟨k5,h5⟩:=wrK (IntKind.i64.wrap (IntKind.i64.wrap (n + 1) + G7 b 0) + G7 e 0)
  exact ⟨k1 + k2 + k3 + k4 + k5,by omega⟩
theorem Zz7:∀ (l:List Z8) (n:Int),∃ k:Int,G7 l n=n + ZtY l + 18446744073709551616 * k
 | [],n=>⟨0,by rw [G7,ZtY]; omega⟩
 | x :: r,n=>by
  rw [G7,ZtY]
  obtain ⟨k1,h1⟩:=trR x n
  obtain ⟨k2,h2⟩:=Zz7 r (ZwQ x n)
  exact ⟨k1 + k2,by omega⟩
end
mutual
theorem trP:∀ (s:Z8),∃ k:Int,Zuk s=trS s + 18446744073709551616 * k
 | ⟨_,_,_,_,_,_,_,_,b,e⟩=>by
  rw [Zuk,trS]
  obtain ⟨k1,h1⟩:=Zz6 b b.length
  obtain ⟨k2,h2⟩:=Zz6 e e.length
  obtain ⟨k3,h3⟩:=wrK (Oo b (b.length:Int) + Oo e (e.length:Int))
  exact ⟨k1 + k2 + k3,by omega⟩
theorem Zz6:∀ (l:List Z8) (n:Int),∃ k:Int,Oo l n=n - l.length + ZtY l + 18446744073709551616 * k
 | [],n=>⟨0,by rw [Oo,ZtY]; simp⟩
 | x :: r,n=>by
  rw [Oo,ZtY]
  obtain ⟨k1,h1⟩:=trP x
  obtain ⟨k3,h3⟩:=wrK (n + Zuk x)
  obtain ⟨k2,h2⟩:=Zz6 r (IntKind.i64.wrap (n + Zuk x))
  refine ⟨k1 + k2 + k3,?_⟩
  simp only [List.length_cons]
  omega
end
theorem rgR:∀ (l:List Z8) (n:Int),-9223372036854775808≤n→n≤9223372036854775807→-9223372036854775808≤G7 l n∧G7 l n≤9223372036854775807
 | [],n,h1,h2=>by rw [G7]; exact ⟨h1,h2⟩
 | x :: r,n,_,_=>by
  have h:=wrR (IntKind.i64.wrap (IntKind.i64.wrap (n + 1) + G7 x.Body 0) + G7 x.Else 0)
  rw [← Zp9] at h
  rw [G7]
  exact rgR r _ h.1 h.2
theorem rgP:∀ (l:List Z8) (n:Int),-9223372036854775808≤n→n≤9223372036854775807→-9223372036854775808≤Oo l n∧Oo l n≤9223372036854775807
 | [],n,h1,h2=>by rw [Oo]; exact ⟨h1,h2⟩
 | x :: r,n,_,_=>by
  have h:=wrR (n + Zuk x)
  rw [Oo]
  exact rgP r _ h.1 h.2
theorem Zxw (l:List Z8)(hl:l.length≤4611686018427387):G7 l 0=Oo l (l.length:Int):=by
 obtain ⟨k1,h1⟩:=Zz7 l 0
 obtain ⟨k2,h2⟩:=Zz6 l l.length
 have r1:=rgR l 0 (by omega) (by omega)
 have r2:=rgP l l.length (by omega) (by omega)
 omega
theorem ZnM (l:List Z8)(hl:l.length≤4611686018427387):Zkr l=ZaF l:=by
 unfold Zkr ZaF
 rw [Zxw l hl]
def YY (a b:Int):Int:=if decide (a≠0)=true then a else b
def Y5 (b:Bool)(e:Int):Int:=if b=true then 0 else e
def fitsT (t n:Int):Bool:=if decide (t=1)=true then inB n else if decide (t=2)=true then (decide (n=0) || decide (n=1)) else if decide (t=3)=true then btw n 0 1000000000 else false
def ZjY (t:Int):Bool:=decide (t=1) || decide (t=2) || decide (t=3)
theorem Zn3 (t:Int):ZjY t=btw t 1 3:=by
 simp only [ZjY,btw]
 by_cases h1:t=1
 ·simp [h1]
 by_cases h2:t=2
 ·simp [h2]
 by_cases h3:t=3
 ·simp [h3]
 simp only [h1,h2,h3,decide_false,Bool.or_false]
 by_cases h4:1≤t <;> by_cases h5:t≤3 <;> simp [h4,h5]
 omega
def ZrS (cyc:Int):Option Int→List UG→Int
 | _,[]=>0
 | p,c :: r=>if (!(btw c.At_ 0 (cyc - 1)) || !(btw c.Units 0 1000))=true then 2 else if (p.isSome && decide (c.At_≤p.getD 0))=true then 12 else ZrS cyc (some c.At_) r
def ZrR (d:Zv):Int :=
 if decide ((d.Shift.length:Int)=0)=true then (if decide (d.Cycle≠0)=true then 1 else 0)
 else if decide (20 < (d.Shift.length:Int))=true then 6 else if (!(btw d.Cycle 1 1000000000))=true then 2 else ZrS d.Cycle none d.Shift
theorem Wu.s {d:Zv}(h:Wu d):d.Shift.length≤4611686018427387:=by have:=h.Shift.1; omega
theorem ZG.st {d:Ze}(h:ZG d):d.Streams.length≤4611686018427387∧d.Counts.length≤4611686018427387∧d.Stores.length≤4611686018427387∧d.Routines.length≤4611686018427387:=by
 have:=h.Streams.1; have:=h.Counts.1; have:=h.Stores.1; have:=h.Routines.1; omega
def Zm6 (d:Ze)(f:LU):Int :=
 if (decide (f.Stream=[]) && (!(Nk f.Up) || !(Nk f.Down)))=true then 1 else if decide (f.Stream=[])=true then 0 else if (!(d.Streams.contains f.Stream))=true then 5 else if decide (LM f.Up≠0)=true then LM f.Up else LM f.Down
def Z0D (s:Ze)(d:Zv):Int :=
 if decide (YY (Y5 (btw d.Units 0 1000) 2) (ZrR d)≠0)=true then YY (Y5 (btw d.Units 0 1000) 2) (ZrR d)
 else if decide (d.Fault.Stream=[])=true then Y5 (Nk d.Fault.Up && Nk d.Fault.Down) 1
 else if (!(s.Streams.contains d.Fault.Stream))=true then 5 else YY (LM d.Fault.Up) (LM d.Fault.Down)
def Zo9 (s:Ze)(d:Zv):Int:=if (!(btw d.Units 0 1000))=true then 2 else if decide (ZrR d≠0)=true then ZrR d else Zm6 s d.Fault
theorem Zw7 (s:Ze)(d:Zv):Z0D s d=Zo9 s d:=by
 unfold Z0D Zo9 Zm6 YY Y5
 cases btw d.Units 0 1000 <;> by_cases h1:ZrR d=0 <;> by_cases h2:d.Fault.Stream=[] <;> cases Nk d.Fault.Up <;> cases Nk d.Fault.Down <;> cases s.Streams.contains d.Fault.Stream <;> simp [h1,h2]
def Zfg (t:IY)(found:Bool):Int:=if (!found)=true then 5 else if (!(btw t.Coef (-1000) 1000) || decide (t.Coef=0))=true then 2 else 0
def Zff (d:Ze)(t:IY):Int:=if decide (t.What=[99,114,101,97,116,101,100])=true then Zfg t ((d.Routines.map (·.Name)).contains t.Name) else if decide (t.What=[101,110,100,101,100])=true then Zfg t ((d.Routines.map (·.Name)).contains t.Name) else if decide (t.What=[105,110,115,105,100,101])=true then Zfg t ((d.Routines.map (·.Name)).contains t.Name) else if decide (t.What=[115,116,111,114,101,100])=true then Zfg t ((d.Stores.map (·.Name)).contains t.Name) else if decide (t.What=[101,110,116,101,114,101,100])=true then Zfg t ((d.Stores.map (·.Name)).contains t.Name) else if decide (t.What=[108,101,102,116])=true then Zfg t ((d.Stores.map (·.Name)).contains t.Name) else if decide (t.What=[99,111,117,110,116,101,100])=true then Zfg t (d.Counts.contains t.Name) else 1
def ZaY (s:Xw):Int:=if (!(btw s.At_ 0 1000000000) || !(btw s.Every 0 1000000000) || !(btw s.Until 0 1000000000) || (decide (s.Every=0) && decide (s.Until≠0)))=true then 2 else 0
def Zmg (s:Xw):Int:=Y5 (btw s.At_ 0 1000000000 && btw s.Every 0 1000000000 && btw s.Until 0 1000000000 && (decide (s.Every≠0) || decide (s.Until=0))) 2
theorem ZrB (s:Xw):Zmg s=ZaY s:=by
 unfold ZaY Zmg Y5
 cases btw s.At_ 0 1000000000 <;> cases btw s.Every 0 1000000000 <;> cases btw s.Until 0 1000000000 <;> by_cases h1:s.Every=0 <;> by_cases h2:s.Until=0 <;> simp [h1,h2]
def LJ (tl:Int):List WJ→List Int→Int
 | p :: ps,a :: ys=>if (!(fitsT p.Ty a))=true then 2 else LJ tl ps ys
 | _,_=>tl
def VS (d:Ze)(s:Xw):Int :=
 match d.Routines.find? (fun r=>decide (r.Name=s.Routine)) with
 | none=>5
 | some r=>if decide ((s.Args.length:Int)≠(r.Params.length:Int))=true then 8 else LJ (ZaY s) r.Params s.Args
theorem Nl.a {s:Xw}(h:Nl s):s.Args.length≤4611686018427387:=by have:=h.Args.1; omega
theorem IX.p {r:ZU}(h:IX r):r.Params.length≤4611686018427387∧r.Locals.length≤4611686018427387∧Zki r.Body:=by
 have:=h.Params.1; have:=h.Locals.1; have:=h.Body
 exact ⟨by omega,by omega,by omega,this.2⟩
abbrev Seen:=List (List UInt8)
def YA (s:List UInt8)(seen:Seen):Int×Seen:=if decide (V9 s≠0)=true then (V9 s,seen) else if seen.contains s=true then (4,seen) else (0,seen ++ [s])
def Yy (s:List UInt8)(rest:Int)(seen:Seen):Int×Seen:=if decide ((YA s seen).1≠0)=true then YA s seen else (rest,(YA s seen).2)
def LC (v:VM):Int:=if (!(btw v.Ty 1 3))=true then 1 else if (!(fitsT v.Ty v.N))=true then 2 else 0
def Lt (x:Yx):Int:=if (!(btw x.Room 1 1000))=true then 2 else if (decide (x.Policy < 1) || decide (3 < x.Policy))=true then 1 else 0
def Zbs (x:Wh):Int:=if (!(btw x.Length 1 1000) || !(btw x.Step 1 1000))=true then 2 else 0
def Xa {α σ:Type}(most:Int)(step:α→σ→Int×σ)(l:List α)(s:σ):Int×σ:=if decide (most < (l.length:Int))=true then (6,s) else YL step l s
def NG {α:Type}(most:Int)(f:α→Int)(l:List α):Int:=if decide (most < (l.length:Int))=true then 6 else Yk f l
def ZcR (f:WJ):Int:=if (!(btw f.Ty 1 3))=true then 1 else 0
def ZpN (l:List WJ)(s:Seen):Int×Seen:=YL (fun f:WJ=>Yy f.Name (ZcR f)) l s
def X3 (r:ZU):Int :=
 if (decide (6 < (r.Params.length:Int)) || decide (16 < (r.Params.length:Int) + (r.Locals.length:Int)))=true then 6
 else if decide ((ZpN (r.Params ++ r.Locals) []).1≠0)=true then (ZpN (r.Params ++ r.Locals) []).1 else ZaF r.Body
def ZrM (d:Ze)(l:Ze8):Int :=
 if decide ((l.Terms.length:Int)=0)=true then 7 else if decide (NG 8 (Zff d) l.Terms≠0)=true then NG 8 (Zff d) l.Terms else if (!(inB l.Total))=true then 2 else 0
theorem Zpb.t {l:Ze8}(h:Zpb l):l.Terms.length≤4611686018427387:=by have:=h.Terms.1; omega
def DU (d:Ze):Int:=(Xa 32 (fun l:Ze8=>Yy l.Name (ZrM d l)) d.Laws []).1
abbrev Step:=Seen→Int×Seen
def ZdU (d:Ze):List Step:=[Xa 32 (fun v:VM=>Yy v.Name (LC v)) d.Vars,Xa 32 (fun v:Zv=>Yy v.Name (Zo9 d v)) d.Resources,Xa 32 (fun v:Yx=>Yy v.Name (Lt v)) d.Stores,Xa 32 (fun v:Wh=>Yy v.Name (Zbs v)) d.Belts,Xa 32 YA d.Queues,Xa 32 YA d.Streams,Xa 32 YA d.Tallies,Xa 32 YA d.Levels,Xa 32 YA d.Counts,
 Xa 16 (fun v:ZU=>Yy v.Name (X3 v)) d.Routines,fun s=>(NG 32 (VS d) d.Starts,s),fun s=>(DU d,s)]
def ZhK (d:Ze):Int:=(Dx (ZdU d) []).1
theorem Zpc.l {m:QO}(h:Zpc m):m.Params.length≤4611686018427387∧m.Sites.length≤4611686018427387∧m.Links.length≤4611686018427387:=by
 have:=h.Params.1; have:=h.Sites.1; have:=h.Links.1; omega
def ZaH (s:List UInt8)(seen:Seen):Int:=YY (V9 s) (Y5 (!(seen.contains s)) 4)
theorem Ze2 (s:List UInt8)(rest:Int)(seen:Seen):(Yy s rest seen).1=YY (ZaH s seen) rest:=by
 by_cases h1:V9 s=0 <;> rcases Bool.eq_false_or_eq_true (seen.contains s) with h2 | h2 <;> simp only [Yy,YA,ZaH,YY,Y5,h1,h2] <;> simp [h1]
theorem ZwK {s:List UInt8}{rest:Int}{seen:Seen}(h:YY (ZaH s seen) rest=0):(Yy s rest seen)=(0,seen ++ [s]):=by
 by_cases h1:V9 s=0 <;> rcases Bool.eq_false_or_eq_true (seen.contains s) with h2 | h2 <;> simp only [ZaH,YY,Y5,h1,h2] at h <;> simp [h1] at h
 simp only [Yy,YA,h1,h2]
 simp [h]
theorem Zx5 (f:WJ):Y5 (ZjY f.Ty) 1=ZcR f:=by
 rw [Zn3]; unfold Y5 ZcR; cases btw f.Ty 1 3 <;> rfl
def Xv (d:Ze):List (Int×List (List UInt8×Int)):=[(32,d.Vars.map fun v=>(v.Name,LC v)),(32,d.Resources.map fun v=>(v.Name,Zo9 d v)),(32,d.Stores.map fun v=>(v.Name,Lt v)),(32,d.Belts.map fun v=>(v.Name,Zbs v)),(32,d.Queues.map fun v=>(v,0)),(32,d.Streams.map fun v=>(v,0)),(32,d.Tallies.map fun v=>(v,0)),(32,d.Levels.map fun v=>(v,0)),(32,d.Counts.map fun v=>(v,0)),(16,d.Routines.map fun v=>(v.Name,X3 v))]
theorem Zzo (x:Yx):YY (Y5 (btw x.Room 1 1000) 2) (Y5 (decide (1≤x.Policy) && decide (x.Policy≤3)) 1)=Lt x:=by
 unfold YY Y5 Lt
 have e:(decide (x.Policy < 1) || decide (3 < x.Policy))=!(decide (1≤x.Policy) && decide (x.Policy≤3)):=by
  have a1:decide (x.Policy < 1)=!decide (1≤x.Policy):=by rw [← decide_not]; congr 1; apply propext; omega
  have a2:decide (3 < x.Policy)=!decide (x.Policy≤3):=by rw [← decide_not]; congr 1; apply propext; omega
  rw [Bool.not_and,a1,a2]
 rw [e]
 cases btw x.Room 1 1000 <;> cases (decide (1≤x.Policy) && decide (x.Policy≤3)) <;> simp
theorem ZzL (x:Wh):Y5 (btw x.Length 1 1000 && btw x.Step 1 1000) 2=Zbs x:=by
 unfold Y5 Zbs; cases btw x.Length 1 1000 <;> cases btw x.Step 1 1000 <;> rfl
theorem valueR (v:VM):YY (Y5 (ZjY v.Ty) 1) (Y5 (fitsT v.Ty v.N) 2)=LC v:=by
 rw [Zn3]; unfold YY Y5 LC; cases btw v.Ty 1 3 <;> cases fitsT v.Ty v.N <;> rfl
theorem IP {α β:Type}{f:α→β}{l:List α}{i:Nat}{y:β}(h:(l.map f)[i]? = some y):∃ x,l[i]? = some x∧f x=y:=by
 rw [List.getElem?_map] at h
 exact Option.map_eq_some_iff.1 h
theorem kd (k:Nat):(∀ j:Nat,k=j→decide (((k:Nat):Int)=(j:Int))=true)∧(∀ j:Nat,k≠j→decide (((k:Nat):Int)=(j:Int))=false):=⟨fun j h=>by simp [h],fun j h=>by simp only [decide_eq_false_iff_not]; omega⟩
def Ha (q:List UInt8×Int):Seen→Int×Seen:=Yy q.1 q.2
def stepD (p:Int×List (List UInt8×Int)):Seen→Int×Seen:=Xa p.1 Ha p.2
theorem ZjQ {α β σ:Type}(f:α→β)(step:β→σ→Int×σ):∀ (l:List α) (s:σ),YL step (l.map f) s=YL (fun x=>step (f x)) l s
 | [],s=>rfl
 | x :: r,s=>by rw [List.map_cons,YL,YL,ZjQ f step r]
theorem Ot {α β σ:Type}(f:α→β)(step:β→σ→Int×σ)(most:Int)(l:List α):Xa most step (l.map f)=Xa most (fun x=>step (f x)) l:=by
 funext s; unfold Xa; rw [ZjQ,List.length_map]
def ZbS (d:Ze)(laws:Int):Int:=if decide (NG 32 (VS d) d.Starts≠0)=true then NG 32 (VS d) d.Starts else laws
def Zzn (d:Ze)(laws:Int):Int:=if decide ((Dx ((Xv d).map stepD) []).1≠0)=true then (Dx ((Xv d).map stepD) []).1 else ZbS d laws
theorem ZwC (d:Ze):ZhK d=Zzn d (DU d):=by
 have e:ZdU d=(Xv d).map stepD ++ [fun s=>(NG 32 (VS d) d.Starts,s),fun s=>(DU d,s)]:=by
  have f1:stepD (32,d.Vars.map fun v=>(v.Name,LC v))=Xa 32 (fun v:VM=>Yy v.Name (LC v)) d.Vars:=Ot _ _ _ _
  have f2:stepD (32,d.Resources.map fun v=>(v.Name,Zo9 d v))=Xa 32 (fun v:Zv=>Yy v.Name (Zo9 d v)) d.Resources:=Ot _ _ _ _
  have f3:stepD (32,d.Stores.map fun v=>(v.Name,Lt v))=Xa 32 (fun v:Yx=>Yy v.Name (Lt v)) d.Stores:=Ot _ _ _ _
  have f4:stepD (32,d.Belts.map fun v=>(v.Name,Zbs v))=Xa 32 (fun v:Wh=>Yy v.Name (Zbs v)) d.Belts:=Ot _ _ _ _
  have z:(fun v:List UInt8=>Ha (v,0))=YA:=by
   funext v s
   show Yy v 0 s=YA v s
   unfold Yy
   by_cases h:(YA v s).1=0
   ·simp only [h,ne_eq,not_true_eq_false,decide_false,Bool.false_eq_true,if_false]; rw [← h]
   ·simp [h]
  have f5:∀ l:List (List UInt8),stepD (32,l.map fun v=>(v,0))=Xa 32 YA l:=fun l=>by rw [stepD,Ot,z]
  have f6:stepD (16,d.Routines.map fun v=>(v.Name,X3 v))=Xa 16 (fun v:ZU=>Yy v.Name (X3 v)) d.Routines:=Ot _ _ _ _
  unfold ZdU Xv
  simp only [List.map_cons,List.map_nil,f1,f2,f3,f4,f5,f6]
  rfl
 have ap:∀ (l:List (Seen→Int×Seen)) (s:Seen),(Dx (l ++ [fun s=>(NG 32 (VS d) d.Starts,s),fun s=>(DU d,s)]) s).1=if decide ((Dx l s).1≠0)=true then (Dx l s).1 else ZbS d (DU d):=by
  intro l
  induction l with
  | nil =>
   intro s
   by_cases h:NG 32 (VS d) d.Starts=0 <;> by_cases h2:DU d=0 <;> simp [Dx,ZbS,h,h2]
  | cons f r ih =>
   intro s
   rw [List.cons_append,Dx,Dx]
   by_cases h:(f s).1=0
   ·simp only [h,ne_eq,not_true_eq_false,decide_false,Bool.false_eq_true,if_false]
    exact ih _
   ·simp [h]
 rw [ZhK,e,ap]
 rfl
theorem ZnQ (d:Ze):∀ (k:Nat) (p:Int×List (List UInt8×Int)),(Xv d)[k]? = some p→p.1=if k=9 then 16 else 32
 | 0,p,h=>by cases h; rfl
 | 1,p,h=>by cases h; rfl
 | 2,p,h=>by cases h; rfl
 | 3,p,h=>by cases h; rfl
 | 4,p,h=>by cases h; rfl
 | 5,p,h=>by cases h; rfl
 | 6,p,h=>by cases h; rfl
 | 7,p,h=>by cases h; rfl
 | 8,p,h=>by cases h; rfl
 | 9,p,h=>by cases h; rfl
 | k + 10,p,h=>by simp [Xv] at h
theorem Znx:∀ (l:List (List UInt8×Int)) (s:Seen),(YL Ha l s).2.length≤s.length + l.length
 | [],s=>by simp [YL]
 | x :: r,s=>by
  have ih:=Znx r (Ha x s).2
  have h1:(Ha x s).2.length≤s.length + 1:=by
   unfold Ha Yy
   split
   ·unfold YA; split <;> (try split) <;> simp
   ·show (YA x.1 s).2.length≤_
    unfold YA; split <;> (try split) <;> simp
  rw [YL]
  split
  ·simp; omega
  ·simp; omega
theorem ZrJ {s:List UInt8}{rest:Int}{seen:Seen}(h:(Yy s rest seen).1=0):(Yy s rest seen).2=seen ++ [s]∧s ∉ seen∧rest=0:=by
 rw [Ze2] at h
 have w:=ZwK h
 refine ⟨by rw [w],?_,?_⟩
 ·intro hm
  have:seen.contains s=true:=by simpa using hm
  simp only [ZaH,this,YY,Y5] at h
  by_cases h1:V9 s=0 <;> simp [h1] at h
 ·by_cases h1:ZaH s seen=0
  ·simpa [YY,h1] using h
  ·simp [YY,h1] at h
theorem Zr8:∀ (l:List (List UInt8×Int)) (s:Seen),(YL Ha l s).1=0→(YL Ha l s).2=s ++ l.map (·.1)∧(∀ q ∈ l.map (·.1),q ∉ s)∧(l.map (·.1)).Nodup∧∀ q ∈ l,q.2=0
 | [],s,_=>by simp [YL]
 | x :: r,s,h=>by
  by_cases hz:(Ha x s).1=0
  ·obtain ⟨w1,w2,w3⟩:=ZrJ (s := x.1) (rest := x.2) (seen := s) hz
   have e:YL Ha (x :: r) s=YL Ha r (s ++ [x.1]):=by
    have:(Ha x s).2=s ++ [x.1]:=w1
    simp [YL,hz,this]
   rw [e] at h ⊢
   obtain ⟨i1,i2,i3,i4⟩:=Zr8 r _ h
   refine ⟨by rw [i1]; simp,?_,?_,?_⟩
   ·intro q hq
    rw [List.map_cons] at hq
    rcases List.mem_cons.1 hq with rfl | hq
    ·exact w2
    ·exact fun hm=>i2 q hq (by simp [hm])
   ·rw [List.map_cons,List.nodup_cons]
    exact ⟨fun hm=>i2 x.1 hm (by simp),i3⟩
   ·intro q hq
    rcases List.mem_cons.1 hq with rfl | hq
    ·exact w3
    ·exact i4 q hq
  ·have e:YL Ha (x :: r) s=Ha x s:=by simp [YL,hz]
   rw [e] at h; exact absurd h hz
def Zbz (p:Int×List (List UInt8×Int)):List (List UInt8):=p.2.map (·.1)
theorem ZuA:∀ (ds:List (Int×List (List UInt8×Int))) (s:Seen),(Dx (ds.map stepD) s).1=0→ds.Pairwise (fun a b=>∀ x ∈ Zbz a,x ∉ Zbz b)∧(∀ p ∈ ds,(Zbz p).Nodup∧(∀ x ∈ Zbz p,x ∉ s)∧∀ q ∈ p.2,q.2=0)
 | [],s,_=>⟨List.Pairwise.nil,fun p h=>by cases h⟩
 | p :: r,s,h=>by
  by_cases hz:(stepD p s).1=0
  ·have e:Dx ((p :: r).map stepD) s=Dx (r.map stepD) (stepD p s).2:=by simp [Dx,hz]
   rw [e] at h
   have hl:¬ p.1 < (p.2.length:Int):=fun hl=>by simp [stepD,Xa,hl] at hz
   have e2:stepD p s=YL Ha p.2 s:=by simp [stepD,Xa,hl]
   rw [e2] at hz h
   obtain ⟨w1,w2,w3,w4⟩:=Zr8 p.2 s hz
   rw [w1] at h
   obtain ⟨i1,i2⟩:=ZuA r _ h
   refine ⟨List.Pairwise.cons (fun b hb x hx hm=>(i2 b hb).2.1 x hm (by simp [Zbz] at hx ⊢; exact .inr hx)) i1,fun a ha=>?_⟩
   rcases List.mem_cons.1 ha with rfl | ha
   ·exact ⟨w3,w2,w4⟩
   ·exact ⟨(i2 a ha).1,fun x hx hm=>(i2 a ha).2.1 x hx (by simp [hm]),(i2 a ha).2.2⟩
  ·have e:Dx ((p :: r).map stepD) s=stepD p s:=by simp [Dx,hz]
   rw [e] at h; exact absurd h hz
def Ou (nm:List UInt8):List (List UInt8×List (List UInt8))→List UInt8
 | []=>[]
 | (w,ns) :: r=>if ns.contains nm=true then w else Ou nm r
theorem ZfC (nm:List UInt8):∀ l:List (List UInt8×List (List UInt8)),Ou nm l=[]∨Ou nm l ∈ l.map (·.1)
 | []=>.inl rfl
 | (w,ns) :: r=>by
  rw [Ou]
  split
  ·right; simp
  ·rcases ZfC nm r with h | h
   ·exact .inl h
   ·right; rw [List.map_cons]; exact List.mem_cons_of_mem _ h
theorem ZfB (nm:List UInt8):∀ l:List (List UInt8×List (List UInt8)),l.Pairwise (fun a b=>∀ x ∈ a.2,x ∉ b.2)→(l.map (·.1)).Nodup→[] ∉ l.map (·.1)→∀ p ∈ l,(Ou nm l=p.1↔nm ∈ p.2)
 | [],_,_,_,p,h=>by cases h
 | (w,ns) :: r,hp,hn,he,p,h=>by
  rw [List.pairwise_cons] at hp
  rw [List.map_cons,List.nodup_cons] at hn
  rw [List.map_cons,List.mem_cons,not_or] at he
  rw [Ou]
  by_cases hc:nm ∈ ns
  ·rw [if_pos (by simpa using hc)]
   rcases List.mem_cons.1 h with rfl | h
   ·simp [hc]
   ·refine ⟨fun e=>absurd (List.mem_map_of_mem (f := (·.1)) h) (by show p.1 ∉ _; rw [← e]; exact hn.1),fun hm=>absurd hm (hp.1 p h nm hc)⟩
  ·rw [if_neg (by simpa using hc)]
   rcases List.mem_cons.1 h with rfl | h
   ·refine ⟨fun e=>?_,fun hm=>absurd hm hc⟩
    rcases ZfC nm r with h1 | h1
    ·rw [h1] at e; exact absurd e he.1
    ·rw [e] at h1; exact absurd h1 hn.1
   ·exact ZfB nm r hp.2 hn.2 he.2 p h
def Vs (d:Ze):List (List UInt8×List (List UInt8)):=[([118,97,114],d.Vars.map (·.Name)),([114,101,115,111,117,114,99,101],d.Resources.map (·.Name)),([115,116,111,114,101],d.Stores.map (·.Name)),([98,101,108,116],d.Belts.map (·.Name)),([113,117,101,117,101],d.Queues),([115,116,114,101,97,109],d.Streams),([116,97,108,108,121],d.Tallies),([108,101,118,101,108],d.Levels),([99,111,117,110,116],d.Counts),([114,111,117,116,105,110,101],d.Routines.map (·.Name))]
theorem ZmM (d:Ze):(Vs d).map (·.2)=(Xv d).map Zbz:=by
 simp [Vs,Xv,Zbz,Function.comp_def]
end Go.Proofs.YtgjcjbhhhlelnaaGreatDoor
end
