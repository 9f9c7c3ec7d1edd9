import Derived.Test.YtgjcjbhhhlelnaaGreatDoorHEv4
set_option linter.all false
section
namespace Go.Proofs.YtgjcjbhhhlelnaaGreatDoor
open Go Go.Proofs.YtgjcjbhhhlelnaaGreatDoor.Abs
set_option maxRecDepth 100000
def Zst (n:Int):Bool:=decide (97≤n) && decide (n≤122)
def ZeT (n:Int):Bool:=Zst n || decide (n=95) || (decide (48≤n) && decide (n≤57))
def kws:List (List UInt8):=[[97,100,100],[97,102,116,101,114],[97,110,100],[97,116],[98,101,108,116],[98,111,111,108],[99,111,110,115,101,114,118,101],[99,111,110,115,116],[99,111,117,110,116],[99,121,99,108,101],[100,111,119,110],[100,114,97,119],[100,117,114],[101,108,115,101],[101,110,100],[101,118,101,114,121],[102,97,108,115,101],[102,97,117,108,116],[102,105,102,111],[102,114,101,101],[102,114,111,109],[103,101,111,109],[103,101,116],[104,111,108,100],[105,102],[105,110,116],[105,110,116,111],[108,101,97,115,116],[108,101,118,101,108],[108,105,102,111],[108,105,110,107],[108,111,99,97,108],[109,97,120],[109,105,110],[109,111,100,101,108],[110,111,116],[110,111,119],[111,98,115,101,114,118,101],[111,114],[112,97,114,97,109],[112,114,101,101,109,112,116],[112,114,105,111],[112,117,116],[113,117,101,117,101],[114,101,108,101,97,115,101],[114,101,115,111,117,114,99,101],[114,105,100,101],[114,111,117,116,105,110,101],[115,101,105,122,101],[115,101,110,100],[115,101,116],[115,104,105,102,116],[115,105,103,110,97,108],[115,105,116,101],[115,105,122,101],[115,112,97,119,110],[115,116,97,114,116],[115,116,111,112],[115,116,111,114,101],[115,116,114,101,97,109],[115,117,109],[116,97,98,108,101],[116,97,108,108,121],[116,105,99,107,115],[116,105,109,101],[116,114,117,101],[117,110,105,102,111,114,109],[117,110,116,105,108],[117,112],[118,97,114],[119,97,105,116],[119,97,105,116,105,110,103],[119,104,105,108,101]]
def kwB (s:List UInt8):Bool:=kws.any fun k=>decide (s=k)
def Vr (s:List UInt8):Int :=
 match s with
 | []=>3
 | c :: r=>if 24 < (c :: r).length∨Zst c.toNat=false∨kwB (c :: r)=true then 3 else if (c :: r).all (fun x=>ZeT x.toNat) then 0 else 3
def inB (n:Int):Bool:=decide (-1000000000000≤n) && decide (n≤1000000000000)
theorem Zhd (s:List UInt8):Vr s=0∨Vr s=3:=by
 unfold Vr
 split
 ·exact .inr rfl
 ·split
  ·exact .inr rfl
  ·split
   ·exact .inl rfl
   ·exact .inr rfl
def YI {α σ:Type}(step:α→σ→Int×σ):List α→σ→Int×σ
 | [],s=>(0,s)
 | x :: r,s=>if decide ((step x s).1≠0)=true then step x s else YI step r (step x s).2
def Bo {σ:Type}:List (σ→Int×σ)→σ→Int×σ
 | [],s=>(0,s)
 | f :: r,s=>if decide ((f s).1≠0)=true then f s else Bo r (f s).2
theorem ZyT {n:Int}(h1:-9223372036854775808≤n)(h2:n≤9223372036854775807):IntKind.i64.wrap n=n:=i64_in h1 h2
def ZnK (a b:YT):Bool:=decide (a.Op=b.Op) && decide (a.A=b.A) && decide (a.B=b.B) && decide (a.N=b.N) && decide (a.Values=b.Values) && decide (a.Weights=b.Weights)
def btw (x lo hi:Int):Bool:=decide (lo≤x) && decide (x≤hi)
def Nl (d:YT):Bool :=
 if decide (d.Op=1)=true then decide ((d.Values.length:Int) + d.Weights.length=0) && decide (d.B=0) && decide (d.N=0)
 else if decide (d.Op=2)=true then decide ((d.Values.length:Int) + d.Weights.length=0) && decide (d.N=0)
 else if decide (d.Op=5)=true then decide ((d.Values.length:Int) + d.Weights.length=0) && decide (d.N=0)
 else if decide (d.Op=4)=true then decide ((d.Values.length:Int) + d.Weights.length=0)
 else if decide (d.Op=3)=true then decide (d.A=0) && decide (d.B=0) && decide (d.N=0)
 else false
theorem Jr.v {d:YT}(h:Jr d):d.Values.length≤4611686018427387:=by have:=h.Values.1; omega
theorem Jr.w {d:YT}(h:Jr d):d.Weights.length≤4611686018427387:=by have:=h.Weights.1; omega
theorem Jr.wr {d:YT}(h:Jr d):IntKind.i64.wrap ((d.Values.length:Int) + (d.Weights.length:Int))=(d.Values.length:Int) + (d.Weights.length:Int):=by
 have:=h.v; have:=h.w; exact ZyT (by omega) (by omega)
def Zda (d:YT):Bool :=
 if decide (d.Op=1)=true then decide (d.B=0) && decide (d.N=0) && (decide ((d.Values.length:Int)=0) && decide ((d.Weights.length:Int)=0))
 else if decide (d.Op=2)=true then decide (d.N=0) && (decide ((d.Values.length:Int)=0) && decide ((d.Weights.length:Int)=0))
 else if decide (d.Op=5)=true then decide (d.N=0) && (decide ((d.Values.length:Int)=0) && decide ((d.Weights.length:Int)=0))
 else if decide (d.Op=3)=true then decide (d.A=0) && decide (d.B=0) && decide (d.N=0)
 else if decide (d.Op=4)=true then (decide ((d.Values.length:Int)=0) && decide ((d.Weights.length:Int)=0))
 else false
def Zs1 (lo hi:Int)(x:Int):Bool:=decide (x < lo) || decide (hi < x)
def Gl {α:Type}(f:α→Bool):List α→Int→Int
 | [],_=>-1
 | x :: r,i=>if f x=true then i else Gl f r (i + 1)
theorem Ae {α:Type}(f:α→Bool):∀ (l:List α) (i:Int),0≤i→decide (0≤Gl f l i)=l.any f
 | [],i,h=>by simp [Gl]
 | x :: r,i,h=>by
  have ih:=Ae f r (i + 1) (by omega)
  cases hx:f x <;> simp [Gl,hx,h]
  simpa using ih
def WV (lo hi:Int)(l:List Int):Bool:=!(l.any (Zs1 lo hi))
def MQ (d:YT):Int :=
 if (!(Nl d))=true then 1
 else if decide (d.Op=1)=true then (if (!(WV 0 1000000000 [d.A]))=true then 2 else 0)
 else if decide (d.Op=2)=true then (if (!(WV 0 1000000000 [d.A,d.B] && decide (d.A≤d.B)))=true then 2 else 0)
 else if decide (d.Op=4)=true then (if (!(WV 1 20 [d.N] && WV 0 1000000 [d.A,d.B] && decide (d.A≤d.B)))=true then 2 else 0)
 else if decide (d.Op=5)=true then (if (!(WV 1 1000 [d.A,d.B]))=true then 2 else 0)
 else if decide (d.Op=3)=true then
  (if decide ((d.Values.length:Int)≠(d.Weights.length:Int))=true then 8 else if decide ((d.Values.length:Int)=0)=true then 7 else if decide (20 < (d.Values.length:Int))=true then 6
   else if (!(WV 0 1000000000 d.Values && WV 1 1000 d.Weights))=true then 2 else 0)
 else 2
def ZsE:List Int→List Int→Int
 | x :: r,y :: s=>if (!(btw x 0 1000000000) || !(btw y 1 1000))=true then 2 else ZsE r s
 | _,_=>0
def Zl5 (d:YT):Int :=
 if decide ((d.Values.length:Int)≠(d.Weights.length:Int))=true then 8 else if decide ((d.Values.length:Int)=0)=true then 7 else if decide (20 < (d.Values.length:Int))=true then 6 else ZsE d.Values d.Weights
def Zqs (d:YT):Int :=
 if (!(Zda d))=true then 1
 else if decide (d.Op=1)=true then (if (!(btw d.A 0 1000000000))=true then 2 else 0)
 else if decide (d.Op=2)=true then (if (!(btw d.A 0 d.B && decide (d.B≤1000000000)))=true then 2 else 0)
 else if decide (d.Op=3)=true then Zl5 d
 else if decide (d.Op=4)=true then (if (!(btw d.N 1 20 && btw d.A 0 d.B && decide (d.B≤1000000)))=true then 2 else 0)
 else if decide (d.Op=5)=true then (if (!(btw d.A 1 1000 && btw d.B 1 1000))=true then 2 else 0)
 else 0
def ZoC (op:Int):Bool:=decide (22≤op) && decide (op≤24)
def ZgW (op:Int):Int :=
 if (decide (op=1) || decide (op=2) || decide (op=3) || decide (op=4))=true then 0
 else if (decide (5≤op) && decide (op≤8))=true then 1
 else if (decide (9≤op) && decide (op≤21))=true then 2
 else if (decide (22≤op) && decide (op≤26))=true then 0 else -1
def ZbX (code:Bool)(op:Int):Bool :=
 if decide (op=3)=true then !code else if decide (op=25)=true then code else if decide (op=26)=true then code else decide (0≤ZgW op)
def Zet (code:Bool)(op:Int):Bool:=decide (op=3) || (ZoC op && !code)
def ZpM (code:Bool)(op:Int):Int×Int×Bool :=
 if decide (op=2)=true then (0,1,true) else if decide (op=25)=true then (0,15,true) else if decide (op=26)=true then (0,31,true) else if (ZoC op && code)=true then (0,63,true) else (0,0,false)
def Zas (code:Bool)(e:Zr):Int :=
 if (!(ZbX code e.Op) || decide ((e.Kids.length:Int)≠ZgW e.Op) || (decide (e.Name≠[]) && !(Zet code e.Op)))=true then 1
 else if decide (e.Op=1)=true then (if (!(inB e.N))=true then 2 else 0)
 else if (!(ZpM code e.Op).2.2 && decide (e.N≠0))=true then 1
 else if ((ZpM code e.Op).2.2 && (decide (e.N < (ZpM code e.Op).1) || decide ((ZpM code e.Op).2.1 < e.N)))=true then 2
 else if Zet code e.Op=true then Vr e.Name else 0
theorem Sm {x e:Zr}(h:x ∈ e.Kids):SizeOf.sizeOf x < SizeOf.sizeOf e:=by
 cases e
 have:=List.sizeOf_lt_of_mem h
 simp at *
 omega
theorem DJ (e:Zr):0 < SizeOf.sizeOf e:=by cases e; simp; omega
theorem Yh.k {e:Zr}(h:Yh e):e.Kids.length≤4611686018427387:=by have:=h.Kids.1; omega
theorem Yh.n {e:Zr}(h:Yh e):e.Name.length≤140737488351232:=h.Name
mutual
def Jv (code:Bool):Zr→Int
 | ⟨o,a,n,ks⟩=>if decide (Zas code ⟨o,a,n,ks⟩≠0)=true then Zas code ⟨o,a,n,ks⟩ else Zcf code ks
def Zcf (code:Bool):List Zr→Int
 | []=>0
 | x :: r=>if decide (Jv code x≠0)=true then Jv code x else Zcf code r
end
theorem Zeu (code:Bool):∀ l:List Zr,Zcf code l=Yj (Jv code) l
 | []=>by rw [Zcf]; rfl
 | x :: r=>by rw [Zcf,Zeu code r]; rfl
theorem Zce (code:Bool)(e:Zr):Jv code e=if decide (Zas code e≠0)=true then Zas code e else Yj (Jv code) e.Kids:=by
 cases e; rw [Jv,Zeu]
mutual
def ZnC:Zr→Int
 | ⟨_,_,_,ks⟩=>ZnE ks 1
def ZnE:List Zr→Int→Int
 | [],n=>n
 | x :: r,n=>ZnE r (IntKind.i64.wrap (n + ZnC x))
end
theorem Zk8:∀ (l:List Zr) (n:Int),ZnE l n=sumW ZnC l n
 | [],n=>by rw [ZnE]; rfl
 | x :: r,n=>by rw [ZnE,Zk8 r]; rfl
theorem ZnD (e:Zr):ZnC e=sumW ZnC e.Kids 1:=by cases e; rw [ZnC,Zk8]
mutual
def ZmZ:Zr→Int
 | ⟨_,_,_,ks⟩=>IntKind.i64.wrap (ZnJ ks 0 + 1)
def ZnJ:List Zr→Int→Int
 | [],n=>n
 | x :: r,n=>ZnJ r (if ZmZ x > n then ZmZ x else n)
end
theorem ZkC:∀ (l:List Zr) (n:Int),ZnJ l n=ZqT ZmZ l n
 | [],n=>by rw [ZnJ]; rfl
 | x :: r,n=>by rw [ZnJ,ZkC r]; rfl
theorem ZnI (e:Zr):ZmZ e=IntKind.i64.wrap (ZqT ZmZ e.Kids 0 + 1):=by cases e; rw [ZmZ,ZkC]
def ZiD (a b:Zr):Bool:=decide (a.Op≠b.Op) || decide (a.Name≠b.Name) || decide (a.N≠b.N)
mutual
def Ed:Zr→Zr→Bool
 | ⟨o,a,n,ks⟩,e=>if (ZiD ⟨o,a,n,ks⟩ e || decide ((ks.length:Int)≠(e.Kids.length:Int)))=true then false else ZcF ks e.Kids
def ZcF:List Zr→List Zr→Bool
 | x :: r,y :: s=>if (!(Ed x y))=true then false else ZcF r s
 | _,_=>true
end
theorem Zia:∀ l m:List Zr,ZcF l m=all2 Ed l m
 | [],[]=>by rw [ZcF] <;> simp [all2]
 | [],y :: s=>by rw [ZcF] <;> simp [all2]
 | x :: r,[]=>by rw [ZcF] <;> simp [all2]
 | x :: r,y :: s=>by rw [ZcF,Zia r s]; rfl
theorem ZaK (a b:Zr):Ed a b=if (ZiD a b || decide ((a.Kids.length:Int)≠(b.Kids.length:Int)))=true then false else all2 Ed a.Kids b.Kids:=by
 cases a; rw [Ed,Zia]
def Zbz (op:Int):Int :=
 if (decide (op < 1) || decide (26 < op))=true then -1 else if (decide (5≤op) && decide (op≤8))=true then 1 else if (decide (9≤op) && decide (op≤21))=true then 2 else 0
def ZqX (op:Int):Int:=if decide (op=25)=true then 15 else if decide (op=26)=true then 31 else 63
def Zma (code:Bool)(e:Zr):Int :=
 if (!(decide (0≤Zbz e.Op) && ((code && decide (e.Op≠3)) || (!code && decide (e.Op≤24)))) || (!(!code && (decide (e.Op=3) || ZoC e.Op)) && decide (e.Name≠[])) || (!(decide (e.Op=1) || decide (e.Op=2) || (code && (ZoC e.Op || decide (e.Op=25) || decide (e.Op=26)))) && decide (e.N≠0)) || decide ((e.Kids.length:Int)≠Zbz e.Op))=true then 1
 else if ((decide (e.Op=1) && !(inB e.N)) || ((decide (e.Op=2) && decide (e.N≠0)) && decide (e.N≠1)) || ((code && (ZoC e.Op || decide (e.Op=25) || decide (e.Op=26))) && (decide (e.N < 0) || decide (ZqX e.Op < e.N))))=true then 2
 else if ((!code && (decide (e.Op=3) || ZoC e.Op)) && decide (Vr e.Name≠0))=true then Vr e.Name else 0
theorem Zzt (op:Int):1≤op∧op≤26→op=1∨op=2∨op=3∨op=4∨op=5∨op=6∨op=7∨op=8∨op=9∨op=10∨op=11∨op=12∨op=13∨op=14∨op=15∨op=16∨op=17∨op=18∨op=19∨op=20∨op=21∨op=22∨op=23∨op=24∨op=25∨op=26:=by omega
theorem ZqC (code:Bool)(e:Zr):Zma code e=Zas code e:=by
 obtain ⟨op,nm,n,ks⟩:=e
 by_cases h:1≤op∧op≤26
 ·rcases Zzt op h with rfl | rfl | rfl | rfl | rfl | rfl | rfl | rfl | rfl | rfl | rfl | rfl | rfl | rfl | rfl | rfl | rfl | rfl | rfl | rfl | rfl | rfl | rfl | rfl | rfl | rfl <;> cases code <;> simp [Zma,Zas,Zbz,ZqX,ZoC,ZgW,ZbX,Zet,ZpM] <;> grind
 ·have h1:Zbz op=-1:=by simp only [Zbz]; rw [if_pos]; simp; omega
  have h2:ZgW op=-1:=by
   simp only [ZgW]
   rw [if_neg (by simp; omega),if_neg (by simp; omega),if_neg (by simp; omega),if_neg (by simp; omega)]
  have h3:ZbX code op=false:=by
   simp only [ZbX,h2]
   rw [if_neg (by simp; omega),if_neg (by simp; omega),if_neg (by simp; omega)]; rfl
  simp [Zma,Zas,h1,h2,h3]
theorem ZoB (code:Bool)(e:Zr):(if decide (Zma code e≠0)=true then Zma code e else Yj (Jv code) e.Kids)=Jv code e:=by rw [ZqC,← Zce]
def Qh (code:Bool)(e:Zr):Int:=if decide (60 < ZnC e)=true then 6 else if decide (12 < ZmZ e)=true then 11 else Jv code e
def MG (op:Int):KQ×Bool:=if decide (op=1)=true then (⟨true,false,true,false,false,false,false,false,false⟩,true) else if decide (op=7)=true then (⟨true,false,true,false,false,false,false,false,false⟩,true) else if decide (op=8)=true then (⟨true,false,true,false,false,false,false,false,false⟩,true) else if decide (op=12)=true then (⟨true,false,true,false,false,false,false,false,false⟩,true) else if decide (op=15)=true then (⟨true,false,true,false,false,false,false,false,false⟩,true) else if decide (op=16)=true then (⟨true,false,true,false,false,false,false,false,false⟩,true) else if decide (op=17)=true then (⟨true,false,true,false,false,false,false,false,false⟩,true) else if decide (op=2)=true then (⟨true,true,false,false,false,true,false,false,false⟩,true) else if decide (op=3)=true then (⟨false,false,true,false,false,false,false,true,true⟩,true) else if decide (op=4)=true then (⟨false,false,true,false,false,false,false,true,false⟩,true) else if decide (op=5)=true then (⟨false,false,true,false,false,false,false,false,false⟩,true) else if decide (op=6)=true then (⟨true,false,true,true,false,false,true,false,false⟩,true) else if decide (op=9)=true then (⟨true,true,false,false,false,false,false,false,false⟩,true) else if decide (op=10)=true then (⟨true,false,false,false,false,false,false,false,false⟩,true) else if decide (op=11)=true then (⟨true,false,false,false,false,false,false,false,false⟩,true) else if decide (op=13)=true then (⟨true,true,true,false,true,false,false,false,false⟩,true) else if decide (op=14)=true then (⟨true,false,true,false,true,false,false,false,false⟩,true) else if decide (op=18)=true then (⟨false,false,false,false,false,false,false,false,false⟩,true) else (⟨false,false,false,false,false,false,false,false,false⟩,false)
def EG (e:Zr):Bool:=decide (e.Op=0) && decide (e.Name=[]) && decide (e.N=0) && decide ((e.Kids.length:Int)=0)
def DR (d:YT):Bool:=decide (d.Op=0) && decide (d.A=0) && decide (d.B=0) && decide (d.N=0) && decide (d.Values=[]) && decide (d.Weights=[])
def ZiA (s:Z7)(u:KQ):Bool :=
 (u.name || decide (s.Name=[])) && (u.of || decide (s.Of=[])) && (u.e || EG s.E) && (u.f || EG s.F) && (u.args || decide ((s.Args.length:Int)=0)) && (u.dist || DR s.Dist) && (u.flag || !s.Flag) && (u.body || decide ((s.Body.length:Int)=0)) && (u.other || decide ((s.Else.length:Int)=0))
def ZnS (s:Z7):Bool :=
 (MG s.Op).2 && ((((MG s.Op).1.name || decide (s.Name=[])) && ((MG s.Op).1.of || decide (s.Of=[])))) && (((MG s.Op).1.e || EG s.E) && ((MG s.Op).1.f || EG s.F) && ((MG s.Op).1.args || decide ((s.Args.length:Int)=0))) && (((MG s.Op).1.body || decide ((s.Body.length:Int)=0)) && ((MG s.Op).1.other || decide ((s.Else.length:Int)=0))) && ((MG s.Op).1.dist || DR s.Dist) && ((MG s.Op).1.flag || !s.Flag)
theorem Zq0 (s:Z7):ZnS s=((MG s.Op).2 && ZiA s (MG s.Op).1):=by
 simp only [ZnS,ZiA]
 generalize (MG s.Op).1=u
 generalize (MG s.Op).2=b
 ac_rfl
def Zdp (s:Z7)(u:KQ):List Zr→Int
 | []=>if u.dist=true then MQ s.Dist else 0
 | x :: r=>if decide (Qh false x≠0)=true then Qh false x else Zdp s u r
def Zlp (s:Z7)(u:KQ):Int:=if decide (6 < (s.Args.length:Int))=true then 6 else Zdp s u s.Args
def Zlr (s:Z7)(u:KQ):Int:=if (!u.f)=true then Zlp s u else if decide (Qh false s.F≠0)=true then Qh false s.F else Zlp s u
def Zlq (s:Z7)(u:KQ):Int:=if (!u.e)=true then Zlr s u else if decide (Qh false s.E≠0)=true then Qh false s.E else Zlr s u
def Zhr (s:Z7)(u:KQ):Int :=
 if (u.name && decide (Vr s.Name≠0))=true then Vr s.Name else if (u.of && decide (Vr s.Of≠0))=true then Vr s.Of else Zlq s u
theorem YB.a {s:Z7}(h:YB s):s.Args.length≤4611686018427387:=by have:=h.Args.1; omega
theorem w01:IntKind.i64.wrap (0 + 1)=1∧IntKind.i64.wrap (1 + 1)=2∧decide ((0:Int) < 2)=true∧decide ((1:Int) < 2)=true∧decide ((2:Int) < 2)=false∧(∀ (α:Type) (a b:α),(([a,b].length:Nat):Int)=2):=⟨by decide,by decide,by decide,by decide,by decide,fun _ _ _=>rfl⟩
theorem ZsB (s:Z7):SizeOf.sizeOf s.E < SizeOf.sizeOf s∧SizeOf.sizeOf s.F < SizeOf.sizeOf s∧SizeOf.sizeOf s.Args < SizeOf.sizeOf s∧SizeOf.sizeOf s.Body < SizeOf.sizeOf s∧SizeOf.sizeOf s.Else < SizeOf.sizeOf s:=by
 cases s; simp; omega
theorem Zzf {s:Z7}{x:Zr}(h:x ∈ s.Args):SizeOf.sizeOf x < SizeOf.sizeOf s:=by
 have:=List.sizeOf_lt_of_mem h
 have:=(ZsB s).2.2.1
 omega
def ER (s:Z7):List Zr→Int→Int
 | [],e=>e
 | x :: r,e=>if decide (e=0)=true then ER s r (Qh false x) else e
def ZbK (s:Z7)(u:KQ):Int :=
 ER s s.Args (if (decide ((if (decide ((if u.e=true then Qh false s.E else 0)=0) && u.f)=true then Qh false s.F else (if u.e=true then Qh false s.E else 0))=0) && decide (6 < (s.Args.length:Int)))=true then 6
  else (if (decide ((if u.e=true then Qh false s.E else 0)=0) && u.f)=true then Qh false s.F else (if u.e=true then Qh false s.E else 0)))
def Zy6 (s:Z7):Int :=
 if (!(ZnS s))=true then 1
 else if (((MG s.Op).1.name && decide (Vr s.Name≠0)) || ((MG s.Op).1.of && decide (Vr s.Of≠0)))=true then 3
 else if (decide (ZbK s (MG s.Op).1=0) && (MG s.Op).1.dist)=true then Zqs s.Dist else ZbK s (MG s.Op).1
theorem ZeJ (s:Z7)(l:List Zr)(e:Int)(h:e≠0):ER s l e=e:=by
 cases l <;> simp [ER,h]
theorem ZdZ (s:Z7)(u:KQ):∀ l:List Zr,(if (decide (ER s l 0=0) && u.dist)=true then MQ s.Dist else ER s l 0)=Zdp s u l
 | []=>by simp [ER,Zdp]
 | x :: r=>by
  by_cases h:Qh false x=0
  ·simp only [ER,Zdp,h,decide_true,if_true,ne_eq,not_true_eq_false,decide_false,Bool.false_eq_true,if_false]
   exact ZdZ s u r
  ·simp [ER,Zdp,h,ZeJ]
def Zmj (s:Z7):Int:=if (!(MG s.Op).2 || !(ZiA s (MG s.Op).1))=true then 1 else Zhr s (MG s.Op).1
theorem ZuM (lo hi a:Int):WV lo hi [a]=btw a lo hi:=by
 simp only [WV,List.any_cons,List.any_nil,Zs1,btw,Bool.or_false,Bool.not_or,← decide_not,Int.not_lt]
theorem ZuN (lo hi a b:Int):WV lo hi [a,b]=(btw a lo hi && btw b lo hi):=by
 simp only [WV,List.any_cons,List.any_nil,Zs1,btw,Bool.or_false,Bool.not_or,← decide_not,Int.not_lt]
theorem ZuO (lo hi a:Int)(l:List Int):WV lo hi (a :: l)=(btw a lo hi && WV lo hi l):=by
 simp only [WV,List.any_cons,Zs1,btw,Bool.not_or,← decide_not,Int.not_lt]
theorem ZsF:∀ (l m:List Int),l.length=m.length→ZsE l m=if (!(WV 0 1000000000 l && WV 1 1000 m))=true then 2 else 0
 | [],[],_=>by simp [ZsE,WV]
 | [],y :: m,h=>by simp at h
 | x :: l,[],h=>by simp at h
 | x :: l,y :: m,h=>by
  have ih:=ZsF l m (by simpa using h)
  simp only [ZsE,ZuO,ih]
  generalize WV 0 1000000000 l=c1
  generalize WV 1 1000 m=c2
  cases btw x 0 1000000000 <;> cases btw y 1 1000 <;> cases c1 <;> cases c2 <;> rfl
theorem Zyx (a b:Nat):decide ((a:Int) + (b:Int)=0)=(decide ((a:Int)=0) && decide ((b:Int)=0)):=by
 rw [← Bool.decide_and]; congr 1; apply propext; omega
theorem ZpF (d:YT):Zda d=Nl d:=by
 simp only [Zda,Nl,Zyx]
 by_cases h1:d.Op=1
 ·simp [h1]; ac_rfl
 by_cases h2:d.Op=2
 ·simp [h2,Bool.and_comm]
 by_cases h5:d.Op=5
 ·simp [h5,Bool.and_comm]
 by_cases h3:d.Op=3
 ·simp [h3]
 by_cases h4:d.Op=4
 ·simp [h4]
 simp [h1,h2,h3,h4,h5]
theorem ZeW (d:YT):Zqs d=MQ d:=by
 simp only [Zqs,MQ,ZpF,ZuM,ZuN,Zl5]
 by_cases hu:Nl d=true
 ·simp only [hu]
  by_cases h1:d.Op=1
  ·simp [h1]
  by_cases h2:d.Op=2
  ·simp only [h2,btw]; simp; grind
  by_cases h3:d.Op=3
  ·simp only [h3]
   by_cases hl:d.Values.length=d.Weights.length
   ·rw [ZsF _ _ hl]; simp
   ·have:¬ ((d.Values.length:Int)=d.Weights.length):=by omega
    simp [this]
  by_cases h4:d.Op=4
  ·simp only [h4,btw]; simp; grind
  by_cases h5:d.Op=5
  ·simp [h5]
  ·exfalso
   simp [Nl,h1,h2,h3,h4,h5] at hu
 ·simp [hu]
theorem Zua (s:Z7):Zy6 s=Zmj s:=by
 have n1:=Zhd s.Name
 have n2:=Zhd s.Of
 unfold Zy6 Zmj Zhr
 rw [Zq0,ZeW]
 generalize MG s.Op=w
 obtain ⟨u,b⟩:=w
 simp only
 have key:(if (decide (ZbK s u=0) && u.dist)=true then MQ s.Dist else ZbK s u)=Zlq s u:=by
  have ha:=ZdZ s u s.Args
  unfold ZbK Zlq Zlr Zlp
  rcases Bool.eq_false_or_eq_true u.e with h1 | h1 <;> rcases Bool.eq_false_or_eq_true u.f with h3 | h3 <;> rcases Bool.eq_false_or_eq_true (decide (6 < (s.Args.length:Int))) with h5 | h5 <;> by_cases h2:Qh false s.E=0 <;> by_cases h4:Qh false s.F=0 <;>
   simp only [h1,h2,h3,h4,h5,ne_eq,not_true_eq_false,not_false_eq_true,decide_true,decide_false,BL,IFJ,ZeJ,Bool.false_eq_true,if_true,if_false] <;> first | exact ha | (simp [ZeJ,h2,h4]; done) | rfl
 rw [key]
 rcases n1 with h1 | h1 <;> rcases n2 with h2 | h2 <;> cases b <;> cases ZiA s u <;> cases u.name <;> cases u.of <;> simp [h1,h2]
mutual
def Zsh:Z7→Int
 | ⟨_,_,_,_,_,_,_,_,b,e⟩=>IntKind.i64.wrap (IL b (b.length:Int) + IL e (e.length:Int))
def IL:List Z7→Int→Int
 | [],n=>n
 | x :: r,n=>IL r (IntKind.i64.wrap (n + Zsh x))
end
theorem Zte (s:Z7):Zsh s=IntKind.i64.wrap (IL s.Body (s.Body.length:Int) + IL s.Else (s.Else.length:Int)):=by cases s; rw [Zsh]
mutual
def ZuR:Z7→Int→Int
 | ⟨_,_,_,_,_,_,_,_,b,e⟩,n=>IntKind.i64.wrap (IntKind.i64.wrap (IntKind.i64.wrap (n + 1) + Gh b 0) + Gh e 0)
def Gh:List Z7→Int→Int
 | [],n=>n
 | x :: r,n=>Gh r (ZuR x n)
end
theorem ZnB (s:Z7)(n:Int):ZuR s n=IntKind.i64.wrap (IntKind.i64.wrap (IntKind.i64.wrap (n + 1) + Gh s.Body 0) + Gh s.Else 0):=by cases s; rw [ZuR]
def mx3 (a b c:Int):Int:=if c > (if b > a then b else a) then c else (if b > a then b else a)
mutual
def ZxV:Z7→Int→Int
 | ⟨_,_,_,_,_,_,_,_,b,e⟩,n=>mx3 n (IntKind.i64.wrap (1 + Pq b 0)) (IntKind.i64.wrap (1 + Pq e 0))
def Pq:List Z7→Int→Int
 | [],n=>n
 | x :: r,n=>Pq r (ZxV x n)
end
theorem ZnH (s:Z7)(n:Int):ZxV s n=mx3 n (IntKind.i64.wrap (1 + Pq s.Body 0)) (IntKind.i64.wrap (1 + Pq s.Else 0)):=by cases s; rw [ZxV]
mutual
def Zxz:Z7→Int
 | ⟨a,b,c,d,e,f,g,h,i,j⟩=>if decide (Zmj ⟨a,b,c,d,e,f,g,h,i,j⟩≠0)=true then Zmj ⟨a,b,c,d,e,f,g,h,i,j⟩ else if decide (XX i≠0)=true then XX i else XX j
def XX:List Z7→Int
 | []=>0
 | x :: r=>if decide (Zxz x≠0)=true then Zxz x else XX r
end
theorem ZnA (s:Z7):Zxz s=if decide (Zmj s≠0)=true then Zmj s else if decide (XX s.Body≠0)=true then XX s.Body else XX s.Else:=by cases s; rw [Zxz]
theorem Ztb (b:Bool)(p B E R:Int):(if b=true then 1 else if decide (p≠0)=true then p else if decide (B≠0)=true then B else if decide (E≠0)=true then E else R) =
  if decide ((if decide ((if b=true then 1 else p)≠0)=true then (if b=true then 1 else p) else if decide (B≠0)=true then B else E)≠0)=true then (if decide ((if b=true then 1 else p)≠0)=true then (if b=true then 1 else p) else if decide (B≠0)=true then B else E) else R:=by
 cases b <;> by_cases h1:p=0 <;> by_cases h2:B=0 <;> by_cases h3:E=0 <;> simp [h1,h2,h3]
theorem Ztc (p B E R:Int):(if decide (p=0)=true then (if decide (B=0)=true then (if decide (E≠0)=true then E else R) else if decide (B≠0)=true then B else R) else if decide (p≠0)=true then p else R) =
  if decide ((if decide (p≠0)=true then p else if decide (B≠0)=true then B else E)≠0)=true then (if decide (p≠0)=true then p else if decide (B≠0)=true then B else E) else R:=by
 by_cases h1:p=0 <;> by_cases h2:B=0 <;> by_cases h3:E=0 <;> simp [h1,h2,h3]
theorem Zvg {s:Z7}{l:List Z7}(h:s ∈ l):SizeOf.sizeOf s < SizeOf.sizeOf l∧SizeOf.sizeOf s.Body < SizeOf.sizeOf l∧SizeOf.sizeOf s.Else < SizeOf.sizeOf l:=by
 have:=List.sizeOf_lt_of_mem h
 have:=ZsB s
 omega
def Ziw (l:List Z7):Prop:=l.length≤4611686018427387∧∀ s ∈ l,YB s
theorem YB.b {s:Z7}(h:YB s):Ziw s.Body∧Ziw s.Else:=by
 have h1:=h.Body; have h2:=h.Else
 exact ⟨⟨by omega,h1.2⟩,by omega,h2.2⟩
theorem Zvh (l:List Z7):0 < SizeOf.sizeOf l:=by cases l <;> simp <;> omega
def FP (l:List Z7):Int:=if decide (200 < IL l (l.length:Int))=true then 6 else if decide (12 < Pq l 0)=true then 11 else XX l
def Zi3 (l:List Z7):Int:=if decide (200 < Gh l 0)=true then 6 else if decide (12 < Pq l 0)=true then 11 else XX l
theorem wrK (n:Int):∃ k:Int,IntKind.i64.wrap n=n + 18446744073709551616 * k:=by
 rw [IntKind.wrap_i64]
 exact ⟨-((n + 9223372036854775808) / 18446744073709551616),by omega⟩
theorem wrR (n:Int):-9223372036854775808≤IntKind.i64.wrap n∧IntKind.i64.wrap n≤9223372036854775807:=by
 rw [IntKind.wrap_i64]
 constructor <;> omega
mutual
def trS:Z7→Int
 | ⟨_,_,_,_,_,_,_,_,b,e⟩=>ZrV b + ZrV e
def ZrV:List Z7→Int
 | []=>0
 | x :: r=>1 + trS x + ZrV r
end
mutual
theorem trR:∀ (s:Z7) (n:Int),∃ k:Int,ZuR s n=n + 1 + trS s + 18446744073709551616 * k
 | ⟨_,_,_,_,_,_,_,_,b,e⟩,n=>by
  rw [ZuR,trS]
  obtain ⟨k1,h1⟩:=ZxB b 0
  obtain ⟨k2,h2⟩:=ZxB e 0
  obtain ⟨k3,h3⟩:=wrK (n + 1)
  obtain ⟨k4,h4⟩:=wrK (IntKind.i64.wrap (n + 1) + Gh b 0)
  obtain ⟨k5,h5⟩:=wrK (IntKind.i64.wrap (IntKind.i64.wrap (n + 1) + Gh b 0) + Gh e 0)
  exact ⟨k1 + k2 + k3 + k4 + k5,by omega⟩
theorem ZxB:∀ (l:List Z7) (n:Int),∃ k:Int,Gh l n=n + ZrV l + 18446744073709551616 * k
 | [],n=>⟨0,by rw [Gh,ZrV]; omega⟩
 | x :: r,n=>by
  rw [Gh,ZrV]
  obtain ⟨k1,h1⟩:=trR x n
  obtain ⟨k2,h2⟩:=ZxB r (ZuR x n)
  exact ⟨k1 + k2,by omega⟩
end
mutual
theorem trP:∀ (s:Z7),∃ k:Int,Zsh s=trS s + 18446744073709551616 * k
 | ⟨_,_,_,_,_,_,_,_,b,e⟩=>by
  rw [Zsh,trS]
  obtain ⟨k1,h1⟩:=ZxA b b.length
  obtain ⟨k2,h2⟩:=ZxA e e.length
  obtain ⟨k3,h3⟩:=wrK (IL b (b.length:Int) + IL e (e.length:Int))
  exact ⟨k1 + k2 + k3,by omega⟩
theorem ZxA:∀ (l:List Z7) (n:Int),∃ k:Int,IL l n=n - l.length + ZrV l + 18446744073709551616 * k
 | [],n=>⟨0,by rw [IL,ZrV]; simp⟩
 | x :: r,n=>by
  rw [IL,ZrV]
  obtain ⟨k1,h1⟩:=trP x
  obtain ⟨k3,h3⟩:=wrK (n + Zsh x)
  obtain ⟨k2,h2⟩:=ZxA r (IntKind.i64.wrap (n + Zsh x))
  refine ⟨k1 + k2 + k3,?_⟩
  simp only [List.length_cons]
  omega
end
theorem rgR:∀ (l:List Z7) (n:Int),-9223372036854775808≤n→n≤9223372036854775807→-9223372036854775808≤Gh l n∧Gh l n≤9223372036854775807
 | [],n,h1,h2=>by rw [Gh]; exact ⟨h1,h2⟩
 | x :: r,n,_,_=>by
  have h:=wrR (IntKind.i64.wrap (IntKind.i64.wrap (n + 1) + Gh x.Body 0) + Gh x.Else 0)
  rw [← ZnB] at h
  rw [Gh]
  exact rgR r _ h.1 h.2
theorem rgP:∀ (l:List Z7) (n:Int),-9223372036854775808≤n→n≤9223372036854775807→-9223372036854775808≤IL l n∧IL l n≤9223372036854775807
 | [],n,h1,h2=>by rw [IL]; exact ⟨h1,h2⟩
 | x :: r,n,_,_=>by
  have h:=wrR (n + Zsh x)
  rw [IL]
  exact rgP r _ h.1 h.2
theorem Zvx (l:List Z7)(hl:l.length≤4611686018427387):Gh l 0=IL l (l.length:Int):=by
 obtain ⟨k1,h1⟩:=ZxB l 0
 obtain ⟨k2,h2⟩:=ZxA l l.length
 have r1:=rgR l 0 (by omega) (by omega)
 have r2:=rgP l l.length (by omega) (by omega)
 omega
theorem ZlR (l:List Z7)(hl:l.length≤4611686018427387):Zi3 l=FP l:=by
 unfold Zi3 FP
 rw [Zvx l hl]
def YU (a b:Int):Int:=if decide (a≠0)=true then a else b
def Y2 (b:Bool)(e:Int):Int:=if b=true then 0 else e
def fitsT (t n:Int):Bool:=if decide (t=1)=true then inB n else if decide (t=2)=true then (decide (n=0) || decide (n=1)) else if decide (t=3)=true then btw n 0 1000000000 else false
def Zij (t:Int):Bool:=decide (t=1) || decide (t=2) || decide (t=3)
theorem Zl7 (t:Int):Zij t=btw t 1 3:=by
 simp only [Zij,btw]
 by_cases h1:t=1
 ·simp [h1]
 by_cases h2:t=2
 ·simp [h2]
 by_cases h3:t=3
 ·simp [h3]
 simp only [h1,h2,h3,decide_false,Bool.or_false]
 by_cases h4:1≤t <;> by_cases h5:t≤3 <;> simp [h4,h5]
 omega
def ZpR (cyc:Int):Option Int→List Ux→Int
 | _,[]=>0
 | p,c :: r=>if (!(btw c.At_ 0 (cyc - 1)) || !(btw c.Units 0 1000))=true then 2 else if (p.isSome && decide (c.At_≤p.getD 0))=true then 12 else ZpR cyc (some c.At_) r
def ZpQ (d:Zu):Int :=
 if decide ((d.Shift.length:Int)=0)=true then (if decide (d.Cycle≠0)=true then 1 else 0)
 else if decide (20 < (d.Shift.length:Int))=true then 6 else if (!(btw d.Cycle 1 1000000000))=true then 2 else ZpR d.Cycle none d.Shift
theorem Wl.s {d:Zu}(h:Wl d):d.Shift.length≤4611686018427387:=by have:=h.Shift.1; omega
theorem ZF.st {d:Zc}(h:ZF d):d.Streams.length≤4611686018427387∧d.Counts.length≤4611686018427387∧d.Stores.length≤4611686018427387∧d.Routines.length≤4611686018427387:=by
 have:=h.Streams.1; have:=h.Counts.1; have:=h.Stores.1; have:=h.Routines.1; omega
def ZkD (d:Zc)(f:MZ):Int :=
 if (decide (f.Stream=[]) && (!(DR f.Up) || !(DR f.Down)))=true then 1 else if decide (f.Stream=[])=true then 0 else if (!(d.Streams.contains f.Stream))=true then 5 else if decide (MQ f.Up≠0)=true then MQ f.Up else MQ f.Down
def ZyG (s:Zc)(d:Zu):Int :=
 if decide (YU (Y2 (btw d.Units 0 1000) 2) (ZpQ d)≠0)=true then YU (Y2 (btw d.Units 0 1000) 2) (ZpQ d)
 else if decide (d.Fault.Stream=[])=true then Y2 (DR d.Fault.Up && DR d.Fault.Down) 1
 else if (!(s.Streams.contains d.Fault.Stream))=true then 5 else YU (MQ d.Fault.Up) (MQ d.Fault.Down)
def ZmC (s:Zc)(d:Zu):Int:=if (!(btw d.Units 0 1000))=true then 2 else if decide (ZpQ d≠0)=true then ZpQ d else ZkD s d.Fault
theorem Zu8 (s:Zc)(d:Zu):ZyG s d=ZmC s d:=by
 unfold ZyG ZmC ZkD YU Y2
 cases btw d.Units 0 1000 <;> by_cases h1:ZpQ d=0 <;> by_cases h2:d.Fault.Stream=[] <;> cases DR d.Fault.Up <;> cases DR d.Fault.Down <;> cases s.Streams.contains d.Fault.Stream <;> simp [h1,h2]
def ZdC (t:I7)(found:Bool):Int:=if (!found)=true then 5 else if (!(btw t.Coef (-1000) 1000) || decide (t.Coef=0))=true then 2 else 0
def ZdB (d:Zc)(t:I7):Int:=if decide (t.What=[99,114,101,97,116,101,100])=true then ZdC t ((d.Routines.map (·.Name)).contains t.Name) else if decide (t.What=[101,110,100,101,100])=true then ZdC t ((d.Routines.map (·.Name)).contains t.Name) else if decide (t.What=[105,110,115,105,100,101])=true then ZdC t ((d.Routines.map (·.Name)).contains t.Name) else if decide (t.What=[115,116,111,114,101,100])=true then ZdC t ((d.Stores.map (·.Name)).contains t.Name) else if decide (t.What=[101,110,116,101,114,101,100])=true then ZdC t ((d.Stores.map (·.Name)).contains t.Name) else if decide (t.What=[108,101,102,116])=true then ZdC t ((d.Stores.map (·.Name)).contains t.Name) else if decide (t.What=[99,111,117,110,116,101,100])=true then ZdC t (d.Counts.contains t.Name) else 1
def CQ (s:Xi):Int:=if (!(btw s.At_ 0 1000000000) || !(btw s.Every 0 1000000000) || !(btw s.Until 0 1000000000) || (decide (s.Every=0) && decide (s.Until≠0)))=true then 2 else 0
def ZjY (s:Xi):Int:=Y2 (btw s.At_ 0 1000000000 && btw s.Every 0 1000000000 && btw s.Until 0 1000000000 && (decide (s.Every≠0) || decide (s.Until=0))) 2
theorem Zp8 (s:Xi):ZjY s=CQ s:=by
 unfold CQ ZjY Y2
 cases btw s.At_ 0 1000000000 <;> cases btw s.Every 0 1000000000 <;> cases btw s.Until 0 1000000000 <;> by_cases h1:s.Every=0 <;> by_cases h2:s.Until=0 <;> simp [h1,h2]
def MM (tl:Int):List WB→List Int→Int
 | p :: ps,a :: ys=>if (!(fitsT p.Ty a))=true then 2 else MM tl ps ys
 | _,_=>tl
def VC (d:Zc)(s:Xi):Int :=
 match d.Routines.find? (fun r=>decide (r.Name=s.Routine)) with
 | none=>5
 | some r=>if decide ((s.Args.length:Int)≠(r.Params.length:Int))=true then 8 else MM (CQ s) r.Params s.Args
theorem DT.a {s:Xi}(h:DT s):s.Args.length≤4611686018427387:=by have:=h.Args.1; omega
theorem I5.p {r:ZR}(h:I5 r):r.Params.length≤4611686018427387∧r.Locals.length≤4611686018427387∧Ziw r.Body:=by
 have:=h.Params.1; have:=h.Locals.1; have:=h.Body
 exact ⟨by omega,by omega,by omega,this.2⟩
abbrev Seen:=List (List UInt8)
def Y7 (s:List UInt8)(seen:Seen):Int×Seen:=if decide (Vr s≠0)=true then (Vr s,seen) else if seen.contains s=true then (4,seen) else (0,seen ++ [s])
def Yx (s:List UInt8)(rest:Int)(seen:Seen):Int×Seen:=if decide ((Y7 s seen).1≠0)=true then Y7 s seen else (rest,(Y7 s seen).2)
def MH (v:V6):Int:=if (!(btw v.Ty 1 3))=true then 1 else if (!(fitsT v.Ty v.N))=true then 2 else 0
def Md (x:Yw):Int:=if (!(btw x.Room 1 1000))=true then 2 else if (decide (x.Policy < 1) || decide (3 < x.Policy))=true then 1 else 0
def Zaj (x:YW):Int:=if (!(btw x.Length 1 1000) || !(btw x.Step 1 1000))=true then 2 else 0
def QN {α σ:Type}(most:Int)(step:α→σ→Int×σ)(l:List α)(s:σ):Int×σ:=if decide (most < (l.length:Int))=true then (6,s) else YI step l s
def Px {α:Type}(most:Int)(f:α→Int)(l:List α):Int:=if decide (most < (l.length:Int))=true then 6 else Yj f l
def ZbL (f:WB):Int:=if (!(btw f.Ty 1 3))=true then 1 else 0
def ZnN (l:List WB)(s:Seen):Int×Seen:=YI (fun f:WB=>Yx f.Name (ZbL f)) l s
def Xn (r:ZR):Int :=
 if (decide (6 < (r.Params.length:Int)) || decide (16 < (r.Params.length:Int) + (r.Locals.length:Int)))=true then 6
 else if decide ((ZnN (r.Params ++ r.Locals) []).1≠0)=true then (ZnN (r.Params ++ r.Locals) []).1 else FP r.Body
def ZpL (d:Zc)(l:Zdi):Int :=
 if decide ((l.Terms.length:Int)=0)=true then 7 else if decide (Px 8 (ZdB d) l.Terms≠0)=true then Px 8 (ZdB d) l.Terms else if (!(inB l.Total))=true then 2 else 0
theorem Zne.t {l:Zdi}(h:Zne l):l.Terms.length≤4611686018427387:=by have:=h.Terms.1; omega
def BM (d:Zc):Int:=(QN 32 (fun l:Zdi=>Yx l.Name (ZpL d l)) d.Laws []).1
abbrev Step:=Seen→Int×Seen
def ZcH (d:Zc):List Step:=[QN 32 (fun v:V6=>Yx v.Name (MH v)) d.Vars,QN 32 (fun v:Zu=>Yx v.Name (ZmC d v)) d.Resources,QN 32 (fun v:Yw=>Yx v.Name (Md v)) d.Stores,QN 32 (fun v:YW=>Yx v.Name (Zaj v)) d.Belts,QN 32 Y7 d.Queues,QN 32 Y7 d.Streams,QN 32 Y7 d.Tallies,QN 32 Y7 d.Levels,QN 32 Y7 d.Counts,
 QN 16 (fun v:ZR=>Yx v.Name (Xn v)) d.Routines,fun s=>(Px 32 (VC d) d.Starts,s),fun s=>(BM d,s)]
def Zgd (d:Zc):Int:=(Bo (ZcH d) []).1
theorem Znf.l {m:QC}(h:Znf m):m.Params.length≤4611686018427387∧m.Sites.length≤4611686018427387∧m.Links.length≤4611686018427387:=by
 have:=h.Params.1; have:=h.Sites.1; have:=h.Links.1; omega
def FT (s:List UInt8)(seen:Seen):Int:=YU (Vr s) (Y2 (!(seen.contains s)) 4)
theorem Zdc (s:List UInt8)(rest:Int)(seen:Seen):(Yx s rest seen).1=YU (FT s seen) rest:=by
 by_cases h1:Vr s=0 <;> rcases Bool.eq_false_or_eq_true (seen.contains s) with h2 | h2 <;> simp only [Yx,Y7,FT,YU,Y2,h1,h2] <;> simp [h1]
theorem ZuL {s:List UInt8}{rest:Int}{seen:Seen}(h:YU (FT s seen) rest=0):(Yx s rest seen)=(0,seen ++ [s]):=by
 by_cases h1:Vr s=0 <;> rcases Bool.eq_false_or_eq_true (seen.contains s) with h2 | h2 <;> simp only [FT,YU,Y2,h1,h2] at h <;> simp [h1] at h
 simp only [Yx,Y7,h1,h2]
 simp [h]
theorem Zv6 (f:WB):Y2 (Zij f.Ty) 1=ZbL f:=by
 rw [Zl7]; unfold Y2 ZbL; cases btw f.Ty 1 3 <;> rfl
def Xf (d:Zc):List (Int×List (List UInt8×Int)):=[(32,d.Vars.map fun v=>(v.Name,MH v)),(32,d.Resources.map fun v=>(v.Name,ZmC d v)),(32,d.Stores.map fun v=>(v.Name,Md v)),(32,d.Belts.map fun v=>(v.Name,Zaj v)),(32,d.Queues.map fun v=>(v,0)),(32,d.Streams.map fun v=>(v,0)),(32,d.Tallies.map fun v=>(v,0)),(32,d.Levels.map fun v=>(v,0)),(32,d.Counts.map fun v=>(v,0)),(16,d.Routines.map fun v=>(v.Name,Xn v))]
theorem Zxq (x:Yw):YU (Y2 (btw x.Room 1 1000) 2) (Y2 (decide (1≤x.Policy) && decide (x.Policy≤3)) 1)=Md x:=by
 unfold YU Y2 Md
 have e:(decide (x.Policy < 1) || decide (3 < x.Policy))=!(decide (1≤x.Policy) && decide (x.Policy≤3)):=by
  have a1:decide (x.Policy < 1)=!decide (1≤x.Policy):=by rw [← decide_not]; congr 1; apply propext; omega
  have a2:decide (3 < x.Policy)=!decide (x.Policy≤3):=by rw [← decide_not]; congr 1; apply propext; omega
  rw [Bool.not_and,a1,a2]
 rw [e]
 cases btw x.Room 1 1000 <;> cases (decide (1≤x.Policy) && decide (x.Policy≤3)) <;> simp
theorem ZxP (x:YW):Y2 (btw x.Length 1 1000 && btw x.Step 1 1000) 2=Zaj x:=by
 unfold Y2 Zaj; cases btw x.Length 1 1000 <;> cases btw x.Step 1 1000 <;> rfl
theorem valueR (v:V6):YU (Y2 (Zij v.Ty) 1) (Y2 (fitsT v.Ty v.N) 2)=MH v:=by
 rw [Zl7]; unfold YU Y2 MH; cases btw v.Ty 1 3 <;> cases fitsT v.Ty v.N <;> rfl
theorem Ir {α β:Type}{f:α→β}{l:List α}{i:Nat}{y:β}(h:(l.map f)[i]? = some y):∃ x,l[i]? = some x∧f x=y:=by
 rw [List.getElem?_map] at h
 exact Option.map_eq_some_iff.1 h
theorem kd (k:Nat):(∀ j:Nat,k=j→decide (((k:Nat):Int)=(j:Int))=true)∧(∀ j:Nat,k≠j→decide (((k:Nat):Int)=(j:Int))=false):=⟨fun j h=>by simp [h],fun j h=>by simp only [decide_eq_false_iff_not]; omega⟩
def Gy (q:List UInt8×Int):Seen→Int×Seen:=Yx q.1 q.2
def stepD (p:Int×List (List UInt8×Int)):Seen→Int×Seen:=QN p.1 Gy p.2
theorem Zib {α β σ:Type}(f:α→β)(step:β→σ→Int×σ):∀ (l:List α) (s:σ),YI step (l.map f) s=YI (fun x=>step (f x)) l s
 | [],s=>rfl
 | x :: r,s=>by rw [List.map_cons,YI,YI,Zib f step r]
theorem IP {α β σ:Type}(f:α→β)(step:β→σ→Int×σ)(most:Int)(l:List α):QN most step (l.map f)=QN most (fun x=>step (f x)) l:=by
 funext s; unfold QN; rw [Zib,List.length_map]
def ZaM (d:Zc)(laws:Int):Int:=if decide (Px 32 (VC d) d.Starts≠0)=true then Px 32 (VC d) d.Starts else laws
def Zxp (d:Zc)(laws:Int):Int:=if decide ((Bo ((Xf d).map stepD) []).1≠0)=true then (Bo ((Xf d).map stepD) []).1 else ZaM d laws
theorem ZuD (d:Zc):Zgd d=Zxp d (BM d):=by
 have e:ZcH d=(Xf d).map stepD ++ [fun s=>(Px 32 (VC d) d.Starts,s),fun s=>(BM d,s)]:=by
  have f1:stepD (32,d.Vars.map fun v=>(v.Name,MH v))=QN 32 (fun v:V6=>Yx v.Name (MH v)) d.Vars:=IP _ _ _ _
  have f2:stepD (32,d.Resources.map fun v=>(v.Name,ZmC d v))=QN 32 (fun v:Zu=>Yx v.Name (ZmC d v)) d.Resources:=IP _ _ _ _
  have f3:stepD (32,d.Stores.map fun v=>(v.Name,Md v))=QN 32 (fun v:Yw=>Yx v.Name (Md v)) d.Stores:=IP _ _ _ _
  have f4:stepD (32,d.Belts.map fun v=>(v.Name,Zaj v))=QN 32 (fun v:YW=>Yx v.Name (Zaj v)) d.Belts:=IP _ _ _ _
  have z:(fun v:List UInt8=>Gy (v,0))=Y7:=by
   funext v s
   show Yx v 0 s=Y7 v s
   unfold Yx
   by_cases h:(Y7 v s).1=0
   ·simp only [h,ne_eq,not_true_eq_false,decide_false,Bool.false_eq_true,if_false]; rw [← h]
   ·simp [h]
  have f5:∀ l:List (List UInt8),stepD (32,l.map fun v=>(v,0))=QN 32 Y7 l:=fun l=>by rw [stepD,IP,z]
  have f6:stepD (16,d.Routines.map fun v=>(v.Name,Xn v))=QN 16 (fun v:ZR=>Yx v.Name (Xn v)) d.Routines:=IP _ _ _ _
  unfold ZcH Xf
  simp only [List.map_cons,List.map_nil,f1,f2,f3,f4,f5,f6]
  rfl
 have ap:∀ (l:List (Seen→Int×Seen)) (s:Seen),(Bo (l ++ [fun s=>(Px 32 (VC d) d.Starts,s),fun s=>(BM d,s)]) s).1=if decide ((Bo l s).1≠0)=true then (Bo l s).1 else ZaM d (BM d):=by
  intro l
  induction l with
  | nil =>
   intro s
   by_cases h:Px 32 (VC d) d.Starts=0 <;> by_cases h2:BM d=0 <;> simp [Bo,ZaM,h,h2]
  | cons f r ih =>
   intro s
   rw [List.cons_append,Bo,Bo]
   by_cases h:(f s).1=0
   ·simp only [h,ne_eq,not_true_eq_false,decide_false,Bool.false_eq_true,if_false]
    exact ih _
   ·simp [h]
 rw [Zgd,e,ap]
 rfl
theorem ZlV (d:Zc):∀ (k:Nat) (p:Int×List (List UInt8×Int)),(Xf d)[k]? = some p→p.1=if k=9 then 16 else 32
 | 0,p,h=>by cases h; rfl
 | 1,p,h=>by cases h; rfl
 | 2,p,h=>by cases h; rfl
 | 3,p,h=>by cases h; rfl
 | 4,p,h=>by cases h; rfl
 | 5,p,h=>by cases h; rfl
 | 6,p,h=>by cases h; rfl
 | 7,p,h=>by cases h; rfl
 | 8,p,h=>by cases h; rfl
 | 9,p,h=>by cases h; rfl
 | k + 10,p,h=>by simp [Xf] at h
theorem Zl2:∀ (l:List (List UInt8×Int)) (s:Seen),(YI Gy l s).2.length≤s.length + l.length
 | [],s=>by simp [YI]
 | x :: r,s=>by
  have ih:=Zl2 r (Gy x s).2
  have h1:(Gy x s).2.length≤s.length + 1:=by
   unfold Gy Yx
   split
   ·unfold Y7; split <;> (try split) <;> simp
   ·show (Y7 x.1 s).2.length≤_
    unfold Y7; split <;> (try split) <;> simp
  rw [YI]
  split
  ·simp; omega
  ·simp; omega
theorem ZpI {s:List UInt8}{rest:Int}{seen:Seen}(h:(Yx s rest seen).1=0):(Yx s rest seen).2=seen ++ [s]∧s ∉ seen∧rest=0:=by
 rw [Zdc] at h
 have w:=ZuL h
 refine ⟨by rw [w],?_,?_⟩
 ·intro hm
  have:seen.contains s=true:=by simpa using hm
  simp only [FT,this,YU,Y2] at h
  by_cases h1:Vr s=0 <;> simp [h1] at h
 ·by_cases h1:FT s seen=0
  ·simpa [YU,h1] using h
  ·simp [YU,h1] at h
theorem Zp4:∀ (l:List (List UInt8×Int)) (s:Seen),(YI Gy l s).1=0→(YI Gy l s).2=s ++ l.map (·.1)∧(∀ q ∈ l.map (·.1),q ∉ s)∧(l.map (·.1)).Nodup∧∀ q ∈ l,q.2=0
 | [],s,_=>by simp [YI]
 | x :: r,s,h=>by
  by_cases hz:(Gy x s).1=0
  ·obtain ⟨w1,w2,w3⟩:=ZpI (s := x.1) (rest := x.2) (seen := s) hz
   have e:YI Gy (x :: r) s=YI Gy r (s ++ [x.1]):=by
    have:(Gy x s).2=s ++ [x.1]:=w1
    simp [YI,hz,this]
   rw [e] at h ⊢
   obtain ⟨i1,i2,i3,i4⟩:=Zp4 r _ h
   refine ⟨by rw [i1]; simp,?_,?_,?_⟩
   ·intro q hq
    rw [List.map_cons] at hq
    rcases List.mem_cons.1 hq with rfl | hq
    ·exact w2
    ·exact fun hm=>i2 q hq (by simp [hm])
   ·rw [List.map_cons,List.nodup_cons]
    exact ⟨fun hm=>i2 x.1 hm (by simp),i3⟩
   ·intro q hq
    rcases List.mem_cons.1 hq with rfl | hq
    ·exact w3
    ·exact i4 q hq
  ·have e:YI Gy (x :: r) s=Gy x s:=by simp [YI,hz]
   rw [e] at h; exact absurd h hz
def Zar (p:Int×List (List UInt8×Int)):List (List UInt8):=p.2.map (·.1)
theorem Zs8:∀ (ds:List (Int×List (List UInt8×Int))) (s:Seen),(Bo (ds.map stepD) s).1=0→ds.Pairwise (fun a b=>∀ x ∈ Zar a,x ∉ Zar b)∧(∀ p ∈ ds,(Zar p).Nodup∧(∀ x ∈ Zar p,x ∉ s)∧∀ q ∈ p.2,q.2=0)
 | [],s,_=>⟨List.Pairwise.nil,fun p h=>by cases h⟩
 | p :: r,s,h=>by
  by_cases hz:(stepD p s).1=0
  ·have e:Bo ((p :: r).map stepD) s=Bo (r.map stepD) (stepD p s).2:=by simp [Bo,hz]
   rw [e] at h
   have hl:¬ p.1 < (p.2.length:Int):=fun hl=>by simp [stepD,QN,hl] at hz
   have e2:stepD p s=YI Gy p.2 s:=by simp [stepD,QN,hl]
   rw [e2] at hz h
   obtain ⟨w1,w2,w3,w4⟩:=Zp4 p.2 s hz
   rw [w1] at h
   obtain ⟨i1,i2⟩:=Zs8 r _ h
   refine ⟨List.Pairwise.cons (fun b hb x hx hm=>(i2 b hb).2.1 x hm (by simp [Zar] at hx ⊢; exact .inr hx)) i1,fun a ha=>?_⟩
   rcases List.mem_cons.1 ha with rfl | ha
   ·exact ⟨w3,w2,w4⟩
   ·exact ⟨(i2 a ha).1,fun x hx hm=>(i2 a ha).2.1 x hx (by simp [hm]),(i2 a ha).2.2⟩
  ·have e:Bo ((p :: r).map stepD) s=stepD p s:=by simp [Bo,hz]
   rw [e] at h; exact absurd h hz
def IQ (nm:List UInt8):List (List UInt8×List (List UInt8))→List UInt8
 | []=>[]
 | (w,ns) :: r=>if ns.contains nm=true then w else IQ nm r
theorem Zen (nm:List UInt8):∀ l:List (List UInt8×List (List UInt8)),IQ nm l=[]∨IQ nm l ∈ l.map (·.1)
 | []=>.inl rfl
 | (w,ns) :: r=>by
  rw [IQ]
  split
  ·right; simp
  ·rcases Zen nm r with h | h
   ·exact .inl h
   ·right; rw [List.map_cons]; exact List.mem_cons_of_mem _ h
theorem Zem (nm:List UInt8):∀ l:List (List UInt8×List (List UInt8)),l.Pairwise (fun a b=>∀ x ∈ a.2,x ∉ b.2)→(l.map (·.1)).Nodup→[] ∉ l.map (·.1)→∀ p ∈ l,(IQ nm l=p.1↔nm ∈ p.2)
 | [],_,_,_,p,h=>by cases h
 | (w,ns) :: r,hp,hn,he,p,h=>by
  rw [List.pairwise_cons] at hp
  rw [List.map_cons,List.nodup_cons] at hn
  rw [List.map_cons,List.mem_cons,not_or] at he
  rw [IQ]
  by_cases hc:nm ∈ ns
  ·rw [if_pos (by simpa using hc)]
   rcases List.mem_cons.1 h with rfl | h
   ·simp [hc]
   ·refine ⟨fun e=>absurd (List.mem_map_of_mem (f := (·.1)) h) (by show p.1 ∉ _; rw [← e]; exact hn.1),fun hm=>absurd hm (hp.1 p h nm hc)⟩
  ·rw [if_neg (by simpa using hc)]
   rcases List.mem_cons.1 h with rfl | h
   ·refine ⟨fun e=>?_,fun hm=>absurd hm hc⟩
    rcases Zen nm r with h1 | h1
    ·rw [h1] at e; exact absurd e he.1
    ·rw [e] at h1; exact absurd h1 hn.1
   ·exact Zem nm r hp.2 hn.2 he.2 p h
def XY (d:Zc):List (List UInt8×List (List UInt8)):=[([118,97,114],d.Vars.map (·.Name)),([114,101,115,111,117,114,99,101],d.Resources.map (·.Name)),([115,116,111,114,101],d.Stores.map (·.Name)),([98,101,108,116],d.Belts.map (·.Name)),([113,117,101,117,101],d.Queues),([115,116,114,101,97,109],d.Streams),([116,97,108,108,121],d.Tallies),([108,101,118,101,108],d.Levels),([99,111,117,110,116],d.Counts),([114,111,117,116,105,110,101],d.Routines.map (·.Name))]
theorem ZkT (d:Zc):(XY d).map (·.2)=(Xf d).map Zar:=by
 simp [XY,Xf,Zar,Function.comp_def]
end Go.Proofs.YtgjcjbhhhlelnaaGreatDoor
end
