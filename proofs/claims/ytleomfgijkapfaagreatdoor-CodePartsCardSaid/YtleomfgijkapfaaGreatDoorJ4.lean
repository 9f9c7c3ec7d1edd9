import Derived.Test.YtleomfgijkapfaaGreatDoorJ3b
set_option linter.all false
section
namespace Go.Proofs.YtleomfgijkapfaaGreatDoor
open Go Go.Proofs.YtleomfgijkapfaaGreatDoor.Abs
set_option maxRecDepth 100000
def ZqF (n:Int):Bool:=decide (97≤n) && decide (n≤122)
def ZdW (n:Int):Bool:=ZqF n || decide (n=95) || (decide (48≤n) && decide (n≤57))
def kws:List (List UInt8):=[[97,100,100],[97,102,116,101,114],[97,110,100],[97,116],[98,101,108,116],[98,111,111,108],[99,111,110,115,101,114,118,101],[99,111,110,115,116],[99,111,117,110,116],[99,121,99,108,101],[100,111,119,110],[100,114,97,119],[100,117,114],[101,108,115,101],[101,110,100],[101,118,101,114,121],[102,97,108,115,101],[102,97,117,108,116],[102,105,102,111],[102,114,101,101],[102,114,111,109],[103,101,111,109],[103,101,116],[104,111,108,100],[105,102],[105,110,116],[105,110,116,111],[108,101,97,115,116],[108,101,118,101,108],[108,105,102,111],[108,105,110,107],[108,111,99,97,108],[109,97,120],[109,105,110],[109,111,100,101,108],[110,111,116],[110,111,119],[111,98,115,101,114,118,101],[111,114],[112,97,114,97,109],[112,114,101,101,109,112,116],[112,114,105,111],[112,117,116],[113,117,101,117,101],[114,101,108,101,97,115,101],[114,101,115,111,117,114,99,101],[114,105,100,101],[114,111,117,116,105,110,101],[115,101,105,122,101],[115,101,110,100],[115,101,116],[115,104,105,102,116],[115,105,103,110,97,108],[115,105,116,101],[115,105,122,101],[115,112,97,119,110],[115,116,97,114,116],[115,116,111,112],[115,116,111,114,101],[115,116,114,101,97,109],[115,117,109],[116,97,98,108,101],[116,97,108,108,121],[116,105,99,107,115],[116,105,109,101],[116,114,117,101],[117,110,105,102,111,114,109],[117,110,116,105,108],[117,112],[118,97,114],[119,97,105,116],[119,97,105,116,105,110,103],[119,104,105,108,101]]
def kwB (s:List UInt8):Bool:=kws.any fun k=>decide (s=k)
def XB (s:List UInt8):Int :=
 match s with
 | []=>3
 | c :: r=>if 24 < (c :: r).length∨ZqF c.toNat=false∨kwB (c :: r)=true then 3 else if (c :: r).all (fun x=>ZdW x.toNat) then 0 else 3
def inB (n:Int):Bool:=decide (-1000000000000≤n) && decide (n≤1000000000000)
theorem Zgg (s:List UInt8):XB s=0∨XB s=3:=by
 unfold XB
 split
 ·exact .inr rfl
 ·split
  ·exact .inr rfl
  ·split
   ·exact .inl rfl
   ·exact .inr rfl
def Y6 {α σ:Type}(step:α→σ→Int×σ):List α→σ→Int×σ
 | [],s=>(0,s)
 | x :: r,s=>if decide ((step x s).1≠0)=true then step x s else Y6 step r (step x s).2
def Ld {σ:Type}:List (σ→Int×σ)→σ→Int×σ
 | [],s=>(0,s)
 | f :: r,s=>if decide ((f s).1≠0)=true then f s else Ld r (f s).2
theorem Zwa {n:Int}(h1:-9223372036854775808≤n)(h2:n≤9223372036854775807):IntKind.i64.wrap n=n:=i64_in h1 h2
def ZmB (a b:Y9):Bool:=decide (a.Op=b.Op) && decide (a.A=b.A) && decide (a.B=b.B) && decide (a.N=b.N) && decide (a.Values=b.Values) && decide (a.Weights=b.Weights)
def btw (x lo hi:Int):Bool:=decide (lo≤x) && decide (x≤hi)
def D6 (d:Y9):Bool :=
 if decide (d.Op=1)=true then decide ((d.Values.length:Int) + d.Weights.length=0) && decide (d.B=0) && decide (d.N=0)
 else if decide (d.Op=2)=true then decide ((d.Values.length:Int) + d.Weights.length=0) && decide (d.N=0)
 else if decide (d.Op=5)=true then decide ((d.Values.length:Int) + d.Weights.length=0) && decide (d.N=0)
 else if decide (d.Op=4)=true then decide ((d.Values.length:Int) + d.Weights.length=0)
 else if decide (d.Op=3)=true then decide (d.A=0) && decide (d.B=0) && decide (d.N=0)
 else false
theorem V6.v {d:Y9}(h:V6 d):d.Values.length≤4611686018427387:=by have:=h.Values.1; omega
theorem V6.w {d:Y9}(h:V6 d):d.Weights.length≤4611686018427387:=by have:=h.Weights.1; omega
theorem V6.wr {d:Y9}(h:V6 d):IntKind.i64.wrap ((d.Values.length:Int) + (d.Weights.length:Int))=(d.Values.length:Int) + (d.Weights.length:Int):=by
 have:=h.v; have:=h.w; exact Zwa (by omega) (by omega)
def Zcb (d:Y9):Bool :=
 if decide (d.Op=1)=true then decide (d.B=0) && decide (d.N=0) && (decide ((d.Values.length:Int)=0) && decide ((d.Weights.length:Int)=0))
 else if decide (d.Op=2)=true then decide (d.N=0) && (decide ((d.Values.length:Int)=0) && decide ((d.Weights.length:Int)=0))
 else if decide (d.Op=5)=true then decide (d.N=0) && (decide ((d.Values.length:Int)=0) && decide ((d.Weights.length:Int)=0))
 else if decide (d.Op=3)=true then decide (d.A=0) && decide (d.B=0) && decide (d.N=0)
 else if decide (d.Op=4)=true then (decide ((d.Values.length:Int)=0) && decide ((d.Weights.length:Int)=0))
 else false
def ZqQ (lo hi:Int)(x:Int):Bool:=decide (x < lo) || decide (hi < x)
def UF {α:Type}(f:α→Bool):List α→Int→Int
 | [],_=>-1
 | x :: r,i=>if f x=true then i else UF f r (i + 1)
theorem Sv {α:Type}(f:α→Bool):∀ (l:List α) (i:Int),0≤i→decide (0≤UF f l i)=l.any f
 | [],i,h=>by simp [UF]
 | x :: r,i,h=>by
  have ih:=Sv f r (i + 1) (by omega)
  cases hx:f x <;> simp [UF,hx,h]
  simpa using ih
def Wx (lo hi:Int)(l:List Int):Bool:=!(l.any (ZqQ lo hi))
def O4 (d:Y9):Int :=
 if (!(D6 d))=true then 1
 else if decide (d.Op=1)=true then (if (!(Wx 0 1000000000 [d.A]))=true then 2 else 0)
 else if decide (d.Op=2)=true then (if (!(Wx 0 1000000000 [d.A,d.B] && decide (d.A≤d.B)))=true then 2 else 0)
 else if decide (d.Op=4)=true then (if (!(Wx 1 20 [d.N] && Wx 0 1000000 [d.A,d.B] && decide (d.A≤d.B)))=true then 2 else 0)
 else if decide (d.Op=5)=true then (if (!(Wx 1 1000 [d.A,d.B]))=true then 2 else 0)
 else if decide (d.Op=3)=true then
  (if decide ((d.Values.length:Int)≠(d.Weights.length:Int))=true then 8 else if decide ((d.Values.length:Int)=0)=true then 7 else if decide (20 < (d.Values.length:Int))=true then 6
   else if (!(Wx 0 1000000000 d.Values && Wx 1 1000 d.Weights))=true then 2 else 0)
 else 2
def Zrd:List Int→List Int→Int
 | x :: r,y :: s=>if (!(btw x 0 1000000000) || !(btw y 1 1000))=true then 2 else Zrd r s
 | _,_=>0
def Zk1 (d:Y9):Int :=
 if decide ((d.Values.length:Int)≠(d.Weights.length:Int))=true then 8 else if decide ((d.Values.length:Int)=0)=true then 7 else if decide (20 < (d.Values.length:Int))=true then 6 else Zrd d.Values d.Weights
def ZoX (d:Y9):Int :=
 if (!(Zcb d))=true then 1
 else if decide (d.Op=1)=true then (if (!(btw d.A 0 1000000000))=true then 2 else 0)
 else if decide (d.Op=2)=true then (if (!(btw d.A 0 d.B && decide (d.B≤1000000000)))=true then 2 else 0)
 else if decide (d.Op=3)=true then Zk1 d
 else if decide (d.Op=4)=true then (if (!(btw d.N 1 20 && btw d.A 0 d.B && decide (d.B≤1000000)))=true then 2 else 0)
 else if decide (d.Op=5)=true then (if (!(btw d.A 1 1000 && btw d.B 1 1000))=true then 2 else 0)
 else 0
def Znv (op:Int):Bool:=decide (22≤op) && decide (op≤24)
def Zgb (op:Int):Int :=
 if (decide (op=1) || decide (op=2) || decide (op=3) || decide (op=4))=true then 0
 else if (decide (5≤op) && decide (op≤8))=true then 1
 else if (decide (9≤op) && decide (op≤21))=true then 2
 else if (decide (22≤op) && decide (op≤26))=true then 0 else -1
def ZaM (code:Bool)(op:Int):Bool :=
 if decide (op=3)=true then !code else if decide (op=25)=true then code else if decide (op=26)=true then code else decide (0≤Zgb op)
def Zdp (code:Bool)(op:Int):Bool:=decide (op=3) || (Znv op && !code)
def Zo2 (code:Bool)(op:Int):Int×Int×Bool :=
 if decide (op=2)=true then (0,1,true) else if decide (op=25)=true then (0,15,true) else if decide (op=26)=true then (0,31,true) else if (Znv op && code)=true then (0,63,true) else (0,0,false)
def Fv (code:Bool)(e:Zt):Int :=
 if (!(ZaM code e.Op) || decide ((e.Kids.length:Int)≠Zgb e.Op) || (decide (e.Name≠[]) && !(Zdp code e.Op)))=true then 1
 else if decide (e.Op=1)=true then (if (!(inB e.N))=true then 2 else 0)
 else if (!(Zo2 code e.Op).2.2 && decide (e.N≠0))=true then 1
 else if ((Zo2 code e.Op).2.2 && (decide (e.N < (Zo2 code e.Op).1) || decide ((Zo2 code e.Op).2.1 < e.N)))=true then 2
 else if Zdp code e.Op=true then XB e.Name else 0
theorem P7 {x e:Zt}(h:x ∈ e.Kids):SizeOf.sizeOf x < SizeOf.sizeOf e:=by
 cases e
 have:=List.sizeOf_lt_of_mem h
 simp at *
 omega
theorem RH (e:Zt):0 < SizeOf.sizeOf e:=by cases e; simp; omega
theorem ZZ.k {e:Zt}(h:ZZ e):e.Kids.length≤4611686018427387:=by have:=h.Kids.1; omega
theorem ZZ.n {e:Zt}(h:ZZ e):e.Name.length≤140737488351232:=h.Name
mutual
def V9 (code:Bool):Zt→Int
 | ⟨o,a,n,ks⟩=>if decide (Fv code ⟨o,a,n,ks⟩≠0)=true then Fv code ⟨o,a,n,ks⟩ else ZaR code ks
def ZaR (code:Bool):List Zt→Int
 | []=>0
 | x :: r=>if decide (V9 code x≠0)=true then V9 code x else ZaR code r
end
theorem Zdq (code:Bool):∀ l:List Zt,ZaR code l=Yb (V9 code) l
 | []=>by rw [ZaR]; rfl
 | x :: r=>by rw [ZaR,Zdq code r]; rfl
theorem ZaQ (code:Bool)(e:Zt):V9 code e=if decide (Fv code e≠0)=true then Fv code e else Yb (V9 code) e.Kids:=by
 cases e; rw [V9,Zdq]
mutual
def Zm4:Zt→Int
 | ⟨_,_,_,ks⟩=>Zm6 ks 1
def Zm6:List Zt→Int→Int
 | [],n=>n
 | x :: r,n=>Zm6 r (IntKind.i64.wrap (n + Zm4 x))
end
theorem Zj6:∀ (l:List Zt) (n:Int),Zm6 l n=sumW Zm4 l n
 | [],n=>by rw [Zm6]; rfl
 | x :: r,n=>by rw [Zm6,Zj6 r]; rfl
theorem Zm5 (e:Zt):Zm4 e=sumW Zm4 e.Kids 1:=by cases e; rw [Zm4,Zj6]
mutual
def ZlN:Zt→Int
 | ⟨_,_,_,ks⟩=>IntKind.i64.wrap (ZmA ks 0 + 1)
def ZmA:List Zt→Int→Int
 | [],n=>n
 | x :: r,n=>ZmA r (if ZlN x > n then ZlN x else n)
end
theorem Zj9:∀ (l:List Zt) (n:Int),ZmA l n=Zpy ZlN l n
 | [],n=>by rw [ZmA]; rfl
 | x :: r,n=>by rw [ZmA,Zj9 r]; rfl
theorem Zm9 (e:Zt):ZlN e=IntKind.i64.wrap (Zpy ZlN e.Kids 0 + 1):=by cases e; rw [ZlN,Zj9]
def ZhG (a b:Zt):Bool:=decide (a.Op≠b.Op) || decide (a.Name≠b.Name) || decide (a.N≠b.N)
mutual
def Nc:Zt→Zt→Bool
 | ⟨o,a,n,ks⟩,e=>if (ZhG ⟨o,a,n,ks⟩ e || decide ((ks.length:Int)≠(e.Kids.length:Int)))=true then false else Zb7 ks e.Kids
def Zb7:List Zt→List Zt→Bool
 | x :: r,y :: s=>if (!(Nc x y))=true then false else Zb7 r s
 | _,_=>true
end
theorem Zhf:∀ l m:List Zt,Zb7 l m=all2 Nc l m
 | [],[]=>by rw [Zb7] <;> simp [all2]
 | [],y :: s=>by rw [Zb7] <;> simp [all2]
 | x :: r,[]=>by rw [Zb7] <;> simp [all2]
 | x :: r,y :: s=>by rw [Zb7,Zhf r s]; rfl
theorem FZ (a b:Zt):Nc a b=if (ZhG a b || decide ((a.Kids.length:Int)≠(b.Kids.length:Int)))=true then false else all2 Nc a.Kids b.Kids:=by
 cases a; rw [Nc,Zhf]
def Zas (op:Int):Int :=
 if (decide (op < 1) || decide (26 < op))=true then -1 else if (decide (5≤op) && decide (op≤8))=true then 1 else if (decide (9≤op) && decide (op≤21))=true then 2 else 0
def Zp2 (op:Int):Int:=if decide (op=25)=true then 15 else if decide (op=26)=true then 31 else 63
def ZkV (code:Bool)(e:Zt):Int :=
 if (!(decide (0≤Zas e.Op) && ((code && decide (e.Op≠3)) || (!code && decide (e.Op≤24)))) || (!(!code && (decide (e.Op=3) || Znv e.Op)) && decide (e.Name≠[])) || (!(decide (e.Op=1) || decide (e.Op=2) || (code && (Znv e.Op || decide (e.Op=25) || decide (e.Op=26)))) && decide (e.N≠0)) || decide ((e.Kids.length:Int)≠Zas e.Op))=true then 1
 else if ((decide (e.Op=1) && !(inB e.N)) || ((decide (e.Op=2) && decide (e.N≠0)) && decide (e.N≠1)) || ((code && (Znv e.Op || decide (e.Op=25) || decide (e.Op=26))) && (decide (e.N < 0) || decide (Zp2 e.Op < e.N))))=true then 2
 else if ((!code && (decide (e.Op=3) || Znv e.Op)) && decide (XB e.Name≠0))=true then XB e.Name else 0
theorem Zww (op:Int):1≤op∧op≤26→op=1∨op=2∨op=3∨op=4∨op=5∨op=6∨op=7∨op=8∨op=9∨op=10∨op=11∨op=12∨op=13∨op=14∨op=15∨op=16∨op=17∨op=18∨op=19∨op=20∨op=21∨op=22∨op=23∨op=24∨op=25∨op=26:=by omega
theorem Zpl (code:Bool)(e:Zt):ZkV code e=Fv code e:=by
 obtain ⟨op,nm,n,ks⟩:=e
 by_cases h:1≤op∧op≤26
 ·rcases Zww op h with rfl | rfl | rfl | rfl | rfl | rfl | rfl | rfl | rfl | rfl | rfl | rfl | rfl | rfl | rfl | rfl | rfl | rfl | rfl | rfl | rfl | rfl | rfl | rfl | rfl | rfl <;> cases code <;> simp [ZkV,Fv,Zas,Zp2,Znv,Zgb,ZaM,Zdp,Zo2] <;> grind
 ·have h1:Zas op=-1:=by simp only [Zas]; rw [if_pos]; simp; omega
  have h2:Zgb op=-1:=by
   simp only [Zgb]
   rw [if_neg (by simp; omega),if_neg (by simp; omega),if_neg (by simp; omega),if_neg (by simp; omega)]
  have h3:ZaM code op=false:=by
   simp only [ZaM,h2]
   rw [if_neg (by simp; omega),if_neg (by simp; omega),if_neg (by simp; omega)]; rfl
  simp [ZkV,Fv,h1,h2,h3]
theorem Znu (code:Bool)(e:Zt):(if decide (ZkV code e≠0)=true then ZkV code e else Yb (V9 code) e.Kids)=V9 code e:=by rw [Zpl,← ZaQ]
def WI (code:Bool)(e:Zt):Int:=if decide (60 < Zm4 e)=true then 6 else if decide (12 < ZlN e)=true then 11 else V9 code e
def Oy (op:Int):U4×Bool:=if decide (op=1)=true then (⟨true,false,true,false,false,false,false,false,false⟩,true) else if decide (op=7)=true then (⟨true,false,true,false,false,false,false,false,false⟩,true) else if decide (op=8)=true then (⟨true,false,true,false,false,false,false,false,false⟩,true) else if decide (op=12)=true then (⟨true,false,true,false,false,false,false,false,false⟩,true) else if decide (op=15)=true then (⟨true,false,true,false,false,false,false,false,false⟩,true) else if decide (op=16)=true then (⟨true,false,true,false,false,false,false,false,false⟩,true) else if decide (op=17)=true then (⟨true,false,true,false,false,false,false,false,false⟩,true) else if decide (op=2)=true then (⟨true,true,false,false,false,true,false,false,false⟩,true) else if decide (op=3)=true then (⟨false,false,true,false,false,false,false,true,true⟩,true) else if decide (op=4)=true then (⟨false,false,true,false,false,false,false,true,false⟩,true) else if decide (op=5)=true then (⟨false,false,true,false,false,false,false,false,false⟩,true) else if decide (op=6)=true then (⟨true,false,true,true,false,false,true,false,false⟩,true) else if decide (op=9)=true then (⟨true,true,false,false,false,false,false,false,false⟩,true) else if decide (op=10)=true then (⟨true,false,false,false,false,false,false,false,false⟩,true) else if decide (op=11)=true then (⟨true,false,false,false,false,false,false,false,false⟩,true) else if decide (op=13)=true then (⟨true,true,true,false,true,false,false,false,false⟩,true) else if decide (op=14)=true then (⟨true,false,true,false,true,false,false,false,false⟩,true) else if decide (op=18)=true then (⟨false,false,false,false,false,false,false,false,false⟩,true) else (⟨false,false,false,false,false,false,false,false,false⟩,false)
def NP (e:Zt):Bool:=decide (e.Op=0) && decide (e.Name=[]) && decide (e.N=0) && decide ((e.Kids.length:Int)=0)
def RU (d:Y9):Bool:=decide (d.Op=0) && decide (d.A=0) && decide (d.B=0) && decide (d.N=0) && decide (d.Values=[]) && decide (d.Weights=[])
def ZhD (s:Zy)(u:U4):Bool :=
 (u.name || decide (s.Name=[])) && (u.of || decide (s.Of=[])) && (u.e || NP s.E) && (u.f || NP s.F) && (u.args || decide ((s.Args.length:Int)=0)) && (u.dist || RU s.Dist) && (u.flag || !s.Flag) && (u.body || decide ((s.Body.length:Int)=0)) && (u.other || decide ((s.Else.length:Int)=0))
def ZmK (s:Zy):Bool :=
 (Oy s.Op).2 && ((((Oy s.Op).1.name || decide (s.Name=[])) && ((Oy s.Op).1.of || decide (s.Of=[])))) && (((Oy s.Op).1.e || NP s.E) && ((Oy s.Op).1.f || NP s.F) && ((Oy s.Op).1.args || decide ((s.Args.length:Int)=0))) && (((Oy s.Op).1.body || decide ((s.Body.length:Int)=0)) && ((Oy s.Op).1.other || decide ((s.Else.length:Int)=0))) && ((Oy s.Op).1.dist || RU s.Dist) && ((Oy s.Op).1.flag || !s.Flag)
theorem Zpe (s:Zy):ZmK s=((Oy s.Op).2 && ZhD s (Oy s.Op).1):=by
 simp only [ZmK,ZhD]
 generalize (Oy s.Op).1=u
 generalize (Oy s.Op).2=b
 ac_rfl
def Zcn (s:Zy)(u:U4):List Zt→Int
 | []=>if u.dist=true then O4 s.Dist else 0
 | x :: r=>if decide (WI false x≠0)=true then WI false x else Zcn s u r
def Zkj (s:Zy)(u:U4):Int:=if decide (6 < (s.Args.length:Int))=true then 6 else Zcn s u s.Args
def Zkl (s:Zy)(u:U4):Int:=if (!u.f)=true then Zkj s u else if decide (WI false s.F≠0)=true then WI false s.F else Zkj s u
def Zkk (s:Zy)(u:U4):Int:=if (!u.e)=true then Zkl s u else if decide (WI false s.E≠0)=true then WI false s.E else Zkl s u
def Zgt (s:Zy)(u:U4):Int :=
 if (u.name && decide (XB s.Name≠0))=true then XB s.Name else if (u.of && decide (XB s.Of≠0))=true then XB s.Of else Zkk s u
theorem Yx.a {s:Zy}(h:Yx s):s.Args.length≤4611686018427387:=by have:=h.Args.1; omega
theorem w01:IntKind.i64.wrap (0 + 1)=1∧IntKind.i64.wrap (1 + 1)=2∧decide ((0:Int) < 2)=true∧decide ((1:Int) < 2)=true∧decide ((2:Int) < 2)=false∧(∀ (α:Type) (a b:α),(([a,b].length:Nat):Int)=2):=⟨by decide,by decide,by decide,by decide,by decide,fun _ _ _=>rfl⟩
theorem ZqZ (s:Zy):SizeOf.sizeOf s.E < SizeOf.sizeOf s∧SizeOf.sizeOf s.F < SizeOf.sizeOf s∧SizeOf.sizeOf s.Args < SizeOf.sizeOf s∧SizeOf.sizeOf s.Body < SizeOf.sizeOf s∧SizeOf.sizeOf s.Else < SizeOf.sizeOf s:=by
 cases s; simp; omega
theorem Zwi {s:Zy}{x:Zt}(h:x ∈ s.Args):SizeOf.sizeOf x < SizeOf.sizeOf s:=by
 have:=List.sizeOf_lt_of_mem h
 have:=(ZqZ s).2.2.1
 omega
def NZ (s:Zy):List Zt→Int→Int
 | [],e=>e
 | x :: r,e=>if decide (e=0)=true then NZ s r (WI false x) else e
def ZaA (s:Zy)(u:U4):Int :=
 NZ s s.Args (if (decide ((if (decide ((if u.e=true then WI false s.E else 0)=0) && u.f)=true then WI false s.F else (if u.e=true then WI false s.E else 0))=0) && decide (6 < (s.Args.length:Int)))=true then 6
  else (if (decide ((if u.e=true then WI false s.E else 0)=0) && u.f)=true then WI false s.F else (if u.e=true then WI false s.E else 0)))
def ZvI (s:Zy):Int :=
 if (!(ZmK s))=true then 1
 else if (((Oy s.Op).1.name && decide (XB s.Name≠0)) || ((Oy s.Op).1.of && decide (XB s.Of≠0)))=true then 3
 else if (decide (ZaA s (Oy s.Op).1=0) && (Oy s.Op).1.dist)=true then ZoX s.Dist else ZaA s (Oy s.Op).1
theorem ZdM (s:Zy)(l:List Zt)(e:Int)(h:e≠0):NZ s l e=e:=by
 cases l <;> simp [NZ,h]
theorem ZcW (s:Zy)(u:U4):∀ l:List Zt,(if (decide (NZ s l 0=0) && u.dist)=true then O4 s.Dist else NZ s l 0)=Zcn s u l
 | []=>by simp [NZ,Zcn]
 | x :: r=>by
  by_cases h:WI false x=0
  ·simp only [NZ,Zcn,h,decide_true,if_true,ne_eq,not_true_eq_false,decide_false,Bool.false_eq_true,if_false]
   exact ZcW s u r
  ·simp [NZ,Zcn,h,ZdM]
def Zle (s:Zy):Int:=if (!(Oy s.Op).2 || !(ZhD s (Oy s.Op).1))=true then 1 else Zgt s (Oy s.Op).1
theorem ZsR (lo hi a:Int):Wx lo hi [a]=btw a lo hi:=by
 simp only [Wx,List.any_cons,List.any_nil,ZqQ,btw,Bool.or_false,Bool.not_or,← decide_not,Int.not_lt]
theorem ZsS (lo hi a b:Int):Wx lo hi [a,b]=(btw a lo hi && btw b lo hi):=by
 simp only [Wx,List.any_cons,List.any_nil,ZqQ,btw,Bool.or_false,Bool.not_or,← decide_not,Int.not_lt]
theorem ZsT (lo hi a:Int)(l:List Int):Wx lo hi (a :: l)=(btw a lo hi && Wx lo hi l):=by
 simp only [Wx,List.any_cons,ZqQ,btw,Bool.not_or,← decide_not,Int.not_lt]
theorem Zre:∀ (l m:List Int),l.length=m.length→Zrd l m=if (!(Wx 0 1000000000 l && Wx 1 1000 m))=true then 2 else 0
 | [],[],_=>by simp [Zrd,Wx]
 | [],y :: m,h=>by simp at h
 | x :: l,[],h=>by simp at h
 | x :: l,y :: m,h=>by
  have ih:=Zre l m (by simpa using h)
  simp only [Zrd,ZsT,ih]
  generalize Wx 0 1000000000 l=c1
  generalize Wx 1 1000 m=c2
  cases btw x 0 1000000000 <;> cases btw y 1 1000 <;> cases c1 <;> cases c2 <;> rfl
theorem Zv8 (a b:Nat):decide ((a:Int) + (b:Int)=0)=(decide ((a:Int)=0) && decide ((b:Int)=0)):=by
 rw [← Bool.decide_and]; congr 1; apply propext; omega
theorem Zou (d:Y9):Zcb d=D6 d:=by
 simp only [Zcb,D6,Zv8]
 by_cases h1:d.Op=1
 ·simp [h1]; ac_rfl
 by_cases h2:d.Op=2
 ·simp [h2,Bool.and_comm]
 by_cases h5:d.Op=5
 ·simp [h5,Bool.and_comm]
 by_cases h3:d.Op=3
 ·simp [h3]
 by_cases h4:d.Op=4
 ·simp [h4]
 simp [h1,h2,h3,h4,h5]
theorem ZdZ (d:Y9):ZoX d=O4 d:=by
 simp only [ZoX,O4,Zou,ZsR,ZsS,Zk1]
 by_cases hu:D6 d=true
 ·simp only [hu]
  by_cases h1:d.Op=1
  ·simp [h1]
  by_cases h2:d.Op=2
  ·simp only [h2,btw]; simp; grind
  by_cases h3:d.Op=3
  ·simp only [h3]
   by_cases hl:d.Values.length=d.Weights.length
   ·rw [Zre _ _ hl]; simp
   ·have:¬ ((d.Values.length:Int)=d.Weights.length):=by omega
    simp [this]
  by_cases h4:d.Op=4
  ·simp only [h4,btw]; simp; grind
  by_cases h5:d.Op=5
  ·simp [h5]
  ·exfalso
   simp [D6,h1,h2,h3,h4,h5] at hu
 ·simp [hu]
theorem Zsk (s:Zy):ZvI s=Zle s:=by
 have n1:=Zgg s.Name
 have n2:=Zgg s.Of
 unfold ZvI Zle Zgt
 rw [Zpe,ZdZ]
 generalize Oy s.Op=w
 obtain ⟨u,b⟩:=w
 simp only
 have key:(if (decide (ZaA s u=0) && u.dist)=true then O4 s.Dist else ZaA s u)=Zkk s u:=by
  have ha:=ZcW s u s.Args
  unfold ZaA Zkk Zkl Zkj
  rcases Bool.eq_false_or_eq_true u.e with h1 | h1 <;> rcases Bool.eq_false_or_eq_true u.f with h3 | h3 <;> rcases Bool.eq_false_or_eq_true (decide (6 < (s.Args.length:Int))) with h5 | h5 <;> by_cases h2:WI false s.E=0 <;> by_cases h4:WI false s.F=0 <;>
   simp only [h1,h2,h3,h4,h5,ne_eq,not_true_eq_false,not_false_eq_true,decide_true,decide_false,BL,IFJ,ZdM,Bool.false_eq_true,if_true,if_false] <;> first | exact ha | (simp [ZdM,h2,h4]; done) | rfl
 rw [key]
 rcases n1 with h1 | h1 <;> rcases n2 with h2 | h2 <;> cases b <;> cases ZhD s u <;> cases u.name <;> cases u.of <;> simp [h1,h2]
mutual
def Zq5:Zy→Int
 | ⟨_,_,_,_,_,_,_,_,b,e⟩=>IntKind.i64.wrap (G9 b (b.length:Int) + G9 e (e.length:Int))
def G9:List Zy→Int→Int
 | [],n=>n
 | x :: r,n=>G9 r (IntKind.i64.wrap (n + Zq5 x))
end
theorem Zrx (s:Zy):Zq5 s=IntKind.i64.wrap (G9 s.Body (s.Body.length:Int) + G9 s.Else (s.Else.length:Int)):=by cases s; rw [Zq5]
mutual
def ZsV:Zy→Int→Int
 | ⟨_,_,_,_,_,_,_,_,b,e⟩,n=>IntKind.i64.wrap (IntKind.i64.wrap (IntKind.i64.wrap (n + 1) + UA b 0) + UA e 0)
def UA:List Zy→Int→Int
 | [],n=>n
 | x :: r,n=>UA r (ZsV x n)
end
theorem Zm3 (s:Zy)(n:Int):ZsV s n=IntKind.i64.wrap (IntKind.i64.wrap (IntKind.i64.wrap (n + 1) + UA s.Body 0) + UA s.Else 0):=by cases s; rw [ZsV]
def mx3 (a b c:Int):Int:=if c > (if b > a then b else a) then c else (if b > a then b else a)
mutual
def Zvg:Zy→Int→Int
 | ⟨_,_,_,_,_,_,_,_,b,e⟩,n=>mx3 n (IntKind.i64.wrap (1 + Bi b 0)) (IntKind.i64.wrap (1 + Bi e 0))
def Bi:List Zy→Int→Int
 | [],n=>n
 | x :: r,n=>Bi r (Zvg x n)
end
theorem Zm8 (s:Zy)(n:Int):Zvg s n=mx3 n (IntKind.i64.wrap (1 + Bi s.Body 0)) (IntKind.i64.wrap (1 + Bi s.Else 0)):=by cases s; rw [Zvg]
mutual
def ZuK:Zy→Int
 | ⟨a,b,c,d,e,f,g,h,i,j⟩=>if decide (Zle ⟨a,b,c,d,e,f,g,h,i,j⟩≠0)=true then Zle ⟨a,b,c,d,e,f,g,h,i,j⟩ else if decide (Xv i≠0)=true then Xv i else Xv j
def Xv:List Zy→Int
 | []=>0
 | x :: r=>if decide (ZuK x≠0)=true then ZuK x else Xv r
end
theorem Zm2 (s:Zy):ZuK s=if decide (Zle s≠0)=true then Zle s else if decide (Xv s.Body≠0)=true then Xv s.Body else Xv s.Else:=by cases s; rw [ZuK]
theorem Zru (b:Bool)(p B E R:Int):(if b=true then 1 else if decide (p≠0)=true then p else if decide (B≠0)=true then B else if decide (E≠0)=true then E else R) =
  if decide ((if decide ((if b=true then 1 else p)≠0)=true then (if b=true then 1 else p) else if decide (B≠0)=true then B else E)≠0)=true then (if decide ((if b=true then 1 else p)≠0)=true then (if b=true then 1 else p) else if decide (B≠0)=true then B else E) else R:=by
 cases b <;> by_cases h1:p=0 <;> by_cases h2:B=0 <;> by_cases h3:E=0 <;> simp [h1,h2,h3]
theorem Zrv (p B E R:Int):(if decide (p=0)=true then (if decide (B=0)=true then (if decide (E≠0)=true then E else R) else if decide (B≠0)=true then B else R) else if decide (p≠0)=true then p else R) =
  if decide ((if decide (p≠0)=true then p else if decide (B≠0)=true then B else E)≠0)=true then (if decide (p≠0)=true then p else if decide (B≠0)=true then B else E) else R:=by
 by_cases h1:p=0 <;> by_cases h2:B=0 <;> by_cases h3:E=0 <;> simp [h1,h2,h3]
theorem Ztd {s:Zy}{l:List Zy}(h:s ∈ l):SizeOf.sizeOf s < SizeOf.sizeOf l∧SizeOf.sizeOf s.Body < SizeOf.sizeOf l∧SizeOf.sizeOf s.Else < SizeOf.sizeOf l:=by
 have:=List.sizeOf_lt_of_mem h
 have:=ZqZ s
 omega
def Zhv (l:List Zy):Prop:=l.length≤4611686018427387∧∀ s ∈ l,Yx s
theorem Yx.b {s:Zy}(h:Yx s):Zhv s.Body∧Zhv s.Else:=by
 have h1:=h.Body; have h2:=h.Else
 exact ⟨⟨by omega,h1.2⟩,by omega,h2.2⟩
theorem Zte (l:List Zy):0 < SizeOf.sizeOf l:=by cases l <;> simp <;> omega
def EQ (l:List Zy):Int:=if decide (200 < G9 l (l.length:Int))=true then 6 else if decide (12 < Bi l 0)=true then 11 else Xv l
def Zh5 (l:List Zy):Int:=if decide (200 < UA l 0)=true then 6 else if decide (12 < Bi l 0)=true then 11 else Xv l
theorem wrK (n:Int):∃ k:Int,IntKind.i64.wrap n=n + 18446744073709551616 * k:=by
 rw [IntKind.wrap_i64]
 exact ⟨-((n + 9223372036854775808) / 18446744073709551616),by omega⟩
theorem wrR (n:Int):-9223372036854775808≤IntKind.i64.wrap n∧IntKind.i64.wrap n≤9223372036854775807:=by
 rw [IntKind.wrap_i64]
 constructor <;> omega
mutual
def trS:Zy→Int
 | ⟨_,_,_,_,_,_,_,_,b,e⟩=>Zqp b + Zqp e
def Zqp:List Zy→Int
 | []=>0
 | x :: r=>1 + trS x + Zqp r
end
mutual
theorem trR:∀ (s:Zy) (n:Int),∃ k:Int,ZsV s n=n + 1 + trS s + 18446744073709551616 * k
 | ⟨_,_,_,_,_,_,_,_,b,e⟩,n=>by
  rw [ZsV,trS]
  obtain ⟨k1,h1⟩:=ZuW b 0
  obtain ⟨k2,h2⟩:=ZuW e 0
  obtain ⟨k3,h3⟩:=wrK (n + 1)
  obtain ⟨k4,h4⟩:=wrK (IntKind.i64.wrap (n + 1) + UA b 0)
  obtain ⟨k5,h5⟩:=wrK (IntKind.i64.wrap (IntKind.i64.wrap (n + 1) + UA b 0) + UA e 0)
  exact ⟨k1 + k2 + k3 + k4 + k5,by omega⟩
theorem ZuW:∀ (l:List Zy) (n:Int),∃ k:Int,UA l n=n + Zqp l + 18446744073709551616 * k
 | [],n=>⟨0,by rw [UA,Zqp]; omega⟩
 | x :: r,n=>by
  rw [UA,Zqp]
  obtain ⟨k1,h1⟩:=trR x n
  obtain ⟨k2,h2⟩:=ZuW r (ZsV x n)
  exact ⟨k1 + k2,by omega⟩
end
mutual
theorem trP:∀ (s:Zy),∃ k:Int,Zq5 s=trS s + 18446744073709551616 * k
 | ⟨_,_,_,_,_,_,_,_,b,e⟩=>by
  rw [Zq5,trS]
  obtain ⟨k1,h1⟩:=ZuV b b.length
  obtain ⟨k2,h2⟩:=ZuV e e.length
  obtain ⟨k3,h3⟩:=wrK (G9 b (b.length:Int) + G9 e (e.length:Int))
  exact ⟨k1 + k2 + k3,by omega⟩
theorem ZuV:∀ (l:List Zy) (n:Int),∃ k:Int,G9 l n=n - l.length + Zqp l + 18446744073709551616 * k
 | [],n=>⟨0,by rw [G9,Zqp]; simp⟩
 | x :: r,n=>by
  rw [G9,Zqp]
  obtain ⟨k1,h1⟩:=trP x
  obtain ⟨k3,h3⟩:=wrK (n + Zq5 x)
  obtain ⟨k2,h2⟩:=ZuV r (IntKind.i64.wrap (n + Zq5 x))
  refine ⟨k1 + k2 + k3,?_⟩
  simp only [List.length_cons]
  omega
end
theorem rgR:∀ (l:List Zy) (n:Int),-9223372036854775808≤n→n≤9223372036854775807→-9223372036854775808≤UA l n∧UA l n≤9223372036854775807
 | [],n,h1,h2=>by rw [UA]; exact ⟨h1,h2⟩
 | x :: r,n,_,_=>by
  have h:=wrR (IntKind.i64.wrap (IntKind.i64.wrap (n + 1) + UA x.Body 0) + UA x.Else 0)
  rw [← Zm3] at h
  rw [UA]
  exact rgR r _ h.1 h.2
theorem rgP:∀ (l:List Zy) (n:Int),-9223372036854775808≤n→n≤9223372036854775807→-9223372036854775808≤G9 l n∧G9 l n≤9223372036854775807
 | [],n,h1,h2=>by rw [G9]; exact ⟨h1,h2⟩
 | x :: r,n,_,_=>by
  have h:=wrR (n + Zq5 x)
  rw [G9]
  exact rgP r _ h.1 h.2
theorem Ztt (l:List Zy)(hl:l.length≤4611686018427387):UA l 0=G9 l (l.length:Int):=by
 obtain ⟨k1,h1⟩:=ZuW l 0
 obtain ⟨k2,h2⟩:=ZuV l l.length
 have r1:=rgR l 0 (by omega) (by omega)
 have r2:=rgP l l.length (by omega) (by omega)
 omega
theorem ZkN (l:List Zy)(hl:l.length≤4611686018427387):Zh5 l=EQ l:=by
 unfold Zh5 EQ
 rw [Ztt l hl]
def YK (a b:Int):Int:=if decide (a≠0)=true then a else b
def Yq (b:Bool)(e:Int):Int:=if b=true then 0 else e
def fitsT (t n:Int):Bool:=if decide (t=1)=true then inB n else if decide (t=2)=true then (decide (n=0) || decide (n=1)) else if decide (t=3)=true then btw n 0 1000000000 else false
def Zhm (t:Int):Bool:=decide (t=1) || decide (t=2) || decide (t=3)
theorem Zk2 (t:Int):Zhm t=btw t 1 3:=by
 simp only [Zhm,btw]
 by_cases h1:t=1
 ·simp [h1]
 by_cases h2:t=2
 ·simp [h2]
 by_cases h3:t=3
 ·simp [h3]
 simp only [h1,h2,h3,decide_false,Bool.or_false]
 by_cases h4:1≤t <;> by_cases h5:t≤3 <;> simp [h4,h5]
 omega
def Zo7 (cyc:Int):Option Int→List JD→Int
 | _,[]=>0
 | p,c :: r=>if (!(btw c.At_ 0 (cyc - 1)) || !(btw c.Units 0 1000))=true then 2 else if (p.isSome && decide (c.At_≤p.getD 0))=true then 12 else Zo7 cyc (some c.At_) r
def Zo6 (d:Zu):Int :=
 if decide ((d.Shift.length:Int)=0)=true then (if decide (d.Cycle≠0)=true then 1 else 0)
 else if decide (20 < (d.Shift.length:Int))=true then 6 else if (!(btw d.Cycle 1 1000000000))=true then 2 else Zo7 d.Cycle none d.Shift
theorem YQ.s {d:Zu}(h:YQ d):d.Shift.length≤4611686018427387:=by have:=h.Shift.1; omega
theorem ZB.st {d:Zd}(h:ZB d):d.Streams.length≤4611686018427387∧d.Counts.length≤4611686018427387∧d.Stores.length≤4611686018427387∧d.Routines.length≤4611686018427387:=by
 have:=h.Streams.1; have:=h.Counts.1; have:=h.Stores.1; have:=h.Routines.1; omega
def ZjA (d:Zd)(f:O6):Int :=
 if (decide (f.Stream=[]) && (!(RU f.Up) || !(RU f.Down)))=true then 1 else if decide (f.Stream=[])=true then 0 else if (!(d.Streams.contains f.Stream))=true then 5 else if decide (O4 f.Up≠0)=true then O4 f.Up else O4 f.Down
def ZvQ (s:Zd)(d:Zu):Int :=
 if decide (YK (Yq (btw d.Units 0 1000) 2) (Zo6 d)≠0)=true then YK (Yq (btw d.Units 0 1000) 2) (Zo6 d)
 else if decide (d.Fault.Stream=[])=true then Yq (RU d.Fault.Up && RU d.Fault.Down) 1
 else if (!(s.Streams.contains d.Fault.Stream))=true then 5 else YK (O4 d.Fault.Up) (O4 d.Fault.Down)
def Zl6 (s:Zd)(d:Zu):Int:=if (!(btw d.Units 0 1000))=true then 2 else if decide (Zo6 d≠0)=true then Zo6 d else ZjA s d.Fault
theorem ZsG (s:Zd)(d:Zu):ZvQ s d=Zl6 s d:=by
 unfold ZvQ Zl6 ZjA YK Yq
 cases btw d.Units 0 1000 <;> by_cases h1:Zo6 d=0 <;> by_cases h2:d.Fault.Stream=[] <;> cases RU d.Fault.Up <;> cases RU d.Fault.Down <;> cases s.Streams.contains d.Fault.Stream <;> simp [h1,h2]
def ZcF (t:Gy)(found:Bool):Int:=if (!found)=true then 5 else if (!(btw t.Coef (-1000) 1000) || decide (t.Coef=0))=true then 2 else 0
def ZcE (d:Zd)(t:Gy):Int:=if decide (t.What=[99,114,101,97,116,101,100])=true then ZcF t ((d.Routines.map (·.Name)).contains t.Name) else if decide (t.What=[101,110,100,101,100])=true then ZcF t ((d.Routines.map (·.Name)).contains t.Name) else if decide (t.What=[105,110,115,105,100,101])=true then ZcF t ((d.Routines.map (·.Name)).contains t.Name) else if decide (t.What=[115,116,111,114,101,100])=true then ZcF t ((d.Stores.map (·.Name)).contains t.Name) else if decide (t.What=[101,110,116,101,114,101,100])=true then ZcF t ((d.Stores.map (·.Name)).contains t.Name) else if decide (t.What=[108,101,102,116])=true then ZcF t ((d.Stores.map (·.Name)).contains t.Name) else if decide (t.What=[99,111,117,110,116,101,100])=true then ZcF t (d.Counts.contains t.Name) else 1
def Aq (s:QC):Int:=if (!(btw s.At_ 0 1000000000) || !(btw s.Every 0 1000000000) || !(btw s.Until 0 1000000000) || (decide (s.Every=0) && decide (s.Until≠0)))=true then 2 else 0
def Zjp (s:QC):Int:=Yq (btw s.At_ 0 1000000000 && btw s.Every 0 1000000000 && btw s.Until 0 1000000000 && (decide (s.Every≠0) || decide (s.Until=0))) 2
theorem Zom (s:QC):Zjp s=Aq s:=by
 unfold Aq Zjp Yq
 cases btw s.At_ 0 1000000000 <;> cases btw s.Every 0 1000000000 <;> cases btw s.Until 0 1000000000 <;> by_cases h1:s.Every=0 <;> by_cases h2:s.Until=0 <;> simp [h1,h2]
def O3 (tl:Int):List YX→List Int→Int
 | p :: ps,a :: ys=>if (!(fitsT p.Ty a))=true then 2 else O3 tl ps ys
 | _,_=>tl
def XR (d:Zd)(s:QC):Int :=
 match d.Routines.find? (fun r=>decide (r.Name=s.Routine)) with
 | none=>5
 | some r=>if decide ((s.Args.length:Int)≠(r.Params.length:Int))=true then 8 else O3 (Aq s) r.Params s.Args
theorem RV.a {s:QC}(h:RV s):s.Args.length≤4611686018427387:=by have:=h.Args.1; omega
theorem Gx.p {r:ZJ}(h:Gx r):r.Params.length≤4611686018427387∧r.Locals.length≤4611686018427387∧Zhv r.Body:=by
 have:=h.Params.1; have:=h.Locals.1; have:=h.Body
 exact ⟨by omega,by omega,by omega,this.2⟩
abbrev Seen:=List (List UInt8)
def Yu (s:List UInt8)(seen:Seen):Int×Seen:=if decide (XB s≠0)=true then (XB s,seen) else if seen.contains s=true then (4,seen) else (0,seen ++ [s])
def Yk (s:List UInt8)(rest:Int)(seen:Seen):Int×Seen:=if decide ((Yu s seen).1≠0)=true then Yu s seen else (rest,(Yu s seen).2)
def Oz (v:XM):Int:=if (!(btw v.Ty 1 3))=true then 1 else if (!(fitsT v.Ty v.N))=true then 2 else 0
def Ot (x:Yj):Int:=if (!(btw x.Room 1 1000))=true then 2 else if (decide (x.Policy < 1) || decide (3 < x.Policy))=true then 1 else 0
def Fb (x:YL):Int:=if (!(btw x.Length 1 1000) || !(btw x.Step 1 1000))=true then 2 else 0
def Qu {α σ:Type}(most:Int)(step:α→σ→Int×σ)(l:List α)(s:σ):Int×σ:=if decide (most < (l.length:Int))=true then (6,s) else Y6 step l s
def Bl {α:Type}(most:Int)(f:α→Int)(l:List α):Int:=if decide (most < (l.length:Int))=true then 6 else Yb f l
def ZaB (f:YX):Int:=if (!(btw f.Ty 1 3))=true then 1 else 0
def ZmF (l:List YX)(s:Seen):Int×Seen:=Y6 (fun f:YX=>Yk f.Name (ZaB f)) l s
def QH (r:ZJ):Int :=
 if (decide (6 < (r.Params.length:Int)) || decide (16 < (r.Params.length:Int) + (r.Locals.length:Int)))=true then 6
 else if decide ((ZmF (r.Params ++ r.Locals) []).1≠0)=true then (ZmF (r.Params ++ r.Locals) []).1 else EQ r.Body
def Zo1 (d:Zd)(l:Zcj):Int :=
 if decide ((l.Terms.length:Int)=0)=true then 7 else if decide (Bl 8 (ZcE d) l.Terms≠0)=true then Bl 8 (ZcE d) l.Terms else if (!(inB l.Total))=true then 2 else 0
theorem ZlT.t {l:Zcj}(h:ZlT l):l.Terms.length≤4611686018427387:=by have:=h.Terms.1; omega
def L8 (d:Zd):Int:=(Qu 32 (fun l:Zcj=>Yk l.Name (Zo1 d l)) d.Laws []).1
abbrev Step:=Seen→Int×Seen
def Zb9 (d:Zd):List Step:=[Qu 32 (fun v:XM=>Yk v.Name (Oz v)) d.Vars,Qu 32 (fun v:Zu=>Yk v.Name (Zl6 d v)) d.Resources,Qu 32 (fun v:Yj=>Yk v.Name (Ot v)) d.Stores,Qu 32 (fun v:YL=>Yk v.Name (Fb v)) d.Belts,Qu 32 Yu d.Queues,Qu 32 Yu d.Streams,Qu 32 Yu d.Tallies,Qu 32 Yu d.Levels,Qu 32 Yu d.Counts,
 Qu 16 (fun v:ZJ=>Yk v.Name (QH v)) d.Routines,fun s=>(Bl 32 (XR d) d.Starts,s),fun s=>(L8 d,s)]
def Zfj (d:Zd):Int:=(Ld (Zb9 d) []).1
theorem ZlU.l {m:Ql}(h:ZlU m):m.Params.length≤4611686018427387∧m.Sites.length≤4611686018427387∧m.Links.length≤4611686018427387:=by
 have:=h.Params.1; have:=h.Sites.1; have:=h.Links.1; omega
def ES (s:List UInt8)(seen:Seen):Int:=YK (XB s) (Yq (!(seen.contains s)) 4)
theorem Zcd (s:List UInt8)(rest:Int)(seen:Seen):(Yk s rest seen).1=YK (ES s seen) rest:=by
 by_cases h1:XB s=0 <;> rcases Bool.eq_false_or_eq_true (seen.contains s) with h2 | h2 <;> simp only [Yk,Yu,ES,YK,Yq,h1,h2] <;> simp [h1]
theorem ZsQ {s:List UInt8}{rest:Int}{seen:Seen}(h:YK (ES s seen) rest=0):(Yk s rest seen)=(0,seen ++ [s]):=by
 by_cases h1:XB s=0 <;> rcases Bool.eq_false_or_eq_true (seen.contains s) with h2 | h2 <;> simp only [ES,YK,Yq,h1,h2] at h <;> simp [h1] at h
 simp only [Yk,Yu,h1,h2]
 simp [h]
theorem Zt2 (f:YX):Yq (Zhm f.Ty) 1=ZaB f:=by
 rw [Zk2]; unfold Yq ZaB; cases btw f.Ty 1 3 <;> rfl
def QB (d:Zd):List (Int×List (List UInt8×Int)):=[(32,d.Vars.map fun v=>(v.Name,Oz v)),(32,d.Resources.map fun v=>(v.Name,Zl6 d v)),(32,d.Stores.map fun v=>(v.Name,Ot v)),(32,d.Belts.map fun v=>(v.Name,Fb v)),(32,d.Queues.map fun v=>(v,0)),(32,d.Streams.map fun v=>(v,0)),(32,d.Tallies.map fun v=>(v,0)),(32,d.Levels.map fun v=>(v,0)),(32,d.Counts.map fun v=>(v,0)),(16,d.Routines.map fun v=>(v.Name,QH v))]
theorem Zu9 (x:Yj):YK (Yq (btw x.Room 1 1000) 2) (Yq (decide (1≤x.Policy) && decide (x.Policy≤3)) 1)=Ot x:=by
 unfold YK Yq Ot
 have e:(decide (x.Policy < 1) || decide (3 < x.Policy))=!(decide (1≤x.Policy) && decide (x.Policy≤3)):=by
  have a1:decide (x.Policy < 1)=!decide (1≤x.Policy):=by rw [← decide_not]; congr 1; apply propext; omega
  have a2:decide (3 < x.Policy)=!decide (x.Policy≤3):=by rw [← decide_not]; congr 1; apply propext; omega
  rw [Bool.not_and,a1,a2]
 rw [e]
 cases btw x.Room 1 1000 <;> cases (decide (1≤x.Policy) && decide (x.Policy≤3)) <;> simp
theorem Zvb (x:YL):Yq (btw x.Length 1 1000 && btw x.Step 1 1000) 2=Fb x:=by
 unfold Yq Fb; cases btw x.Length 1 1000 <;> cases btw x.Step 1 1000 <;> rfl
theorem valueR (v:XM):YK (Yq (Zhm v.Ty) 1) (Yq (fitsT v.Ty v.N) 2)=Oz v:=by
 rw [Zk2]; unfold YK Yq Oz; cases btw v.Ty 1 3 <;> cases fitsT v.Ty v.N <;> rfl
theorem Gp {α β:Type}{f:α→β}{l:List α}{i:Nat}{y:β}(h:(l.map f)[i]? = some y):∃ x,l[i]? = some x∧f x=y:=by
 rw [List.getElem?_map] at h
 exact Option.map_eq_some_iff.1 h
theorem kd (k:Nat):(∀ j:Nat,k=j→decide (((k:Nat):Int)=(j:Int))=true)∧(∀ j:Nat,k≠j→decide (((k:Nat):Int)=(j:Int))=false):=⟨fun j h=>by simp [h],fun j h=>by simp only [decide_eq_false_iff_not]; omega⟩
def UQ (q:List UInt8×Int):Seen→Int×Seen:=Yk q.1 q.2
def stepD (p:Int×List (List UInt8×Int)):Seen→Int×Seen:=Qu p.1 UQ p.2
theorem Zhg {α β σ:Type}(f:α→β)(step:β→σ→Int×σ):∀ (l:List α) (s:σ),Y6 step (l.map f) s=Y6 (fun x=>step (f x)) l s
 | [],s=>rfl
 | x :: r,s=>by rw [List.map_cons,Y6,Y6,Zhg f step r]
theorem GH {α β σ:Type}(f:α→β)(step:β→σ→Int×σ)(most:Int)(l:List α):Qu most step (l.map f)=Qu most (fun x=>step (f x)) l:=by
 funext s; unfold Qu; rw [Zhg,List.length_map]
def Cb (d:Zd)(laws:Int):Int:=if decide (Bl 32 (XR d) d.Starts≠0)=true then Bl 32 (XR d) d.Starts else laws
def Zu8 (d:Zd)(laws:Int):Int:=if decide ((Ld ((QB d).map stepD) []).1≠0)=true then (Ld ((QB d).map stepD) []).1 else Cb d laws
theorem ZsK (d:Zd):Zfj d=Zu8 d (L8 d):=by
 have e:Zb9 d=(QB d).map stepD ++ [fun s=>(Bl 32 (XR d) d.Starts,s),fun s=>(L8 d,s)]:=by
  have f1:stepD (32,d.Vars.map fun v=>(v.Name,Oz v))=Qu 32 (fun v:XM=>Yk v.Name (Oz v)) d.Vars:=GH _ _ _ _
  have f2:stepD (32,d.Resources.map fun v=>(v.Name,Zl6 d v))=Qu 32 (fun v:Zu=>Yk v.Name (Zl6 d v)) d.Resources:=GH _ _ _ _
  have f3:stepD (32,d.Stores.map fun v=>(v.Name,Ot v))=Qu 32 (fun v:Yj=>Yk v.Name (Ot v)) d.Stores:=GH _ _ _ _
  have f4:stepD (32,d.Belts.map fun v=>(v.Name,Fb v))=Qu 32 (fun v:YL=>Yk v.Name (Fb v)) d.Belts:=GH _ _ _ _
  have z:(fun v:List UInt8=>UQ (v,0))=Yu:=by
   funext v s
   show Yk v 0 s=Yu v s
   unfold Yk
   by_cases h:(Yu v s).1=0
   ·simp only [h,ne_eq,not_true_eq_false,decide_false,Bool.false_eq_true,if_false]; rw [← h]
   ·simp [h]
  have f5:∀ l:List (List UInt8),stepD (32,l.map fun v=>(v,0))=Qu 32 Yu l:=fun l=>by rw [stepD,GH,z]
  have f6:stepD (16,d.Routines.map fun v=>(v.Name,QH v))=Qu 16 (fun v:ZJ=>Yk v.Name (QH v)) d.Routines:=GH _ _ _ _
  unfold Zb9 QB
  simp only [List.map_cons,List.map_nil,f1,f2,f3,f4,f5,f6]
  rfl
 have ap:∀ (l:List (Seen→Int×Seen)) (s:Seen),(Ld (l ++ [fun s=>(Bl 32 (XR d) d.Starts,s),fun s=>(L8 d,s)]) s).1=if decide ((Ld l s).1≠0)=true then (Ld l s).1 else Cb d (L8 d):=by
  intro l
  induction l with
  | nil =>
   intro s
   by_cases h:Bl 32 (XR d) d.Starts=0 <;> by_cases h2:L8 d=0 <;> simp [Ld,Cb,h,h2]
  | cons f r ih =>
   intro s
   rw [List.cons_append,Ld,Ld]
   by_cases h:(f s).1=0
   ·simp only [h,ne_eq,not_true_eq_false,decide_false,Bool.false_eq_true,if_false]
    exact ih _
   ·simp [h]
 rw [Zfj,e,ap]
 rfl
theorem ZkQ (d:Zd):∀ (k:Nat) (p:Int×List (List UInt8×Int)),(QB d)[k]? = some p→p.1=if k=9 then 16 else 32
 | 0,p,h=>by cases h; rfl
 | 1,p,h=>by cases h; rfl
 | 2,p,h=>by cases h; rfl
 | 3,p,h=>by cases h; rfl
 | 4,p,h=>by cases h; rfl
 | 5,p,h=>by cases h; rfl
 | 6,p,h=>by cases h; rfl
 | 7,p,h=>by cases h; rfl
 | 8,p,h=>by cases h; rfl
 | 9,p,h=>by cases h; rfl
 | k + 10,p,h=>by simp [QB] at h
theorem Zkx:∀ (l:List (List UInt8×Int)) (s:Seen),(Y6 UQ l s).2.length≤s.length + l.length
 | [],s=>by simp [Y6]
 | x :: r,s=>by
  have ih:=Zkx r (UQ x s).2
  have h1:(UQ x s).2.length≤s.length + 1:=by
   unfold UQ Yk
   split
   ·unfold Yu; split <;> (try split) <;> simp
   ·show (Yu x.1 s).2.length≤_
    unfold Yu; split <;> (try split) <;> simp
  rw [Y6]
  split
  ·simp; omega
  ·simp; omega
theorem Zow {s:List UInt8}{rest:Int}{seen:Seen}(h:(Yk s rest seen).1=0):(Yk s rest seen).2=seen ++ [s]∧s ∉ seen∧rest=0:=by
 rw [Zcd] at h
 have w:=ZsQ h
 refine ⟨by rw [w],?_,?_⟩
 ·intro hm
  have:seen.contains s=true:=by simpa using hm
  simp only [ES,this,YK,Yq] at h
  by_cases h1:XB s=0 <;> simp [h1] at h
 ·by_cases h1:ES s seen=0
  ·simpa [YK,h1] using h
  ·simp [YK,h1] at h
theorem Zoj:∀ (l:List (List UInt8×Int)) (s:Seen),(Y6 UQ l s).1=0→(Y6 UQ l s).2=s ++ l.map (·.1)∧(∀ q ∈ l.map (·.1),q ∉ s)∧(l.map (·.1)).Nodup∧∀ q ∈ l,q.2=0
 | [],s,_=>by simp [Y6]
 | x :: r,s,h=>by
  by_cases hz:(UQ x s).1=0
  ·obtain ⟨w1,w2,w3⟩:=Zow (s := x.1) (rest := x.2) (seen := s) hz
   have e:Y6 UQ (x :: r) s=Y6 UQ r (s ++ [x.1]):=by
    have:(UQ x s).2=s ++ [x.1]:=w1
    simp [Y6,hz,this]
   rw [e] at h ⊢
   obtain ⟨i1,i2,i3,i4⟩:=Zoj r _ h
   refine ⟨by rw [i1]; simp,?_,?_,?_⟩
   ·intro q hq
    rw [List.map_cons] at hq
    rcases List.mem_cons.1 hq with rfl | hq
    ·exact w2
    ·exact fun hm=>i2 q hq (by simp [hm])
   ·rw [List.map_cons,List.nodup_cons]
    exact ⟨fun hm=>i2 x.1 hm (by simp),i3⟩
   ·intro q hq
    rcases List.mem_cons.1 hq with rfl | hq
    ·exact w3
    ·exact i4 q hq
  ·have e:Y6 UQ (x :: r) s=UQ x s:=by simp [Y6,hz]
   rw [e] at h; exact absurd h hz
def Fq (p:Int×List (List UInt8×Int)):List (List UInt8):=p.2.map (·.1)
theorem ZqW:∀ (ds:List (Int×List (List UInt8×Int))) (s:Seen),(Ld (ds.map stepD) s).1=0→ds.Pairwise (fun a b=>∀ x ∈ Fq a,x ∉ Fq b)∧(∀ p ∈ ds,(Fq p).Nodup∧(∀ x ∈ Fq p,x ∉ s)∧∀ q ∈ p.2,q.2=0)
 | [],s,_=>⟨List.Pairwise.nil,fun p h=>by cases h⟩
 | p :: r,s,h=>by
  by_cases hz:(stepD p s).1=0
  ·have e:Ld ((p :: r).map stepD) s=Ld (r.map stepD) (stepD p s).2:=by simp [Ld,hz]
   rw [e] at h
   have hl:¬ p.1 < (p.2.length:Int):=fun hl=>by simp [stepD,Qu,hl] at hz
   have e2:stepD p s=Y6 UQ p.2 s:=by simp [stepD,Qu,hl]
   rw [e2] at hz h
   obtain ⟨w1,w2,w3,w4⟩:=Zoj p.2 s hz
   rw [w1] at h
   obtain ⟨i1,i2⟩:=ZqW r _ h
   refine ⟨List.Pairwise.cons (fun b hb x hx hm=>(i2 b hb).2.1 x hm (by simp [Fq] at hx ⊢; exact .inr hx)) i1,fun a ha=>?_⟩
   rcases List.mem_cons.1 ha with rfl | ha
   ·exact ⟨w3,w2,w4⟩
   ·exact ⟨(i2 a ha).1,fun x hx hm=>(i2 a ha).2.1 x hx (by simp [hm]),(i2 a ha).2.2⟩
  ·have e:Ld ((p :: r).map stepD) s=stepD p s:=by simp [Ld,hz]
   rw [e] at h; exact absurd h hz
def GI (nm:List UInt8):List (List UInt8×List (List UInt8))→List UInt8
 | []=>[]
 | (w,ns) :: r=>if ns.contains nm=true then w else GI nm r
theorem Zdl (nm:List UInt8):∀ l:List (List UInt8×List (List UInt8)),GI nm l=[]∨GI nm l ∈ l.map (·.1)
 | []=>.inl rfl
 | (w,ns) :: r=>by
  rw [GI]
  split
  ·right; simp
  ·rcases Zdl nm r with h | h
   ·exact .inl h
   ·right; rw [List.map_cons]; exact List.mem_cons_of_mem _ h
theorem Zdk (nm:List UInt8):∀ l:List (List UInt8×List (List UInt8)),l.Pairwise (fun a b=>∀ x ∈ a.2,x ∉ b.2)→(l.map (·.1)).Nodup→[] ∉ l.map (·.1)→∀ p ∈ l,(GI nm l=p.1↔nm ∈ p.2)
 | [],_,_,_,p,h=>by cases h
 | (w,ns) :: r,hp,hn,he,p,h=>by
  rw [List.pairwise_cons] at hp
  rw [List.map_cons,List.nodup_cons] at hn
  rw [List.map_cons,List.mem_cons,not_or] at he
  rw [GI]
  by_cases hc:nm ∈ ns
  ·rw [if_pos (by simpa using hc)]
   rcases List.mem_cons.1 h with rfl | h
   ·simp [hc]
   ·refine ⟨fun e=>absurd (List.mem_map_of_mem (f := (·.1)) h) (by show p.1 ∉ _; rw [← e]; exact hn.1),fun hm=>absurd hm (hp.1 p h nm hc)⟩
  ·rw [if_neg (by simpa using hc)]
   rcases List.mem_cons.1 h with rfl | h
   ·refine ⟨fun e=>?_,fun hm=>absurd hm hc⟩
    rcases Zdl nm r with h1 | h1
    ·rw [h1] at e; exact absurd e he.1
    ·rw [e] at h1; exact absurd h1 hn.1
   ·exact Zdk nm r hp.2 hn.2 he.2 p h
def Xw (d:Zd):List (List UInt8×List (List UInt8)):=[([118,97,114],d.Vars.map (·.Name)),([114,101,115,111,117,114,99,101],d.Resources.map (·.Name)),([115,116,111,114,101],d.Stores.map (·.Name)),([98,101,108,116],d.Belts.map (·.Name)),([113,117,101,117,101],d.Queues),([115,116,114,101,97,109],d.Streams),([116,97,108,108,121],d.Tallies),([108,101,118,101,108],d.Levels),([99,111,117,110,116],d.Counts),([114,111,117,116,105,110,101],d.Routines.map (·.Name))]
theorem ZjQ (d:Zd):(Xw d).map (·.2)=(QB d).map Fq:=by
 simp [Xw,QB,Fq,Function.comp_def]
end Go.Proofs.YtleomfgijkapfaaGreatDoor
end
