import Derived.Test.YtbcfddaocfpckaaGreatDoorHSt3
set_option linter.all false
section
namespace Go.Proofs.YtbcfddaocfpckaaGreatDoor
open Go Go.Proofs.YtbcfddaocfpckaaGreatDoor.Abs
set_option maxRecDepth 100000
def Zcw (n:Int):Bool:=decide (97≤n) && decide (n≤122)
def Bf (n:Int):Bool:=Zcw n || decide (n=95) || (decide (48≤n) && decide (n≤57))
def kws:List (List UInt8):=[[97,100,100],[97,102,116,101,114],[97,110,100],[97,116],[98,101,108,116],[98,111,111,108],[99,111,110,115,101,114,118,101],[99,111,110,115,116],[99,111,117,110,116],[99,121,99,108,101],[100,111,119,110],[100,114,97,119],[100,117,114],[101,108,115,101],[101,110,100],[101,118,101,114,121],[102,97,108,115,101],[102,97,117,108,116],[102,105,102,111],[102,114,101,101],[102,114,111,109],[103,101,111,109],[103,101,116],[104,111,108,100],[105,102],[105,110,116],[105,110,116,111],[108,101,97,115,116],[108,101,118,101,108],[108,105,102,111],[108,105,110,107],[108,111,99,97,108],[109,97,120],[109,105,110],[109,111,100,101,108],[110,111,116],[110,111,119],[111,98,115,101,114,118,101],[111,114],[112,97,114,97,109],[112,114,101,101,109,112,116],[112,114,105,111],[112,117,116],[113,117,101,117,101],[114,101,108,101,97,115,101],[114,101,115,111,117,114,99,101],[114,105,100,101],[114,111,117,116,105,110,101],[115,101,105,122,101],[115,101,110,100],[115,101,116],[115,104,105,102,116],[115,105,103,110,97,108],[115,105,116,101],[115,105,122,101],[115,112,97,119,110],[115,116,97,114,116],[115,116,111,112],[115,116,111,114,101],[115,116,114,101,97,109],[115,117,109],[116,97,98,108,101],[116,97,108,108,121],[116,105,99,107,115],[116,105,109,101],[116,114,117,101],[117,110,105,102,111,114,109],[117,110,116,105,108],[117,112],[118,97,114],[119,97,105,116],[119,97,105,116,105,110,103],[119,104,105,108,101]]
def kwB (s:List UInt8):Bool:=kws.any fun k=>decide (s=k)
def Xb (s:List UInt8):Int :=
 match s with
 | []=>3
 | c :: r=>if 24 < (c :: r).length∨Zcw c.toNat=false∨kwB (c :: r)=true then 3 else if (c :: r).all (fun x=>Bf x.toNat) then 0 else 3
def inB (n:Int):Bool:=decide (-1000000000000≤n) && decide (n≤1000000000000)
theorem KQ (s:List UInt8):Xb s=0∨Xb s=3:=by
 unfold Xb
 split
 ·exact .inr rfl
 ·split
  ·exact .inr rfl
  ·split
   ·exact .inl rfl
   ·exact .inr rfl
def XU {α σ:Type}(step:α→σ→Int×σ):List α→σ→Int×σ
 | [],s=>(0,s)
 | x :: r,s=>if decide ((step x s).1≠0)=true then step x s else XU step r (step x s).2
def ZeA {σ:Type}:List (σ→Int×σ)→σ→Int×σ
 | [],s=>(0,s)
 | f :: r,s=>if decide ((f s).1≠0)=true then f s else ZeA r (f s).2
theorem Zbv {n:Int}(h1:-9223372036854775808≤n)(h2:n≤9223372036854775807):IntKind.i64.wrap n=n:=i64_in h1 h2
def ZaC (a b:ZF):Bool:=decide (a.Op=b.Op) && decide (a.A=b.A) && decide (a.B=b.B) && decide (a.N=b.N) && decide (a.Values=b.Values) && decide (a.Weights=b.Weights)
def btw (x lo hi:Int):Bool:=decide (lo≤x) && decide (x≤hi)
def UT (d:ZF):Bool :=
 if decide (d.Op=1)=true then decide ((d.Values.length:Int) + d.Weights.length=0) && decide (d.B=0) && decide (d.N=0)
 else if decide (d.Op=2)=true then decide ((d.Values.length:Int) + d.Weights.length=0) && decide (d.N=0)
 else if decide (d.Op=5)=true then decide ((d.Values.length:Int) + d.Weights.length=0) && decide (d.N=0)
 else if decide (d.Op=4)=true then decide ((d.Values.length:Int) + d.Weights.length=0)
 else if decide (d.Op=3)=true then decide (d.A=0) && decide (d.B=0) && decide (d.N=0)
 else false
theorem WE.v {d:ZF}(h:WE d):d.Values.length≤4611686018427387:=by have:=h.Values.1; omega
theorem WE.w {d:ZF}(h:WE d):d.Weights.length≤4611686018427387:=by have:=h.Weights.1; omega
theorem WE.wr {d:ZF}(h:WE d):IntKind.i64.wrap ((d.Values.length:Int) + (d.Weights.length:Int))=(d.Values.length:Int) + (d.Weights.length:Int):=by
 have:=h.v; have:=h.w; exact Zbv (by omega) (by omega)
def MI (d:ZF):Bool :=
 if decide (d.Op=1)=true then decide (d.B=0) && decide (d.N=0) && (decide ((d.Values.length:Int)=0) && decide ((d.Weights.length:Int)=0))
 else if decide (d.Op=2)=true then decide (d.N=0) && (decide ((d.Values.length:Int)=0) && decide ((d.Weights.length:Int)=0))
 else if decide (d.Op=5)=true then decide (d.N=0) && (decide ((d.Values.length:Int)=0) && decide ((d.Weights.length:Int)=0))
 else if decide (d.Op=3)=true then decide (d.A=0) && decide (d.B=0) && decide (d.N=0)
 else if decide (d.Op=4)=true then (decide ((d.Values.length:Int)=0) && decide ((d.Weights.length:Int)=0))
 else false
def Zc0 (lo hi:Int)(x:Int):Bool:=decide (x < lo) || decide (hi < x)
def DT {α:Type}(f:α→Bool):List α→Int→Int
 | [],_=>-1
 | x :: r,i=>if f x=true then i else DT f r (i + 1)
theorem Bi {α:Type}(f:α→Bool):∀ (l:List α) (i:Int),0≤i→decide (0≤DT f l i)=l.any f
 | [],i,h=>by simp [DT]
 | x :: r,i,h=>by
  have ih:=Bi f r (i + 1) (by omega)
  cases hx:f x <;> simp [DT,hx,h]
  simpa using ih
def Yh (lo hi:Int)(l:List Int):Bool:=!(l.any (Zc0 lo hi))
def Vh (d:ZF):Int :=
 if (!(UT d))=true then 1
 else if decide (d.Op=1)=true then (if (!(Yh 0 1000000000 [d.A]))=true then 2 else 0)
 else if decide (d.Op=2)=true then (if (!(Yh 0 1000000000 [d.A,d.B] && decide (d.A≤d.B)))=true then 2 else 0)
 else if decide (d.Op=4)=true then (if (!(Yh 1 20 [d.N] && Yh 0 1000000 [d.A,d.B] && decide (d.A≤d.B)))=true then 2 else 0)
 else if decide (d.Op=5)=true then (if (!(Yh 1 1000 [d.A,d.B]))=true then 2 else 0)
 else if decide (d.Op=3)=true then
  (if decide ((d.Values.length:Int)≠(d.Weights.length:Int))=true then 8 else if decide ((d.Values.length:Int)=0)=true then 7 else if decide (20 < (d.Values.length:Int))=true then 6
   else if (!(Yh 0 1000000000 d.Values && Yh 1 1000 d.Weights))=true then 2 else 0)
 else 2
def Zc7:List Int→List Int→Int
 | x :: r,y :: s=>if (!(btw x 0 1000000000) || !(btw y 1 1000))=true then 2 else Zc7 r s
 | _,_=>0
def Fz (d:ZF):Int :=
 if decide ((d.Values.length:Int)≠(d.Weights.length:Int))=true then 8 else if decide ((d.Values.length:Int)=0)=true then 7 else if decide (20 < (d.Values.length:Int))=true then 6 else Zc7 d.Values d.Weights
def Zb9 (d:ZF):Int :=
 if (!(MI d))=true then 1
 else if decide (d.Op=1)=true then (if (!(btw d.A 0 1000000000))=true then 2 else 0)
 else if decide (d.Op=2)=true then (if (!(btw d.A 0 d.B && decide (d.B≤1000000000)))=true then 2 else 0)
 else if decide (d.Op=3)=true then Fz d
 else if decide (d.Op=4)=true then (if (!(btw d.N 1 20 && btw d.A 0 d.B && decide (d.B≤1000000)))=true then 2 else 0)
 else if decide (d.Op=5)=true then (if (!(btw d.A 1 1000 && btw d.B 1 1000))=true then 2 else 0)
 else 0
def Zb2 (op:Int):Bool:=decide (22≤op) && decide (op≤24)
def U4 (op:Int):Int :=
 if (decide (op=1) || decide (op=2) || decide (op=3) || decide (op=4))=true then 0
 else if (decide (5≤op) && decide (op≤8))=true then 1
 else if (decide (9≤op) && decide (op≤21))=true then 2
 else if (decide (22≤op) && decide (op≤26))=true then 0 else -1
def OV (code:Bool)(op:Int):Bool :=
 if decide (op=3)=true then !code else if decide (op=25)=true then code else if decide (op=26)=true then code else decide (0≤U4 op)
def PM (code:Bool)(op:Int):Bool:=decide (op=3) || (Zb2 op && !code)
def Zb1 (code:Bool)(op:Int):Int×Int×Bool :=
 if decide (op=2)=true then (0,1,true) else if decide (op=25)=true then (0,15,true) else if decide (op=26)=true then (0,31,true) else if (Zb2 op && code)=true then (0,63,true) else (0,0,false)
def KT (code:Bool)(e:Zi):Int :=
 if (!(OV code e.Op) || decide ((e.Kids.length:Int)≠U4 e.Op) || (decide (e.Name≠[]) && !(PM code e.Op)))=true then 1
 else if decide (e.Op=1)=true then (if (!(inB e.N))=true then 2 else 0)
 else if (!(Zb1 code e.Op).2.2 && decide (e.N≠0))=true then 1
 else if ((Zb1 code e.Op).2.2 && (decide (e.N < (Zb1 code e.Op).1) || decide ((Zb1 code e.Op).2.1 < e.N)))=true then 2
 else if PM code e.Op=true then Xb e.Name else 0
theorem Uk {x e:Zi}(h:x ∈ e.Kids):SizeOf.sizeOf x < SizeOf.sizeOf e:=by
 cases e
 have:=List.sizeOf_lt_of_mem h
 simp at *
 omega
theorem VX (e:Zi):0 < SizeOf.sizeOf e:=by cases e; simp; omega
theorem ZA.k {e:Zi}(h:ZA e):e.Kids.length≤4611686018427387:=by have:=h.Kids.1; omega
theorem ZA.n {e:Zi}(h:ZA e):e.Name.length≤140737488351232:=h.Name
mutual
def Yj (code:Bool):Zi→Int
 | ⟨o,a,n,ks⟩=>if decide (KT code ⟨o,a,n,ks⟩≠0)=true then KT code ⟨o,a,n,ks⟩ else OX code ks
def OX (code:Bool):List Zi→Int
 | []=>0
 | x :: r=>if decide (Yj code x≠0)=true then Yj code x else OX code r
end
theorem Rh (code:Bool):∀ l:List Zi,OX code l=XM (Yj code) l
 | []=>by rw [OX]; rfl
 | x :: r=>by rw [OX,Rh code r]; rfl
theorem OW (code:Bool)(e:Zi):Yj code e=if decide (KT code e≠0)=true then KT code e else XM (Yj code) e.Kids:=by
 cases e; rw [Yj,Rh]
mutual
def Zb0:Zi→Int
 | ⟨_,_,_,ks⟩=>Za7 ks 1
def Za7:List Zi→Int→Int
 | [],n=>n
 | x :: r,n=>Za7 r (IntKind.i64.wrap (n + Zb0 x))
end
theorem Aq:∀ (l:List Zi) (n:Int),Za7 l n=sumW Zb0 l n
 | [],n=>by rw [Za7]; rfl
 | x :: r,n=>by rw [Za7,Aq r]; rfl
theorem Za6 (e:Zi):Zb0 e=sumW Zb0 e.Kids 1:=by cases e; rw [Zb0,Aq]
mutual
def Za9:Zi→Int
 | ⟨_,_,_,ks⟩=>IntKind.i64.wrap (ZaB ks 0 + 1)
def ZaB:List Zi→Int→Int
 | [],n=>n
 | x :: r,n=>ZaB r (if Za9 x > n then Za9 x else n)
end
theorem Ar:∀ (l:List Zi) (n:Int),ZaB l n=ZbK Za9 l n
 | [],n=>by rw [ZaB]; rfl
 | x :: r,n=>by rw [ZaB,Ar r]; rfl
theorem ZaA (e:Zi):Za9 e=IntKind.i64.wrap (ZbK Za9 e.Kids 0 + 1):=by cases e; rw [Za9,Ar]
def CB (a b:Zi):Bool:=decide (a.Op≠b.Op) || decide (a.Name≠b.Name) || decide (a.N≠b.N)
mutual
def LC:Zi→Zi→Bool
 | ⟨o,a,n,ks⟩,e=>if (CB ⟨o,a,n,ks⟩ e || decide ((ks.length:Int)≠(e.Kids.length:Int)))=true then false else TM ks e.Kids
def TM:List Zi→List Zi→Bool
 | x :: r,y :: s=>if (!(LC x y))=true then false else TM r s
 | _,_=>true
end
theorem NM:∀ l m:List Zi,TM l m=all2 LC l m
 | [],[]=>by rw [TM] <;> simp [all2]
 | [],y :: s=>by rw [TM] <;> simp [all2]
 | x :: r,[]=>by rw [TM] <;> simp [all2]
 | x :: r,y :: s=>by rw [TM,NM r s]; rfl
theorem Dq (a b:Zi):LC a b=if (CB a b || decide ((a.Kids.length:Int)≠(b.Kids.length:Int)))=true then false else all2 LC a.Kids b.Kids:=by
 cases a; rw [LC,NM]
def OI (op:Int):Int :=
 if (decide (op < 1) || decide (26 < op))=true then -1 else if (decide (5≤op) && decide (op≤8))=true then 1 else if (decide (9≤op) && decide (op≤21))=true then 2 else 0
def ZbL (op:Int):Int:=if decide (op=25)=true then 15 else if decide (op=26)=true then 31 else 63
def C9 (code:Bool)(e:Zi):Int :=
 if (!(decide (0≤OI e.Op) && ((code && decide (e.Op≠3)) || (!code && decide (e.Op≤24)))) || (!(!code && (decide (e.Op=3) || Zb2 e.Op)) && decide (e.Name≠[])) || (!(decide (e.Op=1) || decide (e.Op=2) || (code && (Zb2 e.Op || decide (e.Op=25) || decide (e.Op=26)))) && decide (e.N≠0)) || decide ((e.Kids.length:Int)≠OI e.Op))=true then 1
 else if ((decide (e.Op=1) && !(inB e.N)) || ((decide (e.Op=2) && decide (e.N≠0)) && decide (e.N≠1)) || ((code && (Zb2 e.Op || decide (e.Op=25) || decide (e.Op=26))) && (decide (e.N < 0) || decide (ZbL e.Op < e.N))))=true then 2
 else if ((!code && (decide (e.Op=3) || Zb2 e.Op)) && decide (Xb e.Name≠0))=true then Xb e.Name else 0
theorem ZfB (op:Int):1≤op∧op≤26→op=1∨op=2∨op=3∨op=4∨op=5∨op=6∨op=7∨op=8∨op=9∨op=10∨op=11∨op=12∨op=13∨op=14∨op=15∨op=16∨op=17∨op=18∨op=19∨op=20∨op=21∨op=22∨op=23∨op=24∨op=25∨op=26:=by omega
theorem ZbC (code:Bool)(e:Zi):C9 code e=KT code e:=by
 obtain ⟨op,nm,n,ks⟩:=e
 by_cases h:1≤op∧op≤26
 ·rcases ZfB op h with rfl | rfl | rfl | rfl | rfl | rfl | rfl | rfl | rfl | rfl | rfl | rfl | rfl | rfl | rfl | rfl | rfl | rfl | rfl | rfl | rfl | rfl | rfl | rfl | rfl | rfl <;> cases code <;> simp [C9,KT,OI,ZbL,Zb2,U4,OV,PM,Zb1] <;> grind
 ·have h1:OI op=-1:=by simp only [OI]; rw [if_pos]; simp; omega
  have h2:U4 op=-1:=by
   simp only [U4]
   rw [if_neg (by simp; omega),if_neg (by simp; omega),if_neg (by simp; omega),if_neg (by simp; omega)]
  have h3:OV code op=false:=by
   simp only [OV,h2]
   rw [if_neg (by simp; omega),if_neg (by simp; omega),if_neg (by simp; omega)]; rfl
  simp [C9,KT,h1,h2,h3]
theorem ZaR (code:Bool)(e:Zi):(if decide (C9 code e≠0)=true then C9 code e else XM (Yj code) e.Kids)=Yj code e:=by rw [ZbC,← OW]
def Y1 (code:Bool)(e:Zi):Int:=if decide (60 < Zb0 e)=true then 6 else if decide (12 < Za9 e)=true then 11 else Yj code e
def Q4 (op:Int):QL×Bool:=if decide (op=1)=true then (⟨true,false,true,false,false,false,false,false,false⟩,true) else if decide (op=7)=true then (⟨true,false,true,false,false,false,false,false,false⟩,true) else if decide (op=8)=true then (⟨true,false,true,false,false,false,false,false,false⟩,true) else if decide (op=12)=true then (⟨true,false,true,false,false,false,false,false,false⟩,true) else if decide (op=15)=true then (⟨true,false,true,false,false,false,false,false,false⟩,true) else if decide (op=16)=true then (⟨true,false,true,false,false,false,false,false,false⟩,true) else if decide (op=17)=true then (⟨true,false,true,false,false,false,false,false,false⟩,true) else if decide (op=2)=true then (⟨true,true,false,false,false,true,false,false,false⟩,true) else if decide (op=3)=true then (⟨false,false,true,false,false,false,false,true,true⟩,true) else if decide (op=4)=true then (⟨false,false,true,false,false,false,false,true,false⟩,true) else if decide (op=5)=true then (⟨false,false,true,false,false,false,false,false,false⟩,true) else if decide (op=6)=true then (⟨true,false,true,true,false,false,true,false,false⟩,true) else if decide (op=9)=true then (⟨true,true,false,false,false,false,false,false,false⟩,true) else if decide (op=10)=true then (⟨true,false,false,false,false,false,false,false,false⟩,true) else if decide (op=11)=true then (⟨true,false,false,false,false,false,false,false,false⟩,true) else if decide (op=13)=true then (⟨true,true,true,false,true,false,false,false,false⟩,true) else if decide (op=14)=true then (⟨true,false,true,false,true,false,false,false,false⟩,true) else if decide (op=18)=true then (⟨false,false,false,false,false,false,false,false,false⟩,true) else (⟨false,false,false,false,false,false,false,false,false⟩,false)
def ML (e:Zi):Bool:=decide (e.Op=0) && decide (e.Name=[]) && decide (e.N=0) && decide ((e.Kids.length:Int)=0)
def G8 (d:ZF):Bool:=decide (d.Op=0) && decide (d.A=0) && decide (d.B=0) && decide (d.N=0) && decide (d.Values=[]) && decide (d.Weights=[])
def PE (s:Zd)(u:QL):Bool :=
 (u.name || decide (s.Name=[])) && (u.of || decide (s.Of=[])) && (u.e || ML s.E) && (u.f || ML s.F) && (u.args || decide ((s.Args.length:Int)=0)) && (u.dist || G8 s.Dist) && (u.flag || !s.Flag) && (u.body || decide ((s.Body.length:Int)=0)) && (u.other || decide ((s.Else.length:Int)=0))
def ZaF (s:Zd):Bool :=
 (Q4 s.Op).2 && ((((Q4 s.Op).1.name || decide (s.Name=[])) && ((Q4 s.Op).1.of || decide (s.Of=[])))) && (((Q4 s.Op).1.e || ML s.E) && ((Q4 s.Op).1.f || ML s.F) && ((Q4 s.Op).1.args || decide ((s.Args.length:Int)=0))) && (((Q4 s.Op).1.body || decide ((s.Body.length:Int)=0)) && ((Q4 s.Op).1.other || decide ((s.Else.length:Int)=0))) && ((Q4 s.Op).1.dist || G8 s.Dist) && ((Q4 s.Op).1.flag || !s.Flag)
theorem ZbA (s:Zd):ZaF s=((Q4 s.Op).2 && PE s (Q4 s.Op).1):=by
 simp only [ZaF,PE]
 generalize (Q4 s.Op).1=u
 generalize (Q4 s.Op).2=b
 ac_rfl
def KL (s:Zd)(u:QL):List Zi→Int
 | []=>if u.dist=true then Vh s.Dist else 0
 | x :: r=>if decide (Y1 false x≠0)=true then Y1 false x else KL s u r
def Rk (s:Zd)(u:QL):Int:=if decide (6 < (s.Args.length:Int))=true then 6 else KL s u s.Args
def Rn (s:Zd)(u:QL):Int:=if (!u.f)=true then Rk s u else if decide (Y1 false s.F≠0)=true then Y1 false s.F else Rk s u
def Rl (s:Zd)(u:QL):Int:=if (!u.e)=true then Rn s u else if decide (Y1 false s.E≠0)=true then Y1 false s.E else Rn s u
def Ro (s:Zd)(u:QL):Int :=
 if (u.name && decide (Xb s.Name≠0))=true then Xb s.Name else if (u.of && decide (Xb s.Of≠0))=true then Xb s.Of else Rl s u
theorem ZB.a {s:Zd}(h:ZB s):s.Args.length≤4611686018427387:=by have:=h.Args.1; omega
theorem w01:IntKind.i64.wrap (0 + 1)=1∧IntKind.i64.wrap (1 + 1)=2∧decide ((0:Int) < 2)=true∧decide ((1:Int) < 2)=true∧decide ((2:Int) < 2)=false∧(∀ (α:Type) (a b:α),(([a,b].length:Nat):Int)=2):=⟨by decide,by decide,by decide,by decide,by decide,fun _ _ _=>rfl⟩
theorem Fv (s:Zd):SizeOf.sizeOf s.E < SizeOf.sizeOf s∧SizeOf.sizeOf s.F < SizeOf.sizeOf s∧SizeOf.sizeOf s.Args < SizeOf.sizeOf s∧SizeOf.sizeOf s.Body < SizeOf.sizeOf s∧SizeOf.sizeOf s.Else < SizeOf.sizeOf s:=by
 cases s; simp; omega
theorem ZeN {s:Zd}{x:Zi}(h:x ∈ s.Args):SizeOf.sizeOf x < SizeOf.sizeOf s:=by
 have:=List.sizeOf_lt_of_mem h
 have:=(Fv s).2.2.1
 omega
def GX (s:Zd):List Zi→Int→Int
 | [],e=>e
 | x :: r,e=>if decide (e=0)=true then GX s r (Y1 false x) else e
def OL (s:Zd)(u:QL):Int :=
 GX s s.Args (if (decide ((if (decide ((if u.e=true then Y1 false s.E else 0)=0) && u.f)=true then Y1 false s.F else (if u.e=true then Y1 false s.E else 0))=0) && decide (6 < (s.Args.length:Int)))=true then 6
  else (if (decide ((if u.e=true then Y1 false s.E else 0)=0) && u.f)=true then Y1 false s.F else (if u.e=true then Y1 false s.E else 0)))
def Zfg (s:Zd):Int :=
 if (!(ZaF s))=true then 1
 else if (((Q4 s.Op).1.name && decide (Xb s.Name≠0)) || ((Q4 s.Op).1.of && decide (Xb s.Of≠0)))=true then 3
 else if (decide (OL s (Q4 s.Op).1=0) && (Q4 s.Op).1.dist)=true then Zb9 s.Dist else OL s (Q4 s.Op).1
theorem Bd (s:Zd)(l:List Zi)(e:Int)(h:e≠0):GX s l e=e:=by
 cases l <;> simp [GX,h]
theorem LY (s:Zd)(u:QL):∀ l:List Zi,(if (decide (GX s l 0=0) && u.dist)=true then Vh s.Dist else GX s l 0)=KL s u l
 | []=>by simp [GX,KL]
 | x :: r=>by
  by_cases h:Y1 false x=0
  ·simp only [GX,KL,h,decide_true,if_true,ne_eq,not_true_eq_false,decide_false,Bool.false_eq_true,if_false]
   exact LY s u r
  ·simp [GX,KL,h,Bd]
def PO (s:Zd):Int:=if (!(Q4 s.Op).2 || !(PE s (Q4 s.Op).1))=true then 1 else Ro s (Q4 s.Op).1
theorem Zdz (lo hi a:Int):Yh lo hi [a]=btw a lo hi:=by
 simp only [Yh,List.any_cons,List.any_nil,Zc0,btw,Bool.or_false,Bool.not_or,← decide_not,Int.not_lt]
theorem Zd0 (lo hi a b:Int):Yh lo hi [a,b]=(btw a lo hi && btw b lo hi):=by
 simp only [Yh,List.any_cons,List.any_nil,Zc0,btw,Bool.or_false,Bool.not_or,← decide_not,Int.not_lt]
theorem Zd1 (lo hi a:Int)(l:List Int):Yh lo hi (a :: l)=(btw a lo hi && Yh lo hi l):=by
 simp only [Yh,List.any_cons,Zc0,btw,Bool.not_or,← decide_not,Int.not_lt]
theorem Zc8:∀ (l m:List Int),l.length=m.length→Zc7 l m=if (!(Yh 0 1000000000 l && Yh 1 1000 m))=true then 2 else 0
 | [],[],_=>by simp [Zc7,Yh]
 | [],y :: m,h=>by simp at h
 | x :: l,[],h=>by simp at h
 | x :: l,y :: m,h=>by
  have ih:=Zc8 l m (by simpa using h)
  simp only [Zc7,Zd1,ih]
  generalize Yh 0 1000000000 l=c1
  generalize Yh 1 1000 m=c2
  cases btw x 0 1000000000 <;> cases btw y 1 1000 <;> cases c1 <;> cases c2 <;> rfl
theorem Zfe (a b:Nat):decide ((a:Int) + (b:Int)=0)=(decide ((a:Int)=0) && decide ((b:Int)=0)):=by
 rw [← Bool.decide_and]; congr 1; apply propext; omega
theorem Zbs (d:ZF):MI d=UT d:=by
 simp only [MI,UT,Zfe]
 by_cases h1:d.Op=1
 ·simp [h1]; ac_rfl
 by_cases h2:d.Op=2
 ·simp [h2,Bool.and_comm]
 by_cases h5:d.Op=5
 ·simp [h5,Bool.and_comm]
 by_cases h3:d.Op=3
 ·simp [h3]
 by_cases h4:d.Op=4
 ·simp [h4]
 simp [h1,h2,h3,h4,h5]
theorem Bg (d:ZF):Zb9 d=Vh d:=by
 simp only [Zb9,Vh,Zbs,Zdz,Zd0,Fz]
 by_cases hu:UT d=true
 ·simp only [hu]
  by_cases h1:d.Op=1
  ·simp [h1]
  by_cases h2:d.Op=2
  ·simp only [h2,btw]; simp; grind
  by_cases h3:d.Op=3
  ·simp only [h3]
   by_cases hl:d.Values.length=d.Weights.length
   ·rw [Zc8 _ _ hl]; simp
   ·have:¬ ((d.Values.length:Int)=d.Weights.length):=by omega
    simp [this]
  by_cases h4:d.Op=4
  ·simp only [h4,btw]; simp; grind
  by_cases h5:d.Op=5
  ·simp [h5]
  ·exfalso
   simp [UT,h1,h2,h3,h4,h5] at hu
 ·simp [hu]
theorem Zdc (s:Zd):Zfg s=PO s:=by
 have n1:=KQ s.Name
 have n2:=KQ s.Of
 unfold Zfg PO Ro
 rw [ZbA,Bg]
 generalize Q4 s.Op=w
 obtain ⟨u,b⟩:=w
 simp only
 have key:(if (decide (OL s u=0) && u.dist)=true then Vh s.Dist else OL s u)=Rl s u:=by
  have ha:=LY s u s.Args
  unfold OL Rl Rn Rk
  rcases Bool.eq_false_or_eq_true u.e with h1 | h1 <;> rcases Bool.eq_false_or_eq_true u.f with h3 | h3 <;> rcases Bool.eq_false_or_eq_true (decide (6 < (s.Args.length:Int))) with h5 | h5 <;> by_cases h2:Y1 false s.E=0 <;> by_cases h4:Y1 false s.F=0 <;>
   simp only [h1,h2,h3,h4,h5,ne_eq,not_true_eq_false,not_false_eq_true,decide_true,decide_false,BL,IFJ,Bd,Bool.false_eq_true,if_true,if_false] <;> first | exact ha | (simp [Bd,h2,h4]; done) | rfl
 rw [key]
 rcases n1 with h1 | h1 <;> rcases n2 with h2 | h2 <;> cases b <;> cases PE s u <;> cases u.name <;> cases u.of <;> simp [h1,h2]
mutual
def Zcs:Zd→Int
 | ⟨_,_,_,_,_,_,_,_,b,e⟩=>IntKind.i64.wrap (XL b (b.length:Int) + XL e (e.length:Int))
def XL:List Zd→Int→Int
 | [],n=>n
 | x :: r,n=>XL r (IntKind.i64.wrap (n + Zcs x))
end
theorem ZcL (s:Zd):Zcs s=IntKind.i64.wrap (XL s.Body (s.Body.length:Int) + XL s.Else (s.Else.length:Int)):=by cases s; rw [Zcs]
mutual
def Zd2:Zd→Int→Int
 | ⟨_,_,_,_,_,_,_,_,b,e⟩,n=>IntKind.i64.wrap (IntKind.i64.wrap (IntKind.i64.wrap (n + 1) + Xa b 0) + Xa e 0)
def Xa:List Zd→Int→Int
 | [],n=>n
 | x :: r,n=>Xa r (Zd2 x n)
end
theorem Za5 (s:Zd)(n:Int):Zd2 s n=IntKind.i64.wrap (IntKind.i64.wrap (IntKind.i64.wrap (n + 1) + Xa s.Body 0) + Xa s.Else 0):=by cases s; rw [Zd2]
def mx3 (a b c:Int):Int:=if c > (if b > a then b else a) then c else (if b > a then b else a)
mutual
def ZeX:Zd→Int→Int
 | ⟨_,_,_,_,_,_,_,_,b,e⟩,n=>mx3 n (IntKind.i64.wrap (1 + U2 b 0)) (IntKind.i64.wrap (1 + U2 e 0))
def U2:List Zd→Int→Int
 | [],n=>n
 | x :: r,n=>U2 r (ZeX x n)
end
theorem Za8 (s:Zd)(n:Int):ZeX s n=mx3 n (IntKind.i64.wrap (1 + U2 s.Body 0)) (IntKind.i64.wrap (1 + U2 s.Else 0)):=by cases s; rw [ZeX]
mutual
def ZcK:Zd→Int
 | ⟨a,b,c,d,e,f,g,h,i,j⟩=>if decide (PO ⟨a,b,c,d,e,f,g,h,i,j⟩≠0)=true then PO ⟨a,b,c,d,e,f,g,h,i,j⟩ else if decide (Y5 i≠0)=true then Y5 i else Y5 j
def Y5:List Zd→Int
 | []=>0
 | x :: r=>if decide (ZcK x≠0)=true then ZcK x else Y5 r
end
theorem Sm (s:Zd):ZcK s=if decide (PO s≠0)=true then PO s else if decide (Y5 s.Body≠0)=true then Y5 s.Body else Y5 s.Else:=by cases s; rw [ZcK]
theorem ZcI (b:Bool)(p B E R:Int):(if b=true then 1 else if decide (p≠0)=true then p else if decide (B≠0)=true then B else if decide (E≠0)=true then E else R) =
  if decide ((if decide ((if b=true then 1 else p)≠0)=true then (if b=true then 1 else p) else if decide (B≠0)=true then B else E)≠0)=true then (if decide ((if b=true then 1 else p)≠0)=true then (if b=true then 1 else p) else if decide (B≠0)=true then B else E) else R:=by
 cases b <;> by_cases h1:p=0 <;> by_cases h2:B=0 <;> by_cases h3:E=0 <;> simp [h1,h2,h3]
theorem ZcJ (p B E R:Int):(if decide (p=0)=true then (if decide (B=0)=true then (if decide (E≠0)=true then E else R) else if decide (B≠0)=true then B else R) else if decide (p≠0)=true then p else R) =
  if decide ((if decide (p≠0)=true then p else if decide (B≠0)=true then B else E)≠0)=true then (if decide (p≠0)=true then p else if decide (B≠0)=true then B else E) else R:=by
 by_cases h1:p=0 <;> by_cases h2:B=0 <;> by_cases h3:E=0 <;> simp [h1,h2,h3]
theorem Zd4 {s:Zd}{l:List Zd}(h:s ∈ l):SizeOf.sizeOf s < SizeOf.sizeOf l∧SizeOf.sizeOf s.Body < SizeOf.sizeOf l∧SizeOf.sizeOf s.Else < SizeOf.sizeOf l:=by
 have:=List.sizeOf_lt_of_mem h
 have:=Fv s
 omega
def MM (l:List Zd):Prop:=l.length≤4611686018427387∧∀ s ∈ l,ZB s
theorem ZB.b {s:Zd}(h:ZB s):MM s.Body∧MM s.Else:=by
 have h1:=h.Body; have h2:=h.Else
 exact ⟨⟨by omega,h1.2⟩,by omega,h2.2⟩
theorem Zbn (l:List Zd):0 < SizeOf.sizeOf l:=by cases l <;> simp <;> omega
def Ui (l:List Zd):Int:=if decide (200 < XL l (l.length:Int))=true then 6 else if decide (12 < U2 l 0)=true then 11 else Y5 l
def Sl (l:List Zd):Int:=if decide (200 < Xa l 0)=true then 6 else if decide (12 < U2 l 0)=true then 11 else Y5 l
theorem wrK (n:Int):∃ k:Int,IntKind.i64.wrap n=n + 18446744073709551616 * k:=by
 rw [IntKind.wrap_i64]
 exact ⟨-((n + 9223372036854775808) / 18446744073709551616),by omega⟩
theorem wrR (n:Int):-9223372036854775808≤IntKind.i64.wrap n∧IntKind.i64.wrap n≤9223372036854775807:=by
 rw [IntKind.wrap_i64]
 constructor <;> omega
mutual
def trS:Zd→Int
 | ⟨_,_,_,_,_,_,_,_,b,e⟩=>Zcl b + Zcl e
def Zcl:List Zd→Int
 | []=>0
 | x :: r=>1 + trS x + Zcl r
end
mutual
theorem trR:∀ (s:Zd) (n:Int),∃ k:Int,Zd2 s n=n + 1 + trS s + 18446744073709551616 * k
 | ⟨_,_,_,_,_,_,_,_,b,e⟩,n=>by
  rw [Zd2,trS]
  obtain ⟨k1,h1⟩:=ZeP b 0
  obtain ⟨k2,h2⟩:=ZeP e 0
  obtain ⟨k3,h3⟩:=wrK (n + 1)
  obtain ⟨k4,h4⟩:=wrK (IntKind.i64.wrap (n + 1) + Xa b 0)
  obtain ⟨k5,h5⟩:=wrK (IntKind.i64.wrap (IntKind.i64.wrap (n + 1) + Xa b 0) + Xa e 0)
  exact ⟨k1 + k2 + k3 + k4 + k5,by omega⟩
theorem ZeP:∀ (l:List Zd) (n:Int),∃ k:Int,Xa l n=n + Zcl l + 18446744073709551616 * k
 | [],n=>⟨0,by rw [Xa,Zcl]; omega⟩
 | x :: r,n=>by
  rw [Xa,Zcl]
  obtain ⟨k1,h1⟩:=trR x n
  obtain ⟨k2,h2⟩:=ZeP r (Zd2 x n)
  exact ⟨k1 + k2,by omega⟩
end
mutual
theorem trP:∀ (s:Zd),∃ k:Int,Zcs s=trS s + 18446744073709551616 * k
 | ⟨_,_,_,_,_,_,_,_,b,e⟩=>by
  rw [Zcs,trS]
  obtain ⟨k1,h1⟩:=ZeO b b.length
  obtain ⟨k2,h2⟩:=ZeO e e.length
  obtain ⟨k3,h3⟩:=wrK (XL b (b.length:Int) + XL e (e.length:Int))
  exact ⟨k1 + k2 + k3,by omega⟩
theorem ZeO:∀ (l:List Zd) (n:Int),∃ k:Int,XL l n=n - l.length + Zcl l + 18446744073709551616 * k
 | [],n=>⟨0,by rw [XL,Zcl]; simp⟩
 | x :: r,n=>by
  rw [XL,Zcl]
  obtain ⟨k1,h1⟩:=trP x
  obtain ⟨k3,h3⟩:=wrK (n + Zcs x)
  obtain ⟨k2,h2⟩:=ZeO r (IntKind.i64.wrap (n + Zcs x))
  refine ⟨k1 + k2 + k3,?_⟩
  simp only [List.length_cons]
  omega
end
theorem rgR:∀ (l:List Zd) (n:Int),-9223372036854775808≤n→n≤9223372036854775807→-9223372036854775808≤Xa l n∧Xa l n≤9223372036854775807
 | [],n,h1,h2=>by rw [Xa]; exact ⟨h1,h2⟩
 | x :: r,n,_,_=>by
  have h:=wrR (IntKind.i64.wrap (IntKind.i64.wrap (n + 1) + Xa x.Body 0) + Xa x.Else 0)
  rw [← Za5] at h
  rw [Xa]
  exact rgR r _ h.1 h.2
theorem rgP:∀ (l:List Zd) (n:Int),-9223372036854775808≤n→n≤9223372036854775807→-9223372036854775808≤XL l n∧XL l n≤9223372036854775807
 | [],n,h1,h2=>by rw [XL]; exact ⟨h1,h2⟩
 | x :: r,n,_,_=>by
  have h:=wrR (n + Zcs x)
  rw [XL]
  exact rgP r _ h.1 h.2
theorem ZdF (l:List Zd)(hl:l.length≤4611686018427387):Xa l 0=XL l (l.length:Int):=by
 obtain ⟨k1,h1⟩:=ZeP l 0
 obtain ⟨k2,h2⟩:=ZeO l l.length
 have r1:=rgR l 0 (by omega) (by omega)
 have r2:=rgP l l.length (by omega) (by omega)
 omega
theorem Cf (l:List Zd)(hl:l.length≤4611686018427387):Sl l=Ui l:=by
 unfold Sl Ui
 rw [ZdF l hl]
def WY (a b:Int):Int:=if decide (a≠0)=true then a else b
def Yk (b:Bool)(e:Int):Int:=if b=true then 0 else e
def fitsT (t n:Int):Bool:=if decide (t=1)=true then inB n else if decide (t=2)=true then (decide (n=0) || decide (n=1)) else if decide (t=3)=true then btw n 0 1000000000 else false
def NP (t:Int):Bool:=decide (t=1) || decide (t=2) || decide (t=3)
theorem F5 (t:Int):NP t=btw t 1 3:=by
 simp only [NP,btw]
 by_cases h1:t=1
 ·simp [h1]
 by_cases h2:t=2
 ·simp [h2]
 by_cases h3:t=3
 ·simp [h3]
 simp only [h1,h2,h3,decide_false,Bool.or_false]
 by_cases h4:1≤t <;> by_cases h5:t≤3 <;> simp [h4,h5]
 omega
def Zd3 (cyc:Int):Option Int→List Qy→Int
 | _,[]=>0
 | p,c :: r=>if (!(btw c.At_ 0 (cyc - 1)) || !(btw c.Units 0 1000))=true then 2 else if (p.isSome && decide (c.At_≤p.getD 0))=true then 12 else Zd3 cyc (some c.At_) r
def Zdt (d:Zt):Int :=
 if decide ((d.Shift.length:Int)=0)=true then (if decide (d.Cycle≠0)=true then 1 else 0)
 else if decide (20 < (d.Shift.length:Int))=true then 6 else if (!(btw d.Cycle 1 1000000000))=true then 2 else Zd3 d.Cycle none d.Shift
theorem YL.s {d:Zt}(h:YL d):d.Shift.length≤4611686018427387:=by have:=h.Shift.1; omega
theorem YM.st {d:Zq}(h:YM d):d.Streams.length≤4611686018427387∧d.Counts.length≤4611686018427387∧d.Stores.length≤4611686018427387∧d.Routines.length≤4611686018427387:=by
 have:=h.Streams.1; have:=h.Counts.1; have:=h.Stores.1; have:=h.Routines.1; omega
def Zct (d:Zq)(f:Hw):Int :=
 if (decide (f.Stream=[]) && (!(G8 f.Up) || !(G8 f.Down)))=true then 1 else if decide (f.Stream=[])=true then 0 else if (!(d.Streams.contains f.Stream))=true then 5 else if decide (Vh f.Up≠0)=true then Vh f.Up else Vh f.Down
def Zfw (s:Zq)(d:Zt):Int :=
 if decide (WY (Yk (btw d.Units 0 1000) 2) (Zdt d)≠0)=true then WY (Yk (btw d.Units 0 1000) 2) (Zdt d)
 else if decide (d.Fault.Stream=[])=true then Yk (G8 d.Fault.Up && G8 d.Fault.Down) 1
 else if (!(s.Streams.contains d.Fault.Stream))=true then 5 else WY (Vh d.Fault.Up) (Vh d.Fault.Down)
def Ze9 (s:Zq)(d:Zt):Int:=if (!(btw d.Units 0 1000))=true then 2 else if decide (Zdt d≠0)=true then Zdt d else Zct s d.Fault
theorem Zdr (s:Zq)(d:Zt):Zfw s d=Ze9 s d:=by
 unfold Zfw Ze9 Zct WY Yk
 cases btw d.Units 0 1000 <;> by_cases h1:Zdt d=0 <;> by_cases h2:d.Fault.Stream=[] <;> cases G8 d.Fault.Up <;> cases G8 d.Fault.Down <;> cases s.Streams.contains d.Fault.Stream <;> simp [h1,h2]
def argsT (tl:Int):List Qk→List Int→Int
 | p :: ps,a :: ys=>if (!(fitsT p.Ty a))=true then 2 else argsT tl ps ys
 | _,_=>tl
theorem NU.a {s:Kt}(h:NU s):s.Args.length≤4611686018427387:=by have:=h.Args.1; omega
theorem Kr.p {r:Yu}(h:Kr r):r.Params.length≤4611686018427387∧r.Locals.length≤4611686018427387∧MM r.Body:=by
 have:=h.Params.1; have:=h.Locals.1; have:=h.Body
 exact ⟨by omega,by omega,by omega,this.2⟩
abbrev Seen:=List (List UInt8)
def Uj (s:List UInt8)(seen:Seen):Int×Seen:=if decide (Xb s≠0)=true then (Xb s,seen) else if seen.contains s=true then (4,seen) else (0,seen ++ [s])
def VC (s:List UInt8)(rest:Int)(seen:Seen):Int×Seen:=if decide ((Uj s seen).1≠0)=true then Uj s seen else (rest,(Uj s seen).2)
def F8 (v:VO):Int:=if (!(btw v.Ty 1 3))=true then 1 else if (!(fitsT v.Ty v.N))=true then 2 else 0
def Fp (x:Yx):Int:=if (!(btw x.Room 1 1000))=true then 2 else if (decide (x.Policy < 1) || decide (3 < x.Policy))=true then 1 else 0
def Zb6 (x:YS):Int:=if (!(btw x.Length 1 1000) || !(btw x.Step 1 1000))=true then 2 else 0
def ZcN {α σ:Type}(most:Int)(step:α→σ→Int×σ)(l:List α)(s:σ):Int×σ:=if decide (most < (l.length:Int))=true then (6,s) else XU step l s
def P9 (f:Qk):Int:=if (!(btw f.Ty 1 3))=true then 1 else 0
def ZaD (l:List Qk)(s:Seen):Int×Seen:=XU (fun f:Qk=>VC f.Name (P9 f)) l s
def Gg (r:Yu):Int :=
 if (decide (6 < (r.Params.length:Int)) || decide (16 < (r.Params.length:Int) + (r.Locals.length:Int)))=true then 6
 else if decide ((ZaD (r.Params ++ r.Locals) []).1≠0)=true then (ZaD (r.Params ++ r.Locals) []).1 else Ui r.Body
theorem ZcC.t {l:Zb4}(h:ZcC l):l.Terms.length≤4611686018427387:=by have:=h.Terms.1; omega
abbrev Step:=Seen→Int×Seen
theorem Zaw.l {m:Ob}(h:Zaw m):m.Params.length≤4611686018427387∧m.Sites.length≤4611686018427387∧m.Links.length≤4611686018427387:=by
 have:=h.Params.1; have:=h.Sites.1; have:=h.Links.1; omega
def Ii (s:List UInt8)(seen:Seen):Int:=WY (Xb s) (Yk (!(seen.contains s)) 4)
theorem EW (s:List UInt8)(rest:Int)(seen:Seen):(VC s rest seen).1=WY (Ii s seen) rest:=by
 by_cases h1:Xb s=0 <;> rcases Bool.eq_false_or_eq_true (seen.contains s) with h2 | h2 <;> simp only [VC,Uj,Ii,WY,Yk,h1,h2] <;> simp [h1]
theorem Zdx {s:List UInt8}{rest:Int}{seen:Seen}(h:WY (Ii s seen) rest=0):(VC s rest seen)=(0,seen ++ [s]):=by
 by_cases h1:Xb s=0 <;> rcases Bool.eq_false_or_eq_true (seen.contains s) with h2 | h2 <;> simp only [Ii,WY,Yk,h1,h2] at h <;> simp [h1] at h
 simp only [VC,Uj,h1,h2]
 simp [h]
theorem ZdH (f:Qk):Yk (NP f.Ty) 1=P9 f:=by
 rw [F5]; unfold Yk P9; cases btw f.Ty 1 3 <;> rfl
def Qz (d:Zq):List (Int×List (List UInt8×Int)):=[(32,d.Vars.map fun v=>(v.Name,F8 v)),(32,d.Resources.map fun v=>(v.Name,Ze9 d v)),(32,d.Stores.map fun v=>(v.Name,Fp v)),(32,d.Belts.map fun v=>(v.Name,Zb6 v)),(32,d.Queues.map fun v=>(v,0)),(32,d.Streams.map fun v=>(v,0)),(32,d.Tallies.map fun v=>(v,0)),(32,d.Levels.map fun v=>(v,0)),(32,d.Counts.map fun v=>(v,0)),(16,d.Routines.map fun v=>(v.Name,Gg v))]
theorem ZeC (x:Yx):WY (Yk (btw x.Room 1 1000) 2) (Yk (decide (1≤x.Policy) && decide (x.Policy≤3)) 1)=Fp x:=by
 unfold WY Yk Fp
 have e:(decide (x.Policy < 1) || decide (3 < x.Policy))=!(decide (1≤x.Policy) && decide (x.Policy≤3)):=by
  have a1:decide (x.Policy < 1)=!decide (1≤x.Policy):=by rw [← decide_not]; congr 1; apply propext; omega
  have a2:decide (3 < x.Policy)=!decide (x.Policy≤3):=by rw [← decide_not]; congr 1; apply propext; omega
  rw [Bool.not_and,a1,a2]
 rw [e]
 cases btw x.Room 1 1000 <;> cases (decide (1≤x.Policy) && decide (x.Policy≤3)) <;> simp
theorem ZeU (x:YS):Yk (btw x.Length 1 1000 && btw x.Step 1 1000) 2=Zb6 x:=by
 unfold Yk Zb6; cases btw x.Length 1 1000 <;> cases btw x.Step 1 1000 <;> rfl
theorem valueR (v:VO):WY (Yk (NP v.Ty) 1) (Yk (fitsT v.Ty v.N) 2)=F8 v:=by
 rw [F5]; unfold WY Yk F8; cases btw v.Ty 1 3 <;> cases fitsT v.Ty v.N <;> rfl
theorem XH {α β:Type}{f:α→β}{l:List α}{i:Nat}{y:β}(h:(l.map f)[i]? = some y):∃ x,l[i]? = some x∧f x=y:=by
 rw [List.getElem?_map] at h
 exact Option.map_eq_some_iff.1 h
theorem kd (k:Nat):(∀ j:Nat,k=j→decide (((k:Nat):Int)=(j:Int))=true)∧(∀ j:Nat,k≠j→decide (((k:Nat):Int)=(j:Int))=false):=⟨fun j h=>by simp [h],fun j h=>by simp only [decide_eq_false_iff_not]; omega⟩
def Hl (q:List UInt8×Int):Seen→Int×Seen:=VC q.1 q.2
def stepD (p:Int×List (List UInt8×Int)):Seen→Int×Seen:=ZcN p.1 Hl p.2
theorem Ci (d:Zq):∀ (k:Nat) (p:Int×List (List UInt8×Int)),(Qz d)[k]? = some p→p.1=if k=9 then 16 else 32
 | 0,p,h=>by cases h; rfl
 | 1,p,h=>by cases h; rfl
 | 2,p,h=>by cases h; rfl
 | 3,p,h=>by cases h; rfl
 | 4,p,h=>by cases h; rfl
 | 5,p,h=>by cases h; rfl
 | 6,p,h=>by cases h; rfl
 | 7,p,h=>by cases h; rfl
 | 8,p,h=>by cases h; rfl
 | 9,p,h=>by cases h; rfl
 | k + 10,p,h=>by simp [Qz] at h
theorem Fg:∀ (l:List (List UInt8×Int)) (s:Seen),(XU Hl l s).2.length≤s.length + l.length
 | [],s=>by simp [XU]
 | x :: r,s=>by
  have ih:=Fg r (Hl x s).2
  have h1:(Hl x s).2.length≤s.length + 1:=by
   unfold Hl VC
   split
   ·unfold Uj; split <;> (try split) <;> simp
   ·show (Uj x.1 s).2.length≤_
    unfold Uj; split <;> (try split) <;> simp
  rw [XU]
  split
  ·simp; omega
  ·simp; omega
theorem Zdy {s:List UInt8}{rest:Int}{seen:Seen}(h:(VC s rest seen).1=0):(VC s rest seen).2=seen ++ [s]∧s ∉ seen∧rest=0:=by
 rw [EW] at h
 have w:=Zdx h
 refine ⟨by rw [w],?_,?_⟩
 ·intro hm
  have:seen.contains s=true:=by simpa using hm
  simp only [Ii,this,WY,Yk] at h
  by_cases h1:Xb s=0 <;> simp [h1] at h
 ·by_cases h1:Ii s seen=0
  ·simpa [WY,h1] using h
  ·simp [WY,h1] at h
def PN (p:Int×List (List UInt8×Int)):List (List UInt8):=p.2.map (·.1)
end Go.Proofs.YtbcfddaocfpckaaGreatDoor
end
