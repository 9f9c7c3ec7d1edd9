import Derived.Test.YtgjcjbhhhlelnaaGreatDoorHWa4
set_option linter.all false
section
namespace Go.Proofs.YtgjcjbhhhlelnaaGreatDoor
open Go Go.Proofs.YtgjcjbhhhlelnaaGreatDoor.Abs
set_option maxRecDepth 100000
def ZsX (n:Int):Bool:=decide (97≤n) && decide (n≤122)
def Zfp (n:Int):Bool:=ZsX n || decide (n=95) || (decide (48≤n) && decide (n≤57))
def kws:List (List UInt8):=[[97,100,100],[97,102,116,101,114],[97,110,100],[97,116],[98,101,108,116],[98,111,111,108],[99,111,110,115,101,114,118,101],[99,111,110,115,116],[99,111,117,110,116],[99,121,99,108,101],[100,111,119,110],[100,114,97,119],[100,117,114],[101,108,115,101],[101,110,100],[101,118,101,114,121],[102,97,108,115,101],[102,97,117,108,116],[102,105,102,111],[102,114,101,101],[102,114,111,109],[103,101,111,109],[103,101,116],[104,111,108,100],[105,102],[105,110,116],[105,110,116,111],[108,101,97,115,116],[108,101,118,101,108],[108,105,102,111],[108,105,110,107],[108,111,99,97,108],[109,97,120],[109,105,110],[109,111,100,101,108],[110,111,116],[110,111,119],[111,98,115,101,114,118,101],[111,114],[112,97,114,97,109],[112,114,101,101,109,112,116],[112,114,105,111],[112,117,116],[113,117,101,117,101],[114,101,108,101,97,115,101],[114,101,115,111,117,114,99,101],[114,105,100,101],[114,111,117,116,105,110,101],[115,101,105,122,101],[115,101,110,100],[115,101,116],[115,104,105,102,116],[115,105,103,110,97,108],[115,105,116,101],[115,105,122,101],[115,112,97,119,110],[115,116,97,114,116],[115,116,111,112],[115,116,111,114,101],[115,116,114,101,97,109],[115,117,109],[116,97,98,108,101],[116,97,108,108,121],[116,105,99,107,115],[116,105,109,101],[116,114,117,101],[117,110,105,102,111,114,109],[117,110,116,105,108],[117,112],[118,97,114],[119,97,105,116],[119,97,105,116,105,110,103],[119,104,105,108,101]]
def kwB (s:List UInt8):Bool:=kws.any fun k=>decide (s=k)
def V9 (s:List UInt8):Int :=
 match s with
 | []=>3
 | c :: r=>if 24 < (c :: r).length∨ZsX c.toNat=false∨kwB (c :: r)=true then 3 else if (c :: r).all (fun x=>Zfp x.toNat) then 0 else 3
def inB (n:Int):Bool:=decide (-1000000000000≤n) && decide (n≤1000000000000)
theorem Zh2 (s:List UInt8):V9 s=0∨V9 s=3:=by
 unfold V9
 split
 ·exact .inr rfl
 ·split
  ·exact .inr rfl
  ·split
   ·exact .inl rfl
   ·exact .inr rfl
def YH {α σ:Type}(step:α→σ→Int×σ):List α→σ→Int×σ
 | [],s=>(0,s)
 | x :: r,s=>if decide ((step x s).1≠0)=true then step x s else YH step r (step x s).2
def Dc {σ:Type}:List (σ→Int×σ)→σ→Int×σ
 | [],s=>(0,s)
 | f :: r,s=>if decide ((f s).1≠0)=true then f s else Dc r (f s).2
theorem ZzU {n:Int}(h1:-9223372036854775808≤n)(h2:n≤9223372036854775807):IntKind.i64.wrap n=n:=i64_in h1 h2
def Zoy (a b:YT):Bool:=decide (a.Op=b.Op) && decide (a.A=b.A) && decide (a.B=b.B) && decide (a.N=b.N) && decide (a.Values=b.Values) && decide (a.Weights=b.Weights)
def btw (x lo hi:Int):Bool:=decide (lo≤x) && decide (x≤hi)
def NW (d:YT):Bool :=
 if decide (d.Op=1)=true then decide ((d.Values.length:Int) + d.Weights.length=0) && decide (d.B=0) && decide (d.N=0)
 else if decide (d.Op=2)=true then decide ((d.Values.length:Int) + d.Weights.length=0) && decide (d.N=0)
 else if decide (d.Op=5)=true then decide ((d.Values.length:Int) + d.Weights.length=0) && decide (d.N=0)
 else if decide (d.Op=4)=true then decide ((d.Values.length:Int) + d.Weights.length=0)
 else if decide (d.Op=3)=true then decide (d.A=0) && decide (d.B=0) && decide (d.N=0)
 else false
theorem J8.v {d:YT}(h:J8 d):d.Values.length≤4611686018427387:=by have:=h.Values.1; omega
theorem J8.w {d:YT}(h:J8 d):d.Weights.length≤4611686018427387:=by have:=h.Weights.1; omega
theorem J8.wr {d:YT}(h:J8 d):IntKind.i64.wrap ((d.Values.length:Int) + (d.Weights.length:Int))=(d.Values.length:Int) + (d.Weights.length:Int):=by
 have:=h.v; have:=h.w; exact ZzU (by omega) (by omega)
def Zdp (d:YT):Bool :=
 if decide (d.Op=1)=true then decide (d.B=0) && decide (d.N=0) && (decide ((d.Values.length:Int)=0) && decide ((d.Weights.length:Int)=0))
 else if decide (d.Op=2)=true then decide (d.N=0) && (decide ((d.Values.length:Int)=0) && decide ((d.Weights.length:Int)=0))
 else if decide (d.Op=5)=true then decide (d.N=0) && (decide ((d.Values.length:Int)=0) && decide ((d.Weights.length:Int)=0))
 else if decide (d.Op=3)=true then decide (d.A=0) && decide (d.B=0) && decide (d.N=0)
 else if decide (d.Op=4)=true then (decide ((d.Values.length:Int)=0) && decide ((d.Weights.length:Int)=0))
 else false
def Ztf (lo hi:Int)(x:Int):Bool:=decide (x < lo) || decide (hi < x)
def G8 {α:Type}(f:α→Bool):List α→Int→Int
 | [],_=>-1
 | x :: r,i=>if f x=true then i else G8 f r (i + 1)
theorem Fa {α:Type}(f:α→Bool):∀ (l:List α) (i:Int),0≤i→decide (0≤G8 f l i)=l.any f
 | [],i,h=>by simp [G8]
 | x :: r,i,h=>by
  have ih:=Fa f r (i + 1) (by omega)
  cases hx:f x <;> simp [G8,hx,h]
  simpa using ih
def Qc (lo hi:Int)(l:List Int):Bool:=!(l.any (Ztf lo hi))
def L6 (d:YT):Int :=
 if (!(NW d))=true then 1
 else if decide (d.Op=1)=true then (if (!(Qc 0 1000000000 [d.A]))=true then 2 else 0)
 else if decide (d.Op=2)=true then (if (!(Qc 0 1000000000 [d.A,d.B] && decide (d.A≤d.B)))=true then 2 else 0)
 else if decide (d.Op=4)=true then (if (!(Qc 1 20 [d.N] && Qc 0 1000000 [d.A,d.B] && decide (d.A≤d.B)))=true then 2 else 0)
 else if decide (d.Op=5)=true then (if (!(Qc 1 1000 [d.A,d.B]))=true then 2 else 0)
 else if decide (d.Op=3)=true then
  (if decide ((d.Values.length:Int)≠(d.Weights.length:Int))=true then 8 else if decide ((d.Values.length:Int)=0)=true then 7 else if decide (20 < (d.Values.length:Int))=true then 6
   else if (!(Qc 0 1000000000 d.Values && Qc 1 1000 d.Weights))=true then 2 else 0)
 else 2
def Ztt:List Int→List Int→Int
 | x :: r,y :: s=>if (!(btw x 0 1000000000) || !(btw y 1 1000))=true then 2 else Ztt r s
 | _,_=>0
def Zmd (d:YT):Int :=
 if decide ((d.Values.length:Int)≠(d.Weights.length:Int))=true then 8 else if decide ((d.Values.length:Int)=0)=true then 7 else if decide (20 < (d.Values.length:Int))=true then 6 else Ztt d.Values d.Weights
def ZqV (d:YT):Int :=
 if (!(Zdp d))=true then 1
 else if decide (d.Op=1)=true then (if (!(btw d.A 0 1000000000))=true then 2 else 0)
 else if decide (d.Op=2)=true then (if (!(btw d.A 0 d.B && decide (d.B≤1000000000)))=true then 2 else 0)
 else if decide (d.Op=3)=true then Zmd d
 else if decide (d.Op=4)=true then (if (!(btw d.N 1 20 && btw d.A 0 d.B && decide (d.B≤1000000)))=true then 2 else 0)
 else if decide (d.Op=5)=true then (if (!(btw d.A 1 1000 && btw d.B 1 1000))=true then 2 else 0)
 else 0
def Zpr (op:Int):Bool:=decide (22≤op) && decide (op≤24)
def Zhw (op:Int):Int :=
 if (decide (op=1) || decide (op=2) || decide (op=3) || decide (op=4))=true then 0
 else if (decide (5≤op) && decide (op≤8))=true then 1
 else if (decide (9≤op) && decide (op≤21))=true then 2
 else if (decide (22≤op) && decide (op≤26))=true then 0 else -1
def Zcp (code:Bool)(op:Int):Bool :=
 if decide (op=3)=true then !code else if decide (op=25)=true then code else if decide (op=26)=true then code else decide (0≤Zhw op)
def ZeD (code:Bool)(op:Int):Bool:=decide (op=3) || (Zpr op && !code)
def Zq0 (code:Bool)(op:Int):Int×Int×Bool :=
 if decide (op=2)=true then (0,1,true) else if decide (op=25)=true then (0,15,true) else if decide (op=26)=true then (0,31,true) else if (Zpr op && code)=true then (0,63,true) else (0,0,false)
def ZaH (code:Bool)(e:Zu):Int :=
 if (!(Zcp code e.Op) || decide ((e.Kids.length:Int)≠Zhw e.Op) || (decide (e.Name≠[]) && !(ZeD code e.Op)))=true then 1
 else if decide (e.Op=1)=true then (if (!(inB e.N))=true then 2 else 0)
 else if (!(Zq0 code e.Op).2.2 && decide (e.N≠0))=true then 1
 else if ((Zq0 code e.Op).2.2 && (decide (e.N < (Zq0 code e.Op).1) || decide ((Zq0 code e.Op).2.1 < e.N)))=true then 2
 else if ZeD code e.Op=true then V9 e.Name else 0
theorem Em {x e:Zu}(h:x ∈ e.Kids):SizeOf.sizeOf x < SizeOf.sizeOf e:=by
 cases e
 have:=List.sizeOf_lt_of_mem h
 simp at *
 omega
theorem Py (e:Zu):0 < SizeOf.sizeOf e:=by cases e; simp; omega
theorem Yf.k {e:Zu}(h:Yf e):e.Kids.length≤4611686018427387:=by have:=h.Kids.1; omega
theorem Yf.n {e:Zu}(h:Yf e):e.Name.length≤140737488351232:=h.Name
mutual
def JB (code:Bool):Zu→Int
 | ⟨o,a,n,ks⟩=>if decide (ZaH code ⟨o,a,n,ks⟩≠0)=true then ZaH code ⟨o,a,n,ks⟩ else Zcx code ks
def Zcx (code:Bool):List Zu→Int
 | []=>0
 | x :: r=>if decide (JB code x≠0)=true then JB code x else Zcx code r
end
theorem ZeE (code:Bool):∀ l:List Zu,Zcx code l=Yh (JB code) l
 | []=>by rw [Zcx]; rfl
 | x :: r=>by rw [Zcx,ZeE code r]; rfl
theorem Zcw (code:Bool)(e:Zu):JB code e=if decide (ZaH code e≠0)=true then ZaH code e else Yh (JB code) e.Kids:=by
 cases e; rw [JB,ZeE]
mutual
def Zor:Zu→Int
 | ⟨_,_,_,ks⟩=>Zot ks 1
def Zot:List Zu→Int→Int
 | [],n=>n
 | x :: r,n=>Zot r (IntKind.i64.wrap (n + Zor x))
end
theorem Zlh:∀ (l:List Zu) (n:Int),Zot l n=sumW Zor l n
 | [],n=>by rw [Zot]; rfl
 | x :: r,n=>by rw [Zot,Zlh r]; rfl
theorem Zos (e:Zu):Zor e=sumW Zor e.Kids 1:=by cases e; rw [Zor,Zlh]
mutual
def Zn9:Zu→Int
 | ⟨_,_,_,ks⟩=>IntKind.i64.wrap (Zox ks 0 + 1)
def Zox:List Zu→Int→Int
 | [],n=>n
 | x :: r,n=>Zox r (if Zn9 x > n then Zn9 x else n)
end
theorem Zlk:∀ (l:List Zu) (n:Int),Zox l n=Zr6 Zn9 l n
 | [],n=>by rw [Zox]; rfl
 | x :: r,n=>by rw [Zox,Zlk r]; rfl
theorem Zow (e:Zu):Zn9 e=IntKind.i64.wrap (Zr6 Zn9 e.Kids 0 + 1):=by cases e; rw [Zn9,Zlk]
def Zjl (a b:Zu):Bool:=decide (a.Op≠b.Op) || decide (a.Name≠b.Name) || decide (a.N≠b.N)
mutual
def EL:Zu→Zu→Bool
 | ⟨o,a,n,ks⟩,e=>if (Zjl ⟨o,a,n,ks⟩ e || decide ((ks.length:Int)≠(e.Kids.length:Int)))=true then false else ZcV ks e.Kids
def ZcV:List Zu→List Zu→Bool
 | x :: r,y :: s=>if (!(EL x y))=true then false else ZcV r s
 | _,_=>true
end
theorem Zi2:∀ l m:List Zu,ZcV l m=all2 EL l m
 | [],[]=>by rw [ZcV] <;> simp [all2]
 | [],y :: s=>by rw [ZcV] <;> simp [all2]
 | x :: r,[]=>by rw [ZcV] <;> simp [all2]
 | x :: r,y :: s=>by rw [ZcV,Zi2 r s]; rfl
theorem Zbi (a b:Zu):EL a b=if (Zjl a b || decide ((a.Kids.length:Int)≠(b.Kids.length:Int)))=true then false else all2 EL a.Kids b.Kids:=by
 cases a; rw [EL,Zi2]
def ZbN (op:Int):Int :=
 if (decide (op < 1) || decide (26 < op))=true then -1 else if (decide (5≤op) && decide (op≤8))=true then 1 else if (decide (9≤op) && decide (op≤21))=true then 2 else 0
def Zr9 (op:Int):Int:=if decide (op=25)=true then 15 else if decide (op=26)=true then 31 else 63
def Zm9 (code:Bool)(e:Zu):Int :=
 if (!(decide (0≤ZbN e.Op) && ((code && decide (e.Op≠3)) || (!code && decide (e.Op≤24)))) || (!(!code && (decide (e.Op=3) || Zpr e.Op)) && decide (e.Name≠[])) || (!(decide (e.Op=1) || decide (e.Op=2) || (code && (Zpr e.Op || decide (e.Op=25) || decide (e.Op=26)))) && decide (e.N≠0)) || decide ((e.Kids.length:Int)≠ZbN e.Op))=true then 1
 else if ((decide (e.Op=1) && !(inB e.N)) || ((decide (e.Op=2) && decide (e.N≠0)) && decide (e.N≠1)) || ((code && (Zpr e.Op || decide (e.Op=25) || decide (e.Op=26))) && (decide (e.N < 0) || decide (Zr9 e.Op < e.N))))=true then 2
 else if ((!code && (decide (e.Op=3) || Zpr e.Op)) && decide (V9 e.Name≠0))=true then V9 e.Name else 0
theorem Z0u (op:Int):1≤op∧op≤26→op=1∨op=2∨op=3∨op=4∨op=5∨op=6∨op=7∨op=8∨op=9∨op=10∨op=11∨op=12∨op=13∨op=14∨op=15∨op=16∨op=17∨op=18∨op=19∨op=20∨op=21∨op=22∨op=23∨op=24∨op=25∨op=26:=by omega
theorem Zrr (code:Bool)(e:Zu):Zm9 code e=ZaH code e:=by
 obtain ⟨op,nm,n,ks⟩:=e
 by_cases h:1≤op∧op≤26
 ·rcases Z0u op h with rfl | rfl | rfl | rfl | rfl | rfl | rfl | rfl | rfl | rfl | rfl | rfl | rfl | rfl | rfl | rfl | rfl | rfl | rfl | rfl | rfl | rfl | rfl | rfl | rfl | rfl <;> cases code <;> simp [Zm9,ZaH,ZbN,Zr9,Zpr,Zhw,Zcp,ZeD,Zq0] <;> grind
 ·have h1:ZbN op=-1:=by simp only [ZbN]; rw [if_pos]; simp; omega
  have h2:Zhw op=-1:=by
   simp only [Zhw]
   rw [if_neg (by simp; omega),if_neg (by simp; omega),if_neg (by simp; omega),if_neg (by simp; omega)]
  have h3:Zcp code op=false:=by
   simp only [Zcp,h2]
   rw [if_neg (by simp; omega),if_neg (by simp; omega),if_neg (by simp; omega)]; rfl
  simp [Zm9,ZaH,h1,h2,h3]
theorem Zpq (code:Bool)(e:Zu):(if decide (Zm9 code e≠0)=true then Zm9 code e else Yh (JB code) e.Kids)=JB code e:=by rw [Zrr,← Zcw]
def Qp (code:Bool)(e:Zu):Int:=if decide (60 < Zor e)=true then 6 else if decide (12 < Zn9 e)=true then 11 else JB code e
def Lp (op:Int):Gs×Bool:=if decide (op=1)=true then (⟨true,false,true,false,false,false,false,false,false⟩,true) else if decide (op=7)=true then (⟨true,false,true,false,false,false,false,false,false⟩,true) else if decide (op=8)=true then (⟨true,false,true,false,false,false,false,false,false⟩,true) else if decide (op=12)=true then (⟨true,false,true,false,false,false,false,false,false⟩,true) else if decide (op=15)=true then (⟨true,false,true,false,false,false,false,false,false⟩,true) else if decide (op=16)=true then (⟨true,false,true,false,false,false,false,false,false⟩,true) else if decide (op=17)=true then (⟨true,false,true,false,false,false,false,false,false⟩,true) else if decide (op=2)=true then (⟨true,true,false,false,false,true,false,false,false⟩,true) else if decide (op=3)=true then (⟨false,false,true,false,false,false,false,true,true⟩,true) else if decide (op=4)=true then (⟨false,false,true,false,false,false,false,true,false⟩,true) else if decide (op=5)=true then (⟨false,false,true,false,false,false,false,false,false⟩,true) else if decide (op=6)=true then (⟨true,false,true,true,false,false,true,false,false⟩,true) else if decide (op=9)=true then (⟨true,true,false,false,false,false,false,false,false⟩,true) else if decide (op=10)=true then (⟨true,false,false,false,false,false,false,false,false⟩,true) else if decide (op=11)=true then (⟨true,false,false,false,false,false,false,false,false⟩,true) else if decide (op=13)=true then (⟨true,true,true,false,true,false,false,false,false⟩,true) else if decide (op=14)=true then (⟨true,false,true,false,true,false,false,false,false⟩,true) else if decide (op=18)=true then (⟨false,false,false,false,false,false,false,false,false⟩,true) else (⟨false,false,false,false,false,false,false,false,false⟩,false)
def Am (e:Zu):Bool:=decide (e.Op=0) && decide (e.Name=[]) && decide (e.N=0) && decide ((e.Kids.length:Int)=0)
def P7 (d:YT):Bool:=decide (d.Op=0) && decide (d.A=0) && decide (d.B=0) && decide (d.N=0) && decide (d.Values=[]) && decide (d.Weights=[])
def Zjh (s:ZA)(u:Gs):Bool :=
 (u.name || decide (s.Name=[])) && (u.of || decide (s.Of=[])) && (u.e || Am s.E) && (u.f || Am s.F) && (u.args || decide ((s.Args.length:Int)=0)) && (u.dist || P7 s.Dist) && (u.flag || !s.Flag) && (u.body || decide ((s.Body.length:Int)=0)) && (u.other || decide ((s.Else.length:Int)=0))
def Zo7 (s:ZA):Bool :=
 (Lp s.Op).2 && ((((Lp s.Op).1.name || decide (s.Name=[])) && ((Lp s.Op).1.of || decide (s.Of=[])))) && (((Lp s.Op).1.e || Am s.E) && ((Lp s.Op).1.f || Am s.F) && ((Lp s.Op).1.args || decide ((s.Args.length:Int)=0))) && (((Lp s.Op).1.body || decide ((s.Body.length:Int)=0)) && ((Lp s.Op).1.other || decide ((s.Else.length:Int)=0))) && ((Lp s.Op).1.dist || P7 s.Dist) && ((Lp s.Op).1.flag || !s.Flag)
theorem Zrf (s:ZA):Zo7 s=((Lp s.Op).2 && Zjh s (Lp s.Op).1):=by
 simp only [Zo7,Zjh]
 generalize (Lp s.Op).1=u
 generalize (Lp s.Op).2=b
 ac_rfl
def Zd6 (s:ZA)(u:Gs):List Zu→Int
 | []=>if u.dist=true then L6 s.Dist else 0
 | x :: r=>if decide (Qp false x≠0)=true then Qp false x else Zd6 s u r
def ZlM (s:ZA)(u:Gs):Int:=if decide (6 < (s.Args.length:Int))=true then 6 else Zd6 s u s.Args
def ZlO (s:ZA)(u:Gs):Int:=if (!u.f)=true then ZlM s u else if decide (Qp false s.F≠0)=true then Qp false s.F else ZlM s u
def ZlN (s:ZA)(u:Gs):Int:=if (!u.e)=true then ZlO s u else if decide (Qp false s.E≠0)=true then Qp false s.E else ZlO s u
def ZhH (s:ZA)(u:Gs):Int :=
 if (u.name && decide (V9 s.Name≠0))=true then V9 s.Name else if (u.of && decide (V9 s.Of≠0))=true then V9 s.Of else ZlN s u
theorem YA.a {s:ZA}(h:YA s):s.Args.length≤4611686018427387:=by have:=h.Args.1; omega
theorem w01:IntKind.i64.wrap (0 + 1)=1∧IntKind.i64.wrap (1 + 1)=2∧decide ((0:Int) < 2)=true∧decide ((1:Int) < 2)=true∧decide ((2:Int) < 2)=false∧(∀ (α:Type) (a b:α),(([a,b].length:Nat):Int)=2):=⟨by decide,by decide,by decide,by decide,by decide,fun _ _ _=>rfl⟩
theorem Ztq (s:ZA):SizeOf.sizeOf s.E < SizeOf.sizeOf s∧SizeOf.sizeOf s.F < SizeOf.sizeOf s∧SizeOf.sizeOf s.Args < SizeOf.sizeOf s∧SizeOf.sizeOf s.Body < SizeOf.sizeOf s∧SizeOf.sizeOf s.Else < SizeOf.sizeOf s:=by
 cases s; simp; omega
theorem Z0e {s:ZA}{x:Zu}(h:x ∈ s.Args):SizeOf.sizeOf x < SizeOf.sizeOf s:=by
 have:=List.sizeOf_lt_of_mem h
 have:=(Ztq s).2.2.1
 omega
def AB (s:ZA):List Zu→Int→Int
 | [],e=>e
 | x :: r,e=>if decide (e=0)=true then AB s r (Qp false x) else e
def Zca (s:ZA)(u:Gs):Int :=
 AB s s.Args (if (decide ((if (decide ((if u.e=true then Qp false s.E else 0)=0) && u.f)=true then Qp false s.F else (if u.e=true then Qp false s.E else 0))=0) && decide (6 < (s.Args.length:Int)))=true then 6
  else (if (decide ((if u.e=true then Qp false s.E else 0)=0) && u.f)=true then Qp false s.F else (if u.e=true then Qp false s.E else 0)))
def Zz6 (s:ZA):Int :=
 if (!(Zo7 s))=true then 1
 else if (((Lp s.Op).1.name && decide (V9 s.Name≠0)) || ((Lp s.Op).1.of && decide (V9 s.Of≠0)))=true then 3
 else if (decide (Zca s (Lp s.Op).1=0) && (Lp s.Op).1.dist)=true then ZqV s.Dist else Zca s (Lp s.Op).1
theorem Zff (s:ZA)(l:List Zu)(e:Int)(h:e≠0):AB s l e=e:=by
 cases l <;> simp [AB,h]
theorem Zeu (s:ZA)(u:Gs):∀ l:List Zu,(if (decide (AB s l 0=0) && u.dist)=true then L6 s.Dist else AB s l 0)=Zd6 s u l
 | []=>by simp [AB,Zd6]
 | x :: r=>by
  by_cases h:Qp false x=0
  ·simp only [AB,Zd6,h,decide_true,if_true,ne_eq,not_true_eq_false,decide_false,Bool.false_eq_true,if_false]
   exact Zeu s u r
  ·simp [AB,Zd6,h,Zff]
def ZmJ (s:ZA):Int:=if (!(Lp s.Op).2 || !(Zjh s (Lp s.Op).1))=true then 1 else ZhH s (Lp s.Op).1
theorem Zv5 (lo hi a:Int):Qc lo hi [a]=btw a lo hi:=by
 simp only [Qc,List.any_cons,List.any_nil,Ztf,btw,Bool.or_false,Bool.not_or,← decide_not,Int.not_lt]
theorem Zv6 (lo hi a b:Int):Qc lo hi [a,b]=(btw a lo hi && btw b lo hi):=by
 simp only [Qc,List.any_cons,List.any_nil,Ztf,btw,Bool.or_false,Bool.not_or,← decide_not,Int.not_lt]
theorem Zv7 (lo hi a:Int)(l:List Int):Qc lo hi (a :: l)=(btw a lo hi && Qc lo hi l):=by
 simp only [Qc,List.any_cons,Ztf,btw,Bool.not_or,← decide_not,Int.not_lt]
theorem Ztu:∀ (l m:List Int),l.length=m.length→Ztt l m=if (!(Qc 0 1000000000 l && Qc 1 1000 m))=true then 2 else 0
 | [],[],_=>by simp [Ztt,Qc]
 | [],y :: m,h=>by simp at h
 | x :: l,[],h=>by simp at h
 | x :: l,y :: m,h=>by
  have ih:=Ztu l m (by simpa using h)
  simp only [Ztt,Zv7,ih]
  generalize Qc 0 1000000000 l=c1
  generalize Qc 1 1000 m=c2
  cases btw x 0 1000000000 <;> cases btw y 1 1000 <;> cases c1 <;> cases c2 <;> rfl
theorem Zzm (a b:Nat):decide ((a:Int) + (b:Int)=0)=(decide ((a:Int)=0) && decide ((b:Int)=0)):=by
 rw [← Bool.decide_and]; congr 1; apply propext; omega
theorem Zqu (d:YT):Zdp d=NW d:=by
 simp only [Zdp,NW,Zzm]
 by_cases h1:d.Op=1
 ·simp [h1]; ac_rfl
 by_cases h2:d.Op=2
 ·simp [h2,Bool.and_comm]
 by_cases h5:d.Op=5
 ·simp [h5,Bool.and_comm]
 by_cases h3:d.Op=3
 ·simp [h3]
 by_cases h4:d.Op=4
 ·simp [h4]
 simp [h1,h2,h3,h4,h5]
theorem Zft (d:YT):ZqV d=L6 d:=by
 simp only [ZqV,L6,Zqu,Zv5,Zv6,Zmd]
 by_cases hu:NW d=true
 ·simp only [hu]
  by_cases h1:d.Op=1
  ·simp [h1]
  by_cases h2:d.Op=2
  ·simp only [h2,btw]; simp; grind
  by_cases h3:d.Op=3
  ·simp only [h3]
   by_cases hl:d.Values.length=d.Weights.length
   ·rw [Ztu _ _ hl]; simp
   ·have:¬ ((d.Values.length:Int)=d.Weights.length):=by omega
    simp [this]
  by_cases h4:d.Op=4
  ·simp only [h4,btw]; simp; grind
  by_cases h5:d.Op=5
  ·simp [h5]
  ·exfalso
   simp [NW,h1,h2,h3,h4,h5] at hu
 ·simp [hu]
theorem ZuE (s:ZA):Zz6 s=ZmJ s:=by
 have n1:=Zh2 s.Name
 have n2:=Zh2 s.Of
 unfold Zz6 ZmJ ZhH
 rw [Zrf,Zft]
 generalize Lp s.Op=w
 obtain ⟨u,b⟩:=w
 simp only
 have key:(if (decide (Zca s u=0) && u.dist)=true then L6 s.Dist else Zca s u)=ZlN s u:=by
  have ha:=Zeu s u s.Args
  unfold Zca ZlN ZlO ZlM
  rcases Bool.eq_false_or_eq_true u.e with h1 | h1 <;> rcases Bool.eq_false_or_eq_true u.f with h3 | h3 <;> rcases Bool.eq_false_or_eq_true (decide (6 < (s.Args.length:Int))) with h5 | h5 <;> by_cases h2:Qp false s.E=0 <;> by_cases h4:Qp false s.F=0 <;>
   simp only [h1,h2,h3,h4,h5,ne_eq,not_true_eq_false,not_false_eq_true,decide_true,decide_false,BL,IFJ,Zff,Bool.false_eq_true,if_true,if_false] <;> first | exact ha | (simp [Zff,h2,h4]; done) | rfl
 rw [key]
 rcases n1 with h1 | h1 <;> rcases n2 with h2 | h2 <;> cases b <;> cases Zjh s u <;> cases u.name <;> cases u.of <;> simp [h1,h2]
mutual
def ZsK:ZA→Int
 | ⟨_,_,_,_,_,_,_,_,b,e⟩=>IntKind.i64.wrap (Oj b (b.length:Int) + Oj e (e.length:Int))
def Oj:List ZA→Int→Int
 | [],n=>n
 | x :: r,n=>Oj r (IntKind.i64.wrap (n + ZsK x))
end
theorem ZtK (s:ZA):ZsK s=IntKind.i64.wrap (Oj s.Body (s.Body.length:Int) + Oj s.Else (s.Else.length:Int)):=by cases s; rw [ZsK]
mutual
def ZvA:ZA→Int→Int
 | ⟨_,_,_,_,_,_,_,_,b,e⟩,n=>IntKind.i64.wrap (IntKind.i64.wrap (IntKind.i64.wrap (n + 1) + G5 b 0) + G5 e 0)
def G5:List ZA→Int→Int
 | [],n=>n
 | x :: r,n=>G5 r (ZvA x n)
end
theorem Zoq (s:ZA)(n:Int):ZvA s n=IntKind.i64.wrap (IntKind.i64.wrap (IntKind.i64.wrap (n + 1) + G5 s.Body 0) + G5 s.Else 0):=by cases s; rw [ZvA]
def mx3 (a b c:Int):Int:=if c > (if b > a then b else a) then c else (if b > a then b else a)
mutual
def ZyK:ZA→Int→Int
 | ⟨_,_,_,_,_,_,_,_,b,e⟩,n=>mx3 n (IntKind.i64.wrap (1 + PU b 0)) (IntKind.i64.wrap (1 + PU e 0))
def PU:List ZA→Int→Int
 | [],n=>n
 | x :: r,n=>PU r (ZyK x n)
end
theorem Zov (s:ZA)(n:Int):ZyK s n=mx3 n (IntKind.i64.wrap (1 + PU s.Body 0)) (IntKind.i64.wrap (1 + PU s.Else 0)):=by cases s; rw [ZyK]
mutual
def Zyl:ZA→Int
 | ⟨a,b,c,d,e,f,g,h,i,j⟩=>if decide (ZmJ ⟨a,b,c,d,e,f,g,h,i,j⟩≠0)=true then ZmJ ⟨a,b,c,d,e,f,g,h,i,j⟩ else if decide (Vq i≠0)=true then Vq i else Vq j
def Vq:List ZA→Int
 | []=>0
 | x :: r=>if decide (Zyl x≠0)=true then Zyl x else Vq r
end
theorem Zop (s:ZA):Zyl s=if decide (ZmJ s≠0)=true then ZmJ s else if decide (Vq s.Body≠0)=true then Vq s.Body else Vq s.Else:=by cases s; rw [Zyl]
theorem ZtH (b:Bool)(p B E R:Int):(if b=true then 1 else if decide (p≠0)=true then p else if decide (B≠0)=true then B else if decide (E≠0)=true then E else R) =
  if decide ((if decide ((if b=true then 1 else p)≠0)=true then (if b=true then 1 else p) else if decide (B≠0)=true then B else E)≠0)=true then (if decide ((if b=true then 1 else p)≠0)=true then (if b=true then 1 else p) else if decide (B≠0)=true then B else E) else R:=by
 cases b <;> by_cases h1:p=0 <;> by_cases h2:B=0 <;> by_cases h3:E=0 <;> simp [h1,h2,h3]
theorem ZtI (p B E R:Int):(if decide (p=0)=true then (if decide (B=0)=true then (if decide (E≠0)=true then E else R) else if decide (B≠0)=true then B else R) else if decide (p≠0)=true then p else R) =
  if decide ((if decide (p≠0)=true then p else if decide (B≠0)=true then B else E)≠0)=true then (if decide (p≠0)=true then p else if decide (B≠0)=true then B else E) else R:=by
 by_cases h1:p=0 <;> by_cases h2:B=0 <;> by_cases h3:E=0 <;> simp [h1,h2,h3]
theorem ZvP {s:ZA}{l:List ZA}(h:s ∈ l):SizeOf.sizeOf s < SizeOf.sizeOf l∧SizeOf.sizeOf s.Body < SizeOf.sizeOf l∧SizeOf.sizeOf s.Else < SizeOf.sizeOf l:=by
 have:=List.sizeOf_lt_of_mem h
 have:=Ztq s
 omega
def ZiP (l:List ZA):Prop:=l.length≤4611686018427387∧∀ s ∈ l,YA s
theorem YA.b {s:ZA}(h:YA s):ZiP s.Body∧ZiP s.Else:=by
 have h1:=h.Body; have h2:=h.Else
 exact ⟨⟨by omega,h1.2⟩,by omega,h2.2⟩
theorem ZvQ (l:List ZA):0 < SizeOf.sizeOf l:=by cases l <;> simp <;> omega
def CV (l:List ZA):Int:=if decide (200 < Oj l (l.length:Int))=true then 6 else if decide (12 < PU l 0)=true then 11 else Vq l
def Zja (l:List ZA):Int:=if decide (200 < G5 l 0)=true then 6 else if decide (12 < PU l 0)=true then 11 else Vq l
theorem wrK (n:Int):∃ k:Int,IntKind.i64.wrap n=n + 18446744073709551616 * k:=by
 rw [IntKind.wrap_i64]
 exact ⟨-((n + 9223372036854775808) / 18446744073709551616),by omega⟩
theorem wrR (n:Int):-9223372036854775808≤IntKind.i64.wrap n∧IntKind.i64.wrap n≤9223372036854775807:=by
 rw [IntKind.wrap_i64]
 constructor <;> omega
mutual
def trS:ZA→Int
 | ⟨_,_,_,_,_,_,_,_,b,e⟩=>Zs8 b + Zs8 e
def Zs8:List ZA→Int
 | []=>0
 | x :: r=>1 + trS x + Zs8 r
end
mutual
theorem trR:∀ (s:ZA) (n:Int),∃ k:Int,ZvA s n=n + 1 + trS s + 18446744073709551616 * k
 | ⟨_,_,_,_,_,_,_,_,b,e⟩,n=>by
  rw [ZvA,trS]
  obtain ⟨k1,h1⟩:=Zy0 b 0
  obtain ⟨k2,h2⟩:=Zy0 e 0
  obtain ⟨k3,h3⟩:=wrK (n + 1)
  obtain ⟨k4,h4⟩:=wrK (IntKind.i64.wrap (n + 1) + G5 b 0)
  obtain ⟨k5,h5⟩:=wrK (IntKind.i64.wrap (IntKind.i64.wrap (n + 1) + G5 b 0) + G5 e 0)
  exact ⟨k1 + k2 + k3 + k4 + k5,by omega⟩
theorem Zy0:∀ (l:List ZA) (n:Int),∃ k:Int,G5 l n=n + Zs8 l + 18446744073709551616 * k
 | [],n=>⟨0,by rw [G5,Zs8]; omega⟩
 | x :: r,n=>by
  rw [G5,Zs8]
  obtain ⟨k1,h1⟩:=trR x n
  obtain ⟨k2,h2⟩:=Zy0 r (ZvA x n)
  exact ⟨k1 + k2,by omega⟩
end
mutual
theorem trP:∀ (s:ZA),∃ k:Int,ZsK s=trS s + 18446744073709551616 * k
 | ⟨_,_,_,_,_,_,_,_,b,e⟩=>by
  rw [ZsK,trS]
  obtain ⟨k1,h1⟩:=Zyz b b.length
  obtain ⟨k2,h2⟩:=Zyz e e.length
  obtain ⟨k3,h3⟩:=wrK (Oj b (b.length:Int) + Oj e (e.length:Int))
  exact ⟨k1 + k2 + k3,by omega⟩
theorem Zyz:∀ (l:List ZA) (n:Int),∃ k:Int,Oj l n=n - l.length + Zs8 l + 18446744073709551616 * k
 | [],n=>⟨0,by rw [Oj,Zs8]; simp⟩
 | x :: r,n=>by
  rw [Oj,Zs8]
  obtain ⟨k1,h1⟩:=trP x
  obtain ⟨k3,h3⟩:=wrK (n + ZsK x)
  obtain ⟨k2,h2⟩:=Zyz r (IntKind.i64.wrap (n + ZsK x))
  refine ⟨k1 + k2 + k3,?_⟩
  simp only [List.length_cons]
  omega
end
theorem rgR:∀ (l:List ZA) (n:Int),-9223372036854775808≤n→n≤9223372036854775807→-9223372036854775808≤G5 l n∧G5 l n≤9223372036854775807
 | [],n,h1,h2=>by rw [G5]; exact ⟨h1,h2⟩
 | x :: r,n,_,_=>by
  have h:=wrR (IntKind.i64.wrap (IntKind.i64.wrap (n + 1) + G5 x.Body 0) + G5 x.Else 0)
  rw [← Zoq] at h
  rw [G5]
  exact rgR r _ h.1 h.2
theorem rgP:∀ (l:List ZA) (n:Int),-9223372036854775808≤n→n≤9223372036854775807→-9223372036854775808≤Oj l n∧Oj l n≤9223372036854775807
 | [],n,h1,h2=>by rw [Oj]; exact ⟨h1,h2⟩
 | x :: r,n,_,_=>by
  have h:=wrR (n + ZsK x)
  rw [Oj]
  exact rgP r _ h.1 h.2
theorem Zwi (l:List ZA)(hl:l.length≤4611686018427387):G5 l 0=Oj l (l.length:Int):=by
 obtain ⟨k1,h1⟩:=Zy0 l 0
 obtain ⟨k2,h2⟩:=Zyz l l.length
 have r1:=rgR l 0 (by omega) (by omega)
 have r2:=rgP l l.length (by omega) (by omega)
 omega
theorem Zm2 (l:List ZA)(hl:l.length≤4611686018427387):Zja l=CV l:=by
 unfold Zja CV
 rw [Zwi l hl]
def YU (a b:Int):Int:=if decide (a≠0)=true then a else b
def Y3 (b:Bool)(e:Int):Int:=if b=true then 0 else e
def fitsT (t n:Int):Bool:=if decide (t=1)=true then inB n else if decide (t=2)=true then (decide (n=0) || decide (n=1)) else if decide (t=3)=true then btw n 0 1000000000 else false
def ZiA (t:Int):Bool:=decide (t=1) || decide (t=2) || decide (t=3)
theorem Zme (t:Int):ZiA t=btw t 1 3:=by
 simp only [ZiA,btw]
 by_cases h1:t=1
 ·simp [h1]
 by_cases h2:t=2
 ·simp [h2]
 by_cases h3:t=3
 ·simp [h3]
 simp only [h1,h2,h3,decide_false,Bool.or_false]
 by_cases h4:1≤t <;> by_cases h5:t≤3 <;> simp [h4,h5]
 omega
def Zq5 (cyc:Int):Option Int→List UE→Int
 | _,[]=>0
 | p,c :: r=>if (!(btw c.At_ 0 (cyc - 1)) || !(btw c.Units 0 1000))=true then 2 else if (p.isSome && decide (c.At_≤p.getD 0))=true then 12 else Zq5 cyc (some c.At_) r
def Zq4 (d:Zy):Int :=
 if decide ((d.Shift.length:Int)=0)=true then (if decide (d.Cycle≠0)=true then 1 else 0)
 else if decide (20 < (d.Shift.length:Int))=true then 6 else if (!(btw d.Cycle 1 1000000000))=true then 2 else Zq5 d.Cycle none d.Shift
theorem Wp.s {d:Zy}(h:Wp d):d.Shift.length≤4611686018427387:=by have:=h.Shift.1; omega
theorem ZH.st {d:Zc}(h:ZH d):d.Streams.length≤4611686018427387∧d.Counts.length≤4611686018427387∧d.Stores.length≤4611686018427387∧d.Routines.length≤4611686018427387:=by
 have:=h.Streams.1; have:=h.Counts.1; have:=h.Stores.1; have:=h.Routines.1; omega
def Zll (d:Zc)(f:LC):Int :=
 if (decide (f.Stream=[]) && (!(P7 f.Up) || !(P7 f.Down)))=true then 1 else if decide (f.Stream=[])=true then 0 else if (!(d.Streams.contains f.Stream))=true then 5 else if decide (L6 f.Up≠0)=true then L6 f.Up else L6 f.Down
def ZzG (s:Zc)(d:Zy):Int :=
 if decide (YU (Y3 (btw d.Units 0 1000) 2) (Zq4 d)≠0)=true then YU (Y3 (btw d.Units 0 1000) 2) (Zq4 d)
 else if decide (d.Fault.Stream=[])=true then Y3 (P7 d.Fault.Up && P7 d.Fault.Down) 1
 else if (!(s.Streams.contains d.Fault.Stream))=true then 5 else YU (L6 d.Fault.Up) (L6 d.Fault.Down)
def Znm (s:Zc)(d:Zy):Int:=if (!(btw d.Units 0 1000))=true then 2 else if decide (Zq4 d≠0)=true then Zq4 d else Zll s d.Fault
theorem Zvm (s:Zc)(d:Zy):ZzG s d=Znm s d:=by
 unfold ZzG Znm Zll YU Y3
 cases btw d.Units 0 1000 <;> by_cases h1:Zq4 d=0 <;> by_cases h2:d.Fault.Stream=[] <;> cases P7 d.Fault.Up <;> cases P7 d.Fault.Down <;> cases s.Streams.contains d.Fault.Stream <;> simp [h1,h2]
def ZdW (t:IY)(found:Bool):Int:=if (!found)=true then 5 else if (!(btw t.Coef (-1000) 1000) || decide (t.Coef=0))=true then 2 else 0
def ZdV (d:Zc)(t:IY):Int:=if decide (t.What=[99,114,101,97,116,101,100])=true then ZdW t ((d.Routines.map (·.Name)).contains t.Name) else if decide (t.What=[101,110,100,101,100])=true then ZdW t ((d.Routines.map (·.Name)).contains t.Name) else if decide (t.What=[105,110,115,105,100,101])=true then ZdW t ((d.Routines.map (·.Name)).contains t.Name) else if decide (t.What=[115,116,111,114,101,100])=true then ZdW t ((d.Stores.map (·.Name)).contains t.Name) else if decide (t.What=[101,110,116,101,114,101,100])=true then ZdW t ((d.Stores.map (·.Name)).contains t.Name) else if decide (t.What=[108,101,102,116])=true then ZdW t ((d.Stores.map (·.Name)).contains t.Name) else if decide (t.What=[99,111,117,110,116,101,100])=true then ZdW t (d.Counts.contains t.Name) else 1
def Zat (s:Xo):Int:=if (!(btw s.At_ 0 1000000000) || !(btw s.Every 0 1000000000) || !(btw s.Until 0 1000000000) || (decide (s.Every=0) && decide (s.Until≠0)))=true then 2 else 0
def Zk7 (s:Xo):Int:=Y3 (btw s.At_ 0 1000000000 && btw s.Every 0 1000000000 && btw s.Until 0 1000000000 && (decide (s.Every≠0) || decide (s.Until=0))) 2
theorem Zqn (s:Xo):Zk7 s=Zat s:=by
 unfold Zat Zk7 Y3
 cases btw s.At_ 0 1000000000 <;> cases btw s.Every 0 1000000000 <;> cases btw s.Until 0 1000000000 <;> by_cases h1:s.Every=0 <;> by_cases h2:s.Until=0 <;> simp [h1,h2]
def Lt (tl:Int):List WB→List Int→Int
 | p :: ps,a :: ys=>if (!(fitsT p.Ty a))=true then 2 else Lt tl ps ys
 | _,_=>tl
def VQ (d:Zc)(s:Xo):Int :=
 match d.Routines.find? (fun r=>decide (r.Name=s.Routine)) with
 | none=>5
 | some r=>if decide ((s.Args.length:Int)≠(r.Params.length:Int))=true then 8 else Lt (Zat s) r.Params s.Args
theorem P9.a {s:Xo}(h:P9 s):s.Args.length≤4611686018427387:=by have:=h.Args.1; omega
theorem IX.p {r:ZT}(h:IX r):r.Params.length≤4611686018427387∧r.Locals.length≤4611686018427387∧ZiP r.Body:=by
 have:=h.Params.1; have:=h.Locals.1; have:=h.Body
 exact ⟨by omega,by omega,by omega,this.2⟩
abbrev Seen:=List (List UInt8)
def Y7 (s:List UInt8)(seen:Seen):Int×Seen:=if decide (V9 s≠0)=true then (V9 s,seen) else if seen.contains s=true then (4,seen) else (0,seen ++ [s])
def Yx (s:List UInt8)(rest:Int)(seen:Seen):Int×Seen:=if decide ((Y7 s seen).1≠0)=true then Y7 s seen else (rest,(Y7 s seen).2)
def Lr (v:VK):Int:=if (!(btw v.Ty 1 3))=true then 1 else if (!(fitsT v.Ty v.N))=true then 2 else 0
def Lh (x:Yv):Int:=if (!(btw x.Room 1 1000))=true then 2 else if (decide (x.Policy < 1) || decide (3 < x.Policy))=true then 1 else 0
def ZaA (x:YW):Int:=if (!(btw x.Length 1 1000) || !(btw x.Step 1 1000))=true then 2 else 0
def QY {α σ:Type}(most:Int)(step:α→σ→Int×σ)(l:List α)(s:σ):Int×σ:=if decide (most < (l.length:Int))=true then (6,s) else YH step l s
def PV {α:Type}(most:Int)(f:α→Int)(l:List α):Int:=if decide (most < (l.length:Int))=true then 6 else Yh f l
def Zcb (f:WB):Int:=if (!(btw f.Ty 1 3))=true then 1 else 0
def Zo3 (l:List WB)(s:Seen):Int×Seen:=YH (fun f:WB=>Yx f.Name (Zcb f)) l s
def Xx (r:ZT):Int :=
 if (decide (6 < (r.Params.length:Int)) || decide (16 < (r.Params.length:Int) + (r.Locals.length:Int)))=true then 6
 else if decide ((Zo3 (r.Params ++ r.Locals) []).1≠0)=true then (Zo3 (r.Params ++ r.Locals) []).1 else CV r.Body
def Zqz (d:Zc)(l:Zdz):Int :=
 if decide ((l.Terms.length:Int)=0)=true then 7 else if decide (PV 8 (ZdV d) l.Terms≠0)=true then PV 8 (ZdV d) l.Terms else if (!(inB l.Total))=true then 2 else 0
theorem ZnF.t {l:Zdz}(h:ZnF l):l.Terms.length≤4611686018427387:=by have:=h.Terms.1; omega
def Dy (d:Zc):Int:=(QY 32 (fun l:Zdz=>Yx l.Name (Zqz d l)) d.Laws []).1
abbrev Step:=Seen→Int×Seen
def ZcX (d:Zc):List Step:=[QY 32 (fun v:VK=>Yx v.Name (Lr v)) d.Vars,QY 32 (fun v:Zy=>Yx v.Name (Znm d v)) d.Resources,QY 32 (fun v:Yv=>Yx v.Name (Lh v)) d.Stores,QY 32 (fun v:YW=>Yx v.Name (ZaA v)) d.Belts,QY 32 Y7 d.Queues,QY 32 Y7 d.Streams,QY 32 Y7 d.Tallies,QY 32 Y7 d.Levels,QY 32 Y7 d.Counts,
 QY 16 (fun v:ZT=>Yx v.Name (Xx v)) d.Routines,fun s=>(PV 32 (VQ d) d.Starts,s),fun s=>(Dy d,s)]
def Zgy (d:Zc):Int:=(Dc (ZcX d) []).1
theorem ZnG.l {m:QP}(h:ZnG m):m.Params.length≤4611686018427387∧m.Sites.length≤4611686018427387∧m.Links.length≤4611686018427387:=by
 have:=h.Params.1; have:=h.Sites.1; have:=h.Links.1; omega
def CZ (s:List UInt8)(seen:Seen):Int:=YU (V9 s) (Y3 (!(seen.contains s)) 4)
theorem Zdr (s:List UInt8)(rest:Int)(seen:Seen):(Yx s rest seen).1=YU (CZ s seen) rest:=by
 by_cases h1:V9 s=0 <;> rcases Bool.eq_false_or_eq_true (seen.contains s) with h2 | h2 <;> simp only [Yx,Y7,CZ,YU,Y3,h1,h2] <;> simp [h1]
theorem Zv4 {s:List UInt8}{rest:Int}{seen:Seen}(h:YU (CZ s seen) rest=0):(Yx s rest seen)=(0,seen ++ [s]):=by
 by_cases h1:V9 s=0 <;> rcases Bool.eq_false_or_eq_true (seen.contains s) with h2 | h2 <;> simp only [CZ,YU,Y3,h1,h2] at h <;> simp [h1] at h
 simp only [Yx,Y7,h1,h2]
 simp [h]
theorem Zwr (f:WB):Y3 (ZiA f.Ty) 1=Zcb f:=by
 rw [Zme]; unfold Y3 Zcb; cases btw f.Ty 1 3 <;> rfl
def Xm (d:Zc):List (Int×List (List UInt8×Int)):=[(32,d.Vars.map fun v=>(v.Name,Lr v)),(32,d.Resources.map fun v=>(v.Name,Znm d v)),(32,d.Stores.map fun v=>(v.Name,Lh v)),(32,d.Belts.map fun v=>(v.Name,ZaA v)),(32,d.Queues.map fun v=>(v,0)),(32,d.Streams.map fun v=>(v,0)),(32,d.Tallies.map fun v=>(v,0)),(32,d.Levels.map fun v=>(v,0)),(32,d.Counts.map fun v=>(v,0)),(16,d.Routines.map fun v=>(v.Name,Xx v))]
theorem Zyf (x:Yv):YU (Y3 (btw x.Room 1 1000) 2) (Y3 (decide (1≤x.Policy) && decide (x.Policy≤3)) 1)=Lh x:=by
 unfold YU Y3 Lh
 have e:(decide (x.Policy < 1) || decide (3 < x.Policy))=!(decide (1≤x.Policy) && decide (x.Policy≤3)):=by
  have a1:decide (x.Policy < 1)=!decide (1≤x.Policy):=by rw [← decide_not]; congr 1; apply propext; omega
  have a2:decide (3 < x.Policy)=!decide (x.Policy≤3):=by rw [← decide_not]; congr 1; apply propext; omega
  rw [Bool.not_and,a1,a2]
 rw [e]
 cases btw x.Room 1 1000 <;> cases (decide (1≤x.Policy) && decide (x.Policy≤3)) <;> simp
theorem ZyE (x:YW):Y3 (btw x.Length 1 1000 && btw x.Step 1 1000) 2=ZaA x:=by
 unfold Y3 ZaA; cases btw x.Length 1 1000 <;> cases btw x.Step 1 1000 <;> rfl
theorem valueR (v:VK):YU (Y3 (ZiA v.Ty) 1) (Y3 (fitsT v.Ty v.N) 2)=Lr v:=by
 rw [Zme]; unfold YU Y3 Lr; cases btw v.Ty 1 3 <;> cases fitsT v.Ty v.N <;> rfl
theorem IQ {α β:Type}{f:α→β}{l:List α}{i:Nat}{y:β}(h:(l.map f)[i]? = some y):∃ x,l[i]? = some x∧f x=y:=by
 rw [List.getElem?_map] at h
 exact Option.map_eq_some_iff.1 h
theorem kd (k:Nat):(∀ j:Nat,k=j→decide (((k:Nat):Int)=(j:Int))=true)∧(∀ j:Nat,k≠j→decide (((k:Nat):Int)=(j:Int))=false):=⟨fun j h=>by simp [h],fun j h=>by simp only [decide_eq_false_iff_not]; omega⟩
def He (q:List UInt8×Int):Seen→Int×Seen:=Yx q.1 q.2
def stepD (p:Int×List (List UInt8×Int)):Seen→Int×Seen:=QY p.1 He p.2
theorem Zi3 {α β σ:Type}(f:α→β)(step:β→σ→Int×σ):∀ (l:List α) (s:σ),YH step (l.map f) s=YH (fun x=>step (f x)) l s
 | [],s=>rfl
 | x :: r,s=>by rw [List.map_cons,YH,YH,Zi3 f step r]
theorem Ol {α β σ:Type}(f:α→β)(step:β→σ→Int×σ)(most:Int)(l:List α):QY most step (l.map f)=QY most (fun x=>step (f x)) l:=by
 funext s; unfold QY; rw [Zi3,List.length_map]
def Zbj (d:Zc)(laws:Int):Int:=if decide (PV 32 (VQ d) d.Starts≠0)=true then PV 32 (VQ d) d.Starts else laws
def Zye (d:Zc)(laws:Int):Int:=if decide ((Dc ((Xm d).map stepD) []).1≠0)=true then (Dc ((Xm d).map stepD) []).1 else Zbj d laws
theorem Zvt (d:Zc):Zgy d=Zye d (Dy d):=by
 have e:ZcX d=(Xm d).map stepD ++ [fun s=>(PV 32 (VQ d) d.Starts,s),fun s=>(Dy d,s)]:=by
  have f1:stepD (32,d.Vars.map fun v=>(v.Name,Lr v))=QY 32 (fun v:VK=>Yx v.Name (Lr v)) d.Vars:=Ol _ _ _ _
  have f2:stepD (32,d.Resources.map fun v=>(v.Name,Znm d v))=QY 32 (fun v:Zy=>Yx v.Name (Znm d v)) d.Resources:=Ol _ _ _ _
  have f3:stepD (32,d.Stores.map fun v=>(v.Name,Lh v))=QY 32 (fun v:Yv=>Yx v.Name (Lh v)) d.Stores:=Ol _ _ _ _
  have f4:stepD (32,d.Belts.map fun v=>(v.Name,ZaA v))=QY 32 (fun v:YW=>Yx v.Name (ZaA v)) d.Belts:=Ol _ _ _ _
  have z:(fun v:List UInt8=>He (v,0))=Y7:=by
   funext v s
   show Yx v 0 s=Y7 v s
   unfold Yx
   by_cases h:(Y7 v s).1=0
   ·simp only [h,ne_eq,not_true_eq_false,decide_false,Bool.false_eq_true,if_false]; rw [← h]
   ·simp [h]
  have f5:∀ l:List (List UInt8),stepD (32,l.map fun v=>(v,0))=QY 32 Y7 l:=fun l=>by rw [stepD,Ol,z]
  have f6:stepD (16,d.Routines.map fun v=>(v.Name,Xx v))=QY 16 (fun v:ZT=>Yx v.Name (Xx v)) d.Routines:=Ol _ _ _ _
  unfold ZcX Xm
  simp only [List.map_cons,List.map_nil,f1,f2,f3,f4,f5,f6]
  rfl
 have ap:∀ (l:List (Seen→Int×Seen)) (s:Seen),(Dc (l ++ [fun s=>(PV 32 (VQ d) d.Starts,s),fun s=>(Dy d,s)]) s).1=if decide ((Dc l s).1≠0)=true then (Dc l s).1 else Zbj d (Dy d):=by
  intro l
  induction l with
  | nil =>
   intro s
   by_cases h:PV 32 (VQ d) d.Starts=0 <;> by_cases h2:Dy d=0 <;> simp [Dc,Zbj,h,h2]
  | cons f r ih =>
   intro s
   rw [List.cons_append,Dc,Dc]
   by_cases h:(f s).1=0
   ·simp only [h,ne_eq,not_true_eq_false,decide_false,Bool.false_eq_true,if_false]
    exact ih _
   ·simp [h]
 rw [Zgy,e,ap]
 rfl
theorem Zm6 (d:Zc):∀ (k:Nat) (p:Int×List (List UInt8×Int)),(Xm d)[k]? = some p→p.1=if k=9 then 16 else 32
 | 0,p,h=>by cases h; rfl
 | 1,p,h=>by cases h; rfl
 | 2,p,h=>by cases h; rfl
 | 3,p,h=>by cases h; rfl
 | 4,p,h=>by cases h; rfl
 | 5,p,h=>by cases h; rfl
 | 6,p,h=>by cases h; rfl
 | 7,p,h=>by cases h; rfl
 | 8,p,h=>by cases h; rfl
 | 9,p,h=>by cases h; rfl
 | k + 10,p,h=>by simp [Xm] at h
theorem Zma:∀ (l:List (List UInt8×Int)) (s:Seen),(YH He l s).2.length≤s.length + l.length
 | [],s=>by simp [YH]
 | x :: r,s=>by
  have ih:=Zma r (He x s).2
  have h1:(He x s).2.length≤s.length + 1:=by
   unfold He Yx
   split
   ·unfold Y7; split <;> (try split) <;> simp
   ·show (Y7 x.1 s).2.length≤_
    unfold Y7; split <;> (try split) <;> simp
  rw [YH]
  split
  ·simp; omega
  ·simp; omega
theorem Zqw {s:List UInt8}{rest:Int}{seen:Seen}(h:(Yx s rest seen).1=0):(Yx s rest seen).2=seen ++ [s]∧s ∉ seen∧rest=0:=by
 rw [Zdr] at h
 have w:=Zv4 h
 refine ⟨by rw [w],?_,?_⟩
 ·intro hm
  have:seen.contains s=true:=by simpa using hm
  simp only [CZ,this,YU,Y3] at h
  by_cases h1:V9 s=0 <;> simp [h1] at h
 ·by_cases h1:CZ s seen=0
  ·simpa [YU,h1] using h
  ·simp [YU,h1] at h
theorem Zqk:∀ (l:List (List UInt8×Int)) (s:Seen),(YH He l s).1=0→(YH He l s).2=s ++ l.map (·.1)∧(∀ q ∈ l.map (·.1),q ∉ s)∧(l.map (·.1)).Nodup∧∀ q ∈ l,q.2=0
 | [],s,_=>by simp [YH]
 | x :: r,s,h=>by
  by_cases hz:(He x s).1=0
  ·obtain ⟨w1,w2,w3⟩:=Zqw (s := x.1) (rest := x.2) (seen := s) hz
   have e:YH He (x :: r) s=YH He r (s ++ [x.1]):=by
    have:(He x s).2=s ++ [x.1]:=w1
    simp [YH,hz,this]
   rw [e] at h ⊢
   obtain ⟨i1,i2,i3,i4⟩:=Zqk r _ h
   refine ⟨by rw [i1]; simp,?_,?_,?_⟩
   ·intro q hq
    rw [List.map_cons] at hq
    rcases List.mem_cons.1 hq with rfl | hq
    ·exact w2
    ·exact fun hm=>i2 q hq (by simp [hm])
   ·rw [List.map_cons,List.nodup_cons]
    exact ⟨fun hm=>i2 x.1 hm (by simp),i3⟩
   ·intro q hq
    rcases List.mem_cons.1 hq with rfl | hq
    ·exact w3
    ·exact i4 q hq
  ·have e:YH He (x :: r) s=He x s:=by simp [YH,hz]
   rw [e] at h; exact absurd h hz
def ZaG (p:Int×List (List UInt8×Int)):List (List UInt8):=p.2.map (·.1)
theorem Ztn:∀ (ds:List (Int×List (List UInt8×Int))) (s:Seen),(Dc (ds.map stepD) s).1=0→ds.Pairwise (fun a b=>∀ x ∈ ZaG a,x ∉ ZaG b)∧(∀ p ∈ ds,(ZaG p).Nodup∧(∀ x ∈ ZaG p,x ∉ s)∧∀ q ∈ p.2,q.2=0)
 | [],s,_=>⟨List.Pairwise.nil,fun p h=>by cases h⟩
 | p :: r,s,h=>by
  by_cases hz:(stepD p s).1=0
  ·have e:Dc ((p :: r).map stepD) s=Dc (r.map stepD) (stepD p s).2:=by simp [Dc,hz]
   rw [e] at h
   have hl:¬ p.1 < (p.2.length:Int):=fun hl=>by simp [stepD,QY,hl] at hz
   have e2:stepD p s=YH He p.2 s:=by simp [stepD,QY,hl]
   rw [e2] at hz h
   obtain ⟨w1,w2,w3,w4⟩:=Zqk p.2 s hz
   rw [w1] at h
   obtain ⟨i1,i2⟩:=Ztn r _ h
   refine ⟨List.Pairwise.cons (fun b hb x hx hm=>(i2 b hb).2.1 x hm (by simp [ZaG] at hx ⊢; exact .inr hx)) i1,fun a ha=>?_⟩
   rcases List.mem_cons.1 ha with rfl | ha
   ·exact ⟨w3,w2,w4⟩
   ·exact ⟨(i2 a ha).1,fun x hx hm=>(i2 a ha).2.1 x hx (by simp [hm]),(i2 a ha).2.2⟩
  ·have e:Dc ((p :: r).map stepD) s=stepD p s:=by simp [Dc,hz]
   rw [e] at h; exact absurd h hz
def Om (nm:List UInt8):List (List UInt8×List (List UInt8))→List UInt8
 | []=>[]
 | (w,ns) :: r=>if ns.contains nm=true then w else Om nm r
theorem Ze6 (nm:List UInt8):∀ l:List (List UInt8×List (List UInt8)),Om nm l=[]∨Om nm l ∈ l.map (·.1)
 | []=>.inl rfl
 | (w,ns) :: r=>by
  rw [Om]
  split
  ·right; simp
  ·rcases Ze6 nm r with h | h
   ·exact .inl h
   ·right; rw [List.map_cons]; exact List.mem_cons_of_mem _ h
theorem Ze5 (nm:List UInt8):∀ l:List (List UInt8×List (List UInt8)),l.Pairwise (fun a b=>∀ x ∈ a.2,x ∉ b.2)→(l.map (·.1)).Nodup→[] ∉ l.map (·.1)→∀ p ∈ l,(Om nm l=p.1↔nm ∈ p.2)
 | [],_,_,_,p,h=>by cases h
 | (w,ns) :: r,hp,hn,he,p,h=>by
  rw [List.pairwise_cons] at hp
  rw [List.map_cons,List.nodup_cons] at hn
  rw [List.map_cons,List.mem_cons,not_or] at he
  rw [Om]
  by_cases hc:nm ∈ ns
  ·rw [if_pos (by simpa using hc)]
   rcases List.mem_cons.1 h with rfl | h
   ·simp [hc]
   ·refine ⟨fun e=>absurd (List.mem_map_of_mem (f := (·.1)) h) (by show p.1 ∉ _; rw [← e]; exact hn.1),fun hm=>absurd hm (hp.1 p h nm hc)⟩
  ·rw [if_neg (by simpa using hc)]
   rcases List.mem_cons.1 h with rfl | h
   ·refine ⟨fun e=>?_,fun hm=>absurd hm hc⟩
    rcases Ze6 nm r with h1 | h1
    ·rw [h1] at e; exact absurd e he.1
    ·rw [e] at h1; exact absurd h1 hn.1
   ·exact Ze5 nm r hp.2 hn.2 he.2 p h
def Vr (d:Zc):List (List UInt8×List (List UInt8)):=[([118,97,114],d.Vars.map (·.Name)),([114,101,115,111,117,114,99,101],d.Resources.map (·.Name)),([115,116,111,114,101],d.Stores.map (·.Name)),([98,101,108,116],d.Belts.map (·.Name)),([113,117,101,117,101],d.Queues),([115,116,114,101,97,109],d.Streams),([116,97,108,108,121],d.Tallies),([108,101,118,101,108],d.Levels),([99,111,117,110,116],d.Counts),([114,111,117,116,105,110,101],d.Routines.map (·.Name))]
theorem Zl0 (d:Zc):(Vr d).map (·.2)=(Xm d).map ZaG:=by
 simp [Vr,Xm,ZaG,Function.comp_def]
end Go.Proofs.YtgjcjbhhhlelnaaGreatDoor
end
