import Derived.Test.YtleomfgijkapfaaGreatDoorT4
set_option linter.all false
section
namespace Go.Proofs.YtleomfgijkapfaaGreatDoor
open Go Go.Proofs.YtleomfgijkapfaaGreatDoor.Abs
set_option maxRecDepth 100000
def Zku (n:Int):Bool:=decide (97≤n) && decide (n≤122)
def Zde (n:Int):Bool:=Zku n || decide (n=95) || (decide (48≤n) && decide (n≤57))
def kws:List (List UInt8):=[[97,100,100],[97,102,116,101,114],[97,110,100],[97,116],[98,101,108,116],[98,111,111,108],[99,111,110,115,101,114,118,101],[99,111,110,115,116],[99,111,117,110,116],[99,121,99,108,101],[100,111,119,110],[100,114,97,119],[100,117,114],[101,108,115,101],[101,110,100],[101,118,101,114,121],[102,97,108,115,101],[102,97,117,108,116],[102,105,102,111],[102,114,101,101],[102,114,111,109],[103,101,111,109],[103,101,116],[104,111,108,100],[105,102],[105,110,116],[105,110,116,111],[108,101,97,115,116],[108,101,118,101,108],[108,105,102,111],[108,105,110,107],[108,111,99,97,108],[109,97,120],[109,105,110],[109,111,100,101,108],[110,111,116],[110,111,119],[111,98,115,101,114,118,101],[111,114],[112,97,114,97,109],[112,114,101,101,109,112,116],[112,114,105,111],[112,117,116],[113,117,101,117,101],[114,101,108,101,97,115,101],[114,101,115,111,117,114,99,101],[114,105,100,101],[114,111,117,116,105,110,101],[115,101,105,122,101],[115,101,110,100],[115,101,116],[115,104,105,102,116],[115,105,103,110,97,108],[115,105,116,101],[115,105,122,101],[115,112,97,119,110],[115,116,97,114,116],[115,116,111,112],[115,116,111,114,101],[115,116,114,101,97,109],[115,117,109],[116,97,98,108,101],[116,97,108,108,121],[116,105,99,107,115],[116,105,109,101],[116,114,117,101],[117,110,105,102,111,114,109],[117,110,116,105,108],[117,112],[118,97,114],[119,97,105,116],[119,97,105,116,105,110,103],[119,104,105,108,101]]
def kwB (s:List UInt8):Bool:=kws.any fun k=>decide (s=k)
def Ve (s:List UInt8):Int :=
 match s with
 | []=>3
 | c :: r=>if 24 < (c :: r).length∨Zku c.toNat=false∨kwB (c :: r)=true then 3 else if (c :: r).all (fun x=>Zde x.toNat) then 0 else 3
def inB (n:Int):Bool:=decide (-1000000000000≤n) && decide (n≤1000000000000)
theorem Fp (s:List UInt8):Ve s=0∨Ve s=3:=by
 unfold Ve
 split
 ·exact .inr rfl
 ·split
  ·exact .inr rfl
  ·split
   ·exact .inl rfl
   ·exact .inr rfl
def VO {α σ:Type}(step:α→σ→Int×σ):List α→σ→Int×σ
 | [],s=>(0,s)
 | x :: r,s=>if decide ((step x s).1≠0)=true then step x s else VO step r (step x s).2
def ZlJ {σ:Type}:List (σ→Int×σ)→σ→Int×σ
 | [],s=>(0,s)
 | f :: r,s=>if decide ((f s).1≠0)=true then f s else ZlJ r (f s).2
theorem Znm {n:Int}(h1:-9223372036854775808≤n)(h2:n≤9223372036854775807):IntKind.i64.wrap n=n:=i64_in h1 h2
def ZiK (a b:Ya):Bool:=decide (a.Op=b.Op) && decide (a.A=b.A) && decide (a.B=b.B) && decide (a.N=b.N) && decide (a.Values=b.Values) && decide (a.Weights=b.Weights)
def btw (x lo hi:Int):Bool:=decide (lo≤x) && decide (x≤hi)
def Ky (d:Ya):Bool :=
 if decide (d.Op=1)=true then decide ((d.Values.length:Int) + d.Weights.length=0) && decide (d.B=0) && decide (d.N=0)
 else if decide (d.Op=2)=true then decide ((d.Values.length:Int) + d.Weights.length=0) && decide (d.N=0)
 else if decide (d.Op=5)=true then decide ((d.Values.length:Int) + d.Weights.length=0) && decide (d.N=0)
 else if decide (d.Op=4)=true then decide ((d.Values.length:Int) + d.Weights.length=0)
 else if decide (d.Op=3)=true then decide (d.A=0) && decide (d.B=0) && decide (d.N=0)
 else false
theorem Qq.v {d:Ya}(h:Qq d):d.Values.length≤4611686018427387:=by have:=h.Values.1; omega
theorem Qq.w {d:Ya}(h:Qq d):d.Weights.length≤4611686018427387:=by have:=h.Weights.1; omega
theorem Qq.wr {d:Ya}(h:Qq d):IntKind.i64.wrap ((d.Values.length:Int) + (d.Weights.length:Int))=(d.Values.length:Int) + (d.Weights.length:Int):=by
 have:=h.v; have:=h.w; exact Znm (by omega) (by omega)
def Bv (d:Ya):Bool :=
 if decide (d.Op=1)=true then decide (d.B=0) && decide (d.N=0) && (decide ((d.Values.length:Int)=0) && decide ((d.Weights.length:Int)=0))
 else if decide (d.Op=2)=true then decide (d.N=0) && (decide ((d.Values.length:Int)=0) && decide ((d.Weights.length:Int)=0))
 else if decide (d.Op=5)=true then decide (d.N=0) && (decide ((d.Values.length:Int)=0) && decide ((d.Weights.length:Int)=0))
 else if decide (d.Op=3)=true then decide (d.A=0) && decide (d.B=0) && decide (d.N=0)
 else if decide (d.Op=4)=true then (decide ((d.Values.length:Int)=0) && decide ((d.Weights.length:Int)=0))
 else false
def ZhZ (lo hi:Int)(x:Int):Bool:=decide (x < lo) || decide (hi < x)
def Ep {α:Type}(f:α→Bool):List α→Int→Int
 | [],_=>-1
 | x :: r,i=>if f x=true then i else Ep f r (i + 1)
theorem NF {α:Type}(f:α→Bool):∀ (l:List α) (i:Int),0≤i→decide (0≤Ep f l i)=l.any f
 | [],i,h=>by simp [Ep]
 | x :: r,i,h=>by
  have ih:=NF f r (i + 1) (by omega)
  cases hx:f x <;> simp [Ep,hx,h]
  simpa using ih
def Y8 (lo hi:Int)(l:List Int):Bool:=!(l.any (ZhZ lo hi))
def VY (d:Ya):Int :=
 if (!(Ky d))=true then 1
 else if decide (d.Op=1)=true then (if (!(Y8 0 1000000000 [d.A]))=true then 2 else 0)
 else if decide (d.Op=2)=true then (if (!(Y8 0 1000000000 [d.A,d.B] && decide (d.A≤d.B)))=true then 2 else 0)
 else if decide (d.Op=4)=true then (if (!(Y8 1 20 [d.N] && Y8 0 1000000 [d.A,d.B] && decide (d.A≤d.B)))=true then 2 else 0)
 else if decide (d.Op=5)=true then (if (!(Y8 1 1000 [d.A,d.B]))=true then 2 else 0)
 else if decide (d.Op=3)=true then
  (if decide ((d.Values.length:Int)≠(d.Weights.length:Int))=true then 8 else if decide ((d.Values.length:Int)=0)=true then 7 else if decide (20 < (d.Values.length:Int))=true then 6
   else if (!(Y8 0 1000000000 d.Values && Y8 1 1000 d.Weights))=true then 2 else 0)
 else 2
def Zii:List Int→List Int→Int
 | x :: r,y :: s=>if (!(btw x 0 1000000000) || !(btw y 1 1000))=true then 2 else Zii r s
 | _,_=>0
def ZcL (d:Ya):Int :=
 if decide ((d.Values.length:Int)≠(d.Weights.length:Int))=true then 8 else if decide ((d.Values.length:Int)=0)=true then 7 else if decide (20 < (d.Values.length:Int))=true then 6 else Zii d.Values d.Weights
def Zgo (d:Ya):Int :=
 if (!(Bv d))=true then 1
 else if decide (d.Op=1)=true then (if (!(btw d.A 0 1000000000))=true then 2 else 0)
 else if decide (d.Op=2)=true then (if (!(btw d.A 0 d.B && decide (d.B≤1000000000)))=true then 2 else 0)
 else if decide (d.Op=3)=true then ZcL d
 else if decide (d.Op=4)=true then (if (!(btw d.N 1 20 && btw d.A 0 d.B && decide (d.B≤1000000)))=true then 2 else 0)
 else if decide (d.Op=5)=true then (if (!(btw d.A 1 1000 && btw d.B 1 1000))=true then 2 else 0)
 else 0
def ZhT (op:Int):Bool:=decide (22≤op) && decide (op≤24)
def ZeE (op:Int):Int :=
 if (decide (op=1) || decide (op=2) || decide (op=3) || decide (op=4))=true then 0
 else if (decide (5≤op) && decide (op≤8))=true then 1
 else if (decide (9≤op) && decide (op≤21))=true then 2
 else if (decide (22≤op) && decide (op≤26))=true then 0 else -1
def Zcr (code:Bool)(op:Int):Bool :=
 if decide (op=3)=true then !code else if decide (op=25)=true then code else if decide (op=26)=true then code else decide (0≤ZeE op)
def ZeU (code:Bool)(op:Int):Bool:=decide (op=3) || (ZhT op && !code)
def Zli (code:Bool)(op:Int):Int×Int×Bool :=
 if decide (op=2)=true then (0,1,true) else if decide (op=25)=true then (0,15,true) else if decide (op=26)=true then (0,31,true) else if (ZhT op && code)=true then (0,63,true) else (0,0,false)
def ZaD (code:Bool)(e:Zq):Int :=
 if (!(Zcr code e.Op) || decide ((e.Kids.length:Int)≠ZeE e.Op) || (decide (e.Name≠[]) && !(ZeU code e.Op)))=true then 1
 else if decide (e.Op=1)=true then (if (!(inB e.N))=true then 2 else 0)
 else if (!(Zli code e.Op).2.2 && decide (e.N≠0))=true then 1
 else if ((Zli code e.Op).2.2 && (decide (e.N < (Zli code e.Op).1) || decide ((Zli code e.Op).2.1 < e.N)))=true then 2
 else if ZeU code e.Op=true then Ve e.Name else 0
theorem Fg {x e:Zq}(h:x ∈ e.Kids):SizeOf.sizeOf x < SizeOf.sizeOf e:=by
 cases e
 have:=List.sizeOf_lt_of_mem h
 simp at *
 omega
theorem CB (e:Zq):0 < SizeOf.sizeOf e:=by cases e; simp; omega
theorem ZW.k {e:Zq}(h:ZW e):e.Kids.length≤4611686018427387:=by have:=h.Kids.1; omega
theorem ZW.n {e:Zq}(h:ZW e):e.Name.length≤140737488351232:=h.Name
mutual
def Jy (code:Bool):Zq→Int
 | ⟨o,a,n,ks⟩=>if decide (ZaD code ⟨o,a,n,ks⟩≠0)=true then ZaD code ⟨o,a,n,ks⟩ else LJ code ks
def LJ (code:Bool):List Zq→Int
 | []=>0
 | x :: r=>if decide (Jy code x≠0)=true then Jy code x else LJ code r
end
theorem Px (code:Bool):∀ l:List Zq,LJ code l=IW (Jy code) l
 | []=>by rw [LJ]; rfl
 | x :: r=>by rw [LJ,Px code r]; rfl
theorem ZeW (code:Bool)(e:Zq):Jy code e=if decide (ZaD code e≠0)=true then ZaD code e else IW (Jy code) e.Kids:=by
 cases e; rw [Jy,Px]
mutual
def ZhF:Zq→Int
 | ⟨_,_,_,ks⟩=>Zen ks 1
def Zen:List Zq→Int→Int
 | [],n=>n
 | x :: r,n=>Zen r (IntKind.i64.wrap (n + ZhF x))
end
theorem ZbY:∀ (l:List Zq) (n:Int),Zen l n=sumW ZhF l n
 | [],n=>by rw [Zen]; rfl
 | x :: r,n=>by rw [Zen,ZbY r]; rfl
theorem Zi9 (e:Zq):ZhF e=sumW ZhF e.Kids 1:=by cases e; rw [ZhF,ZbY]
mutual
def Zgn:Zq→Int
 | ⟨_,_,_,ks⟩=>IntKind.i64.wrap (Zep ks 0 + 1)
def Zep:List Zq→Int→Int
 | [],n=>n
 | x :: r,n=>Zep r (if Zgn x > n then Zgn x else n)
end
theorem Zca:∀ (l:List Zq) (n:Int),Zep l n=Zkv Zgn l n
 | [],n=>by rw [Zep]; rfl
 | x :: r,n=>by rw [Zep,Zca r]; rfl
theorem ZiI (e:Zq):Zgn e=IntKind.i64.wrap (Zkv Zgn e.Kids 0 + 1):=by cases e; rw [Zgn,Zca]
def MN (op:Int):Int :=
 if (decide (op < 1) || decide (26 < op))=true then -1 else if (decide (5≤op) && decide (op≤8))=true then 1 else if (decide (9≤op) && decide (op≤21))=true then 2 else 0
def ZgI (op:Int):Int:=if decide (op=25)=true then 15 else if decide (op=26)=true then 31 else 63
def Zdn (code:Bool)(e:Zq):Int :=
 if (!(decide (0≤MN e.Op) && ((code && decide (e.Op≠3)) || (!code && decide (e.Op≤24)))) || (!(!code && (decide (e.Op=3) || ZhT e.Op)) && decide (e.Name≠[])) || (!(decide (e.Op=1) || decide (e.Op=2) || (code && (ZhT e.Op || decide (e.Op=25) || decide (e.Op=26)))) && decide (e.N≠0)) || decide ((e.Kids.length:Int)≠MN e.Op))=true then 1
 else if ((decide (e.Op=1) && !(inB e.N)) || ((decide (e.Op=2) && decide (e.N≠0)) && decide (e.N≠1)) || ((code && (ZhT e.Op || decide (e.Op=25) || decide (e.Op=26))) && (decide (e.N < 0) || decide (ZgI e.Op < e.N))))=true then 2
 else if ((!code && (decide (e.Op=3) || ZhT e.Op)) && decide (Ve e.Name≠0))=true then Ve e.Name else 0
theorem Zn6 (op:Int):1≤op∧op≤26→op=1∨op=2∨op=3∨op=4∨op=5∨op=6∨op=7∨op=8∨op=9∨op=10∨op=11∨op=12∨op=13∨op=14∨op=15∨op=16∨op=17∨op=18∨op=19∨op=20∨op=21∨op=22∨op=23∨op=24∨op=25∨op=26:=by omega
theorem Zgz (code:Bool)(e:Zq):Zdn code e=ZaD code e:=by
 obtain ⟨op,nm,n,ks⟩:=e
 by_cases h:1≤op∧op≤26
 ·rcases Zn6 op h with rfl | rfl | rfl | rfl | rfl | rfl | rfl | rfl | rfl | rfl | rfl | rfl | rfl | rfl | rfl | rfl | rfl | rfl | rfl | rfl | rfl | rfl | rfl | rfl | rfl | rfl <;> cases code <;> simp [Zdn,ZaD,MN,ZgI,ZhT,ZeE,Zcr,ZeU,Zli] <;> grind
 ·have h1:MN op=-1:=by simp only [MN]; rw [if_pos]; simp; omega
  have h2:ZeE op=-1:=by
   simp only [ZeE]
   rw [if_neg (by simp; omega),if_neg (by simp; omega),if_neg (by simp; omega),if_neg (by simp; omega)]
  have h3:Zcr code op=false:=by
   simp only [Zcr,h2]
   rw [if_neg (by simp; omega),if_neg (by simp; omega),if_neg (by simp; omega)]; rfl
  simp [Zdn,ZaD,h1,h2,h3]
theorem ZeV (code:Bool)(e:Zq):(if decide (Zdn code e≠0)=true then Zdn code e else IW (Jy code) e.Kids)=Jy code e:=by rw [Zgz,← ZeW]
def Q7 (code:Bool)(e:Zq):Int:=if decide (60 < ZhF e)=true then 6 else if decide (12 < Zgn e)=true then 11 else Jy code e
def U5 (op:Int):En×Bool:=if decide (op=1)=true then (⟨true,false,true,false,false,false,false,false,false⟩,true) else if decide (op=7)=true then (⟨true,false,true,false,false,false,false,false,false⟩,true) else if decide (op=8)=true then (⟨true,false,true,false,false,false,false,false,false⟩,true) else if decide (op=12)=true then (⟨true,false,true,false,false,false,false,false,false⟩,true) else if decide (op=15)=true then (⟨true,false,true,false,false,false,false,false,false⟩,true) else if decide (op=16)=true then (⟨true,false,true,false,false,false,false,false,false⟩,true) else if decide (op=17)=true then (⟨true,false,true,false,false,false,false,false,false⟩,true) else if decide (op=2)=true then (⟨true,true,false,false,false,true,false,false,false⟩,true) else if decide (op=3)=true then (⟨false,false,true,false,false,false,false,true,true⟩,true) else if decide (op=4)=true then (⟨false,false,true,false,false,false,false,true,false⟩,true) else if decide (op=5)=true then (⟨false,false,true,false,false,false,false,false,false⟩,true) else if decide (op=6)=true then (⟨true,false,true,true,false,false,true,false,false⟩,true) else if decide (op=9)=true then (⟨true,true,false,false,false,false,false,false,false⟩,true) else if decide (op=10)=true then (⟨true,false,false,false,false,false,false,false,false⟩,true) else if decide (op=11)=true then (⟨true,false,false,false,false,false,false,false,false⟩,true) else if decide (op=13)=true then (⟨true,true,true,false,true,false,false,false,false⟩,true) else if decide (op=14)=true then (⟨true,false,true,false,true,false,false,false,false⟩,true) else if decide (op=18)=true then (⟨false,false,false,false,false,false,false,false,false⟩,true) else (⟨false,false,false,false,false,false,false,false,false⟩,false)
def ZdP (e:Zq):Bool:=decide (e.Op=0) && decide (e.Name=[]) && decide (e.N=0) && decide ((e.Kids.length:Int)=0)
def He (d:Ya):Bool:=decide (d.Op=0) && decide (d.A=0) && decide (d.B=0) && decide (d.N=0) && decide (d.Values=[]) && decide (d.Weights=[])
def Zgu (s:Zt)(u:En):Bool :=
 (u.name || decide (s.Name=[])) && (u.of || decide (s.Of=[])) && (u.e || ZdP s.E) && (u.f || ZdP s.F) && (u.args || decide ((s.Args.length:Int)=0)) && (u.dist || He s.Dist) && (u.flag || !s.Flag) && (u.body || decide ((s.Body.length:Int)=0)) && (u.other || decide ((s.Else.length:Int)=0))
def Zex (s:Zt):Bool :=
 (U5 s.Op).2 && ((((U5 s.Op).1.name || decide (s.Name=[])) && ((U5 s.Op).1.of || decide (s.Of=[])))) && (((U5 s.Op).1.e || ZdP s.E) && ((U5 s.Op).1.f || ZdP s.F) && ((U5 s.Op).1.args || decide ((s.Args.length:Int)=0))) && (((U5 s.Op).1.body || decide ((s.Body.length:Int)=0)) && ((U5 s.Op).1.other || decide ((s.Else.length:Int)=0))) && ((U5 s.Op).1.dist || He s.Dist) && ((U5 s.Op).1.flag || !s.Flag)
theorem Zgt (s:Zt):Zex s=((U5 s.Op).2 && Zgu s (U5 s.Op).1):=by
 simp only [Zex,Zgu]
 generalize (U5 s.Op).1=u
 generalize (U5 s.Op).2=b
 ac_rfl
def ZcY (s:Zt)(u:En):List Zq→Int
 | []=>if u.dist=true then VY s.Dist else 0
 | x :: r=>if decide (Q7 false x≠0)=true then Q7 false x else ZcY s u r
def Zfp (s:Zt)(u:En):Int:=if decide (6 < (s.Args.length:Int))=true then 6 else ZcY s u s.Args
def Zfr (s:Zt)(u:En):Int:=if (!u.f)=true then Zfp s u else if decide (Q7 false s.F≠0)=true then Q7 false s.F else Zfp s u
def Zfq (s:Zt)(u:En):Int:=if (!u.e)=true then Zfr s u else if decide (Q7 false s.E≠0)=true then Q7 false s.E else Zfr s u
def Zia (s:Zt)(u:En):Int :=
 if (u.name && decide (Ve s.Name≠0))=true then Ve s.Name else if (u.of && decide (Ve s.Of≠0))=true then Ve s.Of else Zfq s u
theorem Ym.a {s:Zt}(h:Ym s):s.Args.length≤4611686018427387:=by have:=h.Args.1; omega
theorem Zkx (s:Zt):SizeOf.sizeOf s.E < SizeOf.sizeOf s∧SizeOf.sizeOf s.F < SizeOf.sizeOf s∧SizeOf.sizeOf s.Args < SizeOf.sizeOf s∧SizeOf.sizeOf s.Body < SizeOf.sizeOf s∧SizeOf.sizeOf s.Else < SizeOf.sizeOf s:=by
 cases s; simp; omega
theorem Zn7 {s:Zt}{x:Zq}(h:x ∈ s.Args):SizeOf.sizeOf x < SizeOf.sizeOf s:=by
 have:=List.sizeOf_lt_of_mem h
 have:=(Zkx s).2.2.1
 omega
def Hy (s:Zt):List Zq→Int→Int
 | [],e=>e
 | x :: r,e=>if decide (e=0)=true then Hy s r (Q7 false x) else e
def Ll (s:Zt)(u:En):Int :=
 Hy s s.Args (if (decide ((if (decide ((if u.e=true then Q7 false s.E else 0)=0) && u.f)=true then Q7 false s.F else (if u.e=true then Q7 false s.E else 0))=0) && decide (6 < (s.Args.length:Int)))=true then 6
  else (if (decide ((if u.e=true then Q7 false s.E else 0)=0) && u.f)=true then Q7 false s.F else (if u.e=true then Q7 false s.E else 0)))
def ZmW (s:Zt):Int :=
 if (!(Zex s))=true then 1
 else if (((U5 s.Op).1.name && decide (Ve s.Name≠0)) || ((U5 s.Op).1.of && decide (Ve s.Of≠0)))=true then 3
 else if (decide (Ll s (U5 s.Op).1=0) && (U5 s.Op).1.dist)=true then Zgo s.Dist else Ll s (U5 s.Op).1
theorem Nc (s:Zt)(l:List Zq)(e:Int)(h:e≠0):Hy s l e=e:=by
 cases l <;> simp [Hy,h]
theorem DV (s:Zt)(u:En):∀ l:List Zq,(if (decide (Hy s l 0=0) && u.dist)=true then VY s.Dist else Hy s l 0)=ZcY s u l
 | []=>by simp [Hy,ZcY]
 | x :: r=>by
  by_cases h:Q7 false x=0
  ·simp only [Hy,ZcY,h,decide_true,if_true,ne_eq,not_true_eq_false,decide_false,Bool.false_eq_true,if_false]
   exact DV s u r
  ·simp [Hy,ZcY,h,Nc]
def ZgT (s:Zt):Int:=if (!(U5 s.Op).2 || !(Zgu s (U5 s.Op).1))=true then 1 else Zia s (U5 s.Op).1
theorem Zkk (lo hi a:Int):Y8 lo hi [a]=btw a lo hi:=by
 simp only [Y8,List.any_cons,List.any_nil,ZhZ,btw,Bool.or_false,Bool.not_or,← decide_not,Int.not_lt]
theorem Zkl (lo hi a b:Int):Y8 lo hi [a,b]=(btw a lo hi && btw b lo hi):=by
 simp only [Y8,List.any_cons,List.any_nil,ZhZ,btw,Bool.or_false,Bool.not_or,← decide_not,Int.not_lt]
theorem Zkm (lo hi a:Int)(l:List Int):Y8 lo hi (a :: l)=(btw a lo hi && Y8 lo hi l):=by
 simp only [Y8,List.any_cons,ZhZ,btw,Bool.not_or,← decide_not,Int.not_lt]
theorem Zij:∀ (l m:List Int),l.length=m.length→Zii l m=if (!(Y8 0 1000000000 l && Y8 1 1000 m))=true then 2 else 0
 | [],[],_=>by simp [Zii,Y8]
 | [],y :: m,h=>by simp at h
 | x :: l,[],h=>by simp at h
 | x :: l,y :: m,h=>by
  have ih:=Zij l m (by simpa using h)
  simp only [Zii,Zkm,ih]
  generalize Y8 0 1000000000 l=c1
  generalize Y8 1 1000 m=c2
  cases btw x 0 1000000000 <;> cases btw y 1 1000 <;> cases c1 <;> cases c2 <;> rfl
theorem ZmN (a b:Nat):decide ((a:Int) + (b:Int)=0)=(decide ((a:Int)=0) && decide ((b:Int)=0)):=by
 rw [← Bool.decide_and]; congr 1; apply propext; omega
theorem ZfJ (d:Ya):Bv d=Ky d:=by
 simp only [Bv,Ky,ZmN]
 by_cases h1:d.Op=1
 ·simp [h1]; ac_rfl
 by_cases h2:d.Op=2
 ·simp [h2,Bool.and_comm]
 by_cases h5:d.Op=5
 ·simp [h5,Bool.and_comm]
 by_cases h3:d.Op=3
 ·simp [h3]
 by_cases h4:d.Op=4
 ·simp [h4]
 simp [h1,h2,h3,h4,h5]
theorem Nw (d:Ya):Zgo d=VY d:=by
 simp only [Zgo,VY,ZfJ,Zkk,Zkl,ZcL]
 by_cases hu:Ky d=true
 ·simp only [hu]
  by_cases h1:d.Op=1
  ·simp [h1]
  by_cases h2:d.Op=2
  ·simp only [h2,btw]; simp; grind
  by_cases h3:d.Op=3
  ·simp only [h3]
   by_cases hl:d.Values.length=d.Weights.length
   ·rw [Zij _ _ hl]; simp
   ·have:¬ ((d.Values.length:Int)=d.Weights.length):=by omega
    simp [this]
  by_cases h4:d.Op=4
  ·simp only [h4,btw]; simp; grind
  by_cases h5:d.Op=5
  ·simp [h5]
  ·exfalso
   simp [Ky,h1,h2,h3,h4,h5] at hu
 ·simp [hu]
theorem Zj3 (s:Zt):ZmW s=ZgT s:=by
 have n1:=Fp s.Name
 have n2:=Fp s.Of
 unfold ZmW ZgT Zia
 rw [Zgt,Nw]
 generalize U5 s.Op=w
 obtain ⟨u,b⟩:=w
 simp only
 have key:(if (decide (Ll s u=0) && u.dist)=true then VY s.Dist else Ll s u)=Zfq s u:=by
  have ha:=DV s u s.Args
  unfold Ll Zfq Zfr Zfp
  rcases Bool.eq_false_or_eq_true u.e with h1 | h1 <;> rcases Bool.eq_false_or_eq_true u.f with h3 | h3 <;> rcases Bool.eq_false_or_eq_true (decide (6 < (s.Args.length:Int))) with h5 | h5 <;> by_cases h2:Q7 false s.E=0 <;> by_cases h4:Q7 false s.F=0 <;>
   simp only [h1,h2,h3,h4,h5,ne_eq,not_true_eq_false,not_false_eq_true,decide_true,decide_false,BL,IFJ,Nc,Bool.false_eq_true,if_true,if_false] <;> first | exact ha | (simp [Nc,h2,h4]; done) | rfl
 rw [key]
 rcases n1 with h1 | h1 <;> rcases n2 with h2 | h2 <;> cases b <;> cases Zgu s u <;> cases u.name <;> cases u.of <;> simp [h1,h2]
mutual
def Zkp:Zt→Int
 | ⟨_,_,_,_,_,_,_,_,b,e⟩=>IntKind.i64.wrap (Gi b (b.length:Int) + Gi e (e.length:Int))
def Gi:List Zt→Int→Int
 | [],n=>n
 | x :: r,n=>Gi r (IntKind.i64.wrap (n + Zkp x))
end
mutual
def Zkq:Zt→Int→Int
 | ⟨_,_,_,_,_,_,_,_,b,e⟩,n=>IntKind.i64.wrap (IntKind.i64.wrap (IntKind.i64.wrap (n + 1) + XN b 0) + XN e 0)
def XN:List Zt→Int→Int
 | [],n=>n
 | x :: r,n=>XN r (Zkq x n)
end
theorem Zem (s:Zt)(n:Int):Zkq s n=IntKind.i64.wrap (IntKind.i64.wrap (IntKind.i64.wrap (n + 1) + XN s.Body 0) + XN s.Else 0):=by cases s; rw [Zkq]
def mx3 (a b c:Int):Int:=if c > (if b > a then b else a) then c else (if b > a then b else a)
mutual
def Zmy:Zt→Int→Int
 | ⟨_,_,_,_,_,_,_,_,b,e⟩,n=>mx3 n (IntKind.i64.wrap (1 + MX b 0)) (IntKind.i64.wrap (1 + MX e 0))
def MX:List Zt→Int→Int
 | [],n=>n
 | x :: r,n=>MX r (Zmy x n)
end
theorem ZiH (s:Zt)(n:Int):Zmy s n=mx3 n (IntKind.i64.wrap (1 + MX s.Body 0)) (IntKind.i64.wrap (1 + MX s.Else 0)):=by cases s; rw [Zmy]
mutual
def ZlZ:Zt→Int
 | ⟨a,b,c,d,e,f,g,h,i,j⟩=>if decide (ZgT ⟨a,b,c,d,e,f,g,h,i,j⟩≠0)=true then ZgT ⟨a,b,c,d,e,f,g,h,i,j⟩ else if decide (J6 i≠0)=true then J6 i else J6 j
def J6:List Zt→Int
 | []=>0
 | x :: r=>if decide (ZlZ x≠0)=true then ZlZ x else J6 r
end
theorem Zi7 (s:Zt):ZlZ s=if decide (ZgT s≠0)=true then ZgT s else if decide (J6 s.Body≠0)=true then J6 s.Body else J6 s.Else:=by cases s; rw [ZlZ]
theorem Zi6 (p B E R:Int):(if decide (p=0)=true then (if decide (B=0)=true then (if decide (E≠0)=true then E else R) else if decide (B≠0)=true then B else R) else if decide (p≠0)=true then p else R) =
  if decide ((if decide (p≠0)=true then p else if decide (B≠0)=true then B else E)≠0)=true then (if decide (p≠0)=true then p else if decide (B≠0)=true then B else E) else R:=by
 by_cases h1:p=0 <;> by_cases h2:B=0 <;> by_cases h3:E=0 <;> simp [h1,h2,h3]
theorem Zng {s:Zt}{l:List Zt}(h:s ∈ l):SizeOf.sizeOf s < SizeOf.sizeOf l∧SizeOf.sizeOf s.Body < SizeOf.sizeOf l∧SizeOf.sizeOf s.Else < SizeOf.sizeOf l:=by
 have:=List.sizeOf_lt_of_mem h
 have:=Zkx s
 omega
def ZdW (l:List Zt):Prop:=l.length≤4611686018427387∧∀ s ∈ l,Ym s
theorem Ym.b {s:Zt}(h:Ym s):ZdW s.Body∧ZdW s.Else:=by
 have h1:=h.Body; have h2:=h.Else
 exact ⟨⟨by omega,h1.2⟩,by omega,h2.2⟩
theorem Znh (l:List Zt):0 < SizeOf.sizeOf l:=by cases l <;> simp <;> omega
def Aw (l:List Zt):Int:=if decide (200 < Gi l (l.length:Int))=true then 6 else if decide (12 < MX l 0)=true then 11 else J6 l
def Zax (l:List Zt):Int:=if decide (200 < XN l 0)=true then 6 else if decide (12 < MX l 0)=true then 11 else J6 l
theorem wrK (n:Int):∃ k:Int,IntKind.i64.wrap n=n + 18446744073709551616 * k:=by
 rw [IntKind.wrap_i64]
 exact ⟨-((n + 9223372036854775808) / 18446744073709551616),by omega⟩
theorem wrR (n:Int):-9223372036854775808≤IntKind.i64.wrap n∧IntKind.i64.wrap n≤9223372036854775807:=by
 rw [IntKind.wrap_i64]
 constructor <;> omega
mutual
def trS:Zt→Int
 | ⟨_,_,_,_,_,_,_,_,b,e⟩=>Zh2 b + Zh2 e
def Zh2:List Zt→Int
 | []=>0
 | x :: r=>1 + trS x + Zh2 r
end
mutual
theorem trR:∀ (s:Zt) (n:Int),∃ k:Int,Zkq s n=n + 1 + trS s + 18446744073709551616 * k
 | ⟨_,_,_,_,_,_,_,_,b,e⟩,n=>by
  rw [Zkq,trS]
  obtain ⟨k1,h1⟩:=Zml b 0
  obtain ⟨k2,h2⟩:=Zml e 0
  obtain ⟨k3,h3⟩:=wrK (n + 1)
  obtain ⟨k4,h4⟩:=wrK (IntKind.i64.wrap (n + 1) + XN b 0)
  obtain ⟨k5,h5⟩:=wrK (IntKind.i64.wrap (IntKind.i64.wrap (n + 1) + XN b 0) + XN e 0)
  exact ⟨k1 + k2 + k3 + k4 + k5,by omega⟩
theorem Zml:∀ (l:List Zt) (n:Int),∃ k:Int,XN l n=n + Zh2 l + 18446744073709551616 * k
 | [],n=>⟨0,by rw [XN,Zh2]; omega⟩
 | x :: r,n=>by
  rw [XN,Zh2]
  obtain ⟨k1,h1⟩:=trR x n
  obtain ⟨k2,h2⟩:=Zml r (Zkq x n)
  exact ⟨k1 + k2,by omega⟩
end
mutual
theorem trP:∀ (s:Zt),∃ k:Int,Zkp s=trS s + 18446744073709551616 * k
 | ⟨_,_,_,_,_,_,_,_,b,e⟩=>by
  rw [Zkp,trS]
  obtain ⟨k1,h1⟩:=Zmk b b.length
  obtain ⟨k2,h2⟩:=Zmk e e.length
  obtain ⟨k3,h3⟩:=wrK (Gi b (b.length:Int) + Gi e (e.length:Int))
  exact ⟨k1 + k2 + k3,by omega⟩
theorem Zmk:∀ (l:List Zt) (n:Int),∃ k:Int,Gi l n=n - l.length + Zh2 l + 18446744073709551616 * k
 | [],n=>⟨0,by rw [Gi,Zh2]; simp⟩
 | x :: r,n=>by
  rw [Gi,Zh2]
  obtain ⟨k1,h1⟩:=trP x
  obtain ⟨k3,h3⟩:=wrK (n + Zkp x)
  obtain ⟨k2,h2⟩:=Zmk r (IntKind.i64.wrap (n + Zkp x))
  refine ⟨k1 + k2 + k3,?_⟩
  simp only [List.length_cons]
  omega
end
theorem rgR:∀ (l:List Zt) (n:Int),-9223372036854775808≤n→n≤9223372036854775807→-9223372036854775808≤XN l n∧XN l n≤9223372036854775807
 | [],n,h1,h2=>by rw [XN]; exact ⟨h1,h2⟩
 | x :: r,n,_,_=>by
  have h:=wrR (IntKind.i64.wrap (IntKind.i64.wrap (n + 1) + XN x.Body 0) + XN x.Else 0)
  rw [← Zem] at h
  rw [XN]
  exact rgR r _ h.1 h.2
theorem rgP:∀ (l:List Zt) (n:Int),-9223372036854775808≤n→n≤9223372036854775807→-9223372036854775808≤Gi l n∧Gi l n≤9223372036854775807
 | [],n,h1,h2=>by rw [Gi]; exact ⟨h1,h2⟩
 | x :: r,n,_,_=>by
  have h:=wrR (n + Zkp x)
  rw [Gi]
  exact rgP r _ h.1 h.2
theorem ZkA (l:List Zt)(hl:l.length≤4611686018427387):XN l 0=Gi l (l.length:Int):=by
 obtain ⟨k1,h1⟩:=Zml l 0
 obtain ⟨k2,h2⟩:=Zmk l l.length
 have r1:=rgR l 0 (by omega) (by omega)
 have r2:=rgP l l.length (by omega) (by omega)
 omega
theorem Zdf (l:List Zt)(hl:l.length≤4611686018427387):Zax l=Aw l:=by
 unfold Zax Aw
 rw [ZkA l hl]
def QI (a b:Int):Int:=if decide (a≠0)=true then a else b
def YA (b:Bool)(e:Int):Int:=if b=true then 0 else e
def fitsT (t n:Int):Bool:=if decide (t=1)=true then inB n else if decide (t=2)=true then (decide (n=0) || decide (n=1)) else if decide (t=3)=true then btw n 0 1000000000 else false
def CE (t:Int):Bool:=decide (t=1) || decide (t=2) || decide (t=3)
theorem ZcM (t:Int):CE t=btw t 1 3:=by
 simp only [CE,btw]
 by_cases h1:t=1
 ·simp [h1]
 by_cases h2:t=2
 ·simp [h2]
 by_cases h3:t=3
 ·simp [h3]
 simp only [h1,h2,h3,decide_false,Bool.or_false]
 by_cases h4:1≤t <;> by_cases h5:t≤3 <;> simp [h4,h5]
 omega
def Zkw (cyc:Int):Option Int→List Xw→Int
 | _,[]=>0
 | p,c :: r=>if (!(btw c.At_ 0 (cyc - 1)) || !(btw c.Units 0 1000))=true then 2 else if (p.isSome && decide (c.At_≤p.getD 0))=true then 12 else Zkw cyc (some c.At_) r
def Zka (d:Zp):Int :=
 if decide ((d.Shift.length:Int)=0)=true then (if decide (d.Cycle≠0)=true then 1 else 0)
 else if decide (20 < (d.Shift.length:Int))=true then 6 else if (!(btw d.Cycle 1 1000000000))=true then 2 else Zkw d.Cycle none d.Shift
theorem Wq.s {d:Zp}(h:Wq d):d.Shift.length≤4611686018427387:=by have:=h.Shift.1; omega
theorem Ws.st {d:Zj}(h:Ws d):d.Streams.length≤4611686018427387∧d.Counts.length≤4611686018427387∧d.Stores.length≤4611686018427387∧d.Routines.length≤4611686018427387:=by
 have:=h.Streams.1; have:=h.Counts.1; have:=h.Stores.1; have:=h.Routines.1; omega
def ZhK (d:Zj)(f:I8):Int :=
 if (decide (f.Stream=[]) && (!(He f.Up) || !(He f.Down)))=true then 1 else if decide (f.Stream=[])=true then 0 else if (!(d.Streams.contains f.Stream))=true then 5 else if decide (VY f.Up≠0)=true then VY f.Up else VY f.Down
def Znc (s:Zj)(d:Zp):Int :=
 if decide (QI (YA (btw d.Units 0 1000) 2) (Zka d)≠0)=true then QI (YA (btw d.Units 0 1000) 2) (Zka d)
 else if decide (d.Fault.Stream=[])=true then YA (He d.Fault.Up && He d.Fault.Down) 1
 else if (!(s.Streams.contains d.Fault.Stream))=true then 5 else QI (VY d.Fault.Up) (VY d.Fault.Down)
def ZlA (s:Zj)(d:Zp):Int:=if (!(btw d.Units 0 1000))=true then 2 else if decide (Zka d≠0)=true then Zka d else ZhK s d.Fault
theorem ZjX (s:Zj)(d:Zp):Znc s d=ZlA s d:=by
 unfold Znc ZlA ZhK QI YA
 cases btw d.Units 0 1000 <;> by_cases h1:Zka d=0 <;> by_cases h2:d.Fault.Stream=[] <;> cases He d.Fault.Up <;> cases He d.Fault.Down <;> cases s.Streams.contains d.Fault.Stream <;> simp [h1,h2]
def Nh (tl:Int):List Xh→List Int→Int
 | p :: ps,a :: ys=>if (!(fitsT p.Ty a))=true then 2 else Nh tl ps ys
 | _,_=>tl
theorem Zac.a {s:KI}(h:Zac s):s.Args.length≤4611686018427387:=by have:=h.Args.1; omega
theorem KG.p {r:YL}(h:KG r):r.Params.length≤4611686018427387∧r.Locals.length≤4611686018427387∧ZdW r.Body:=by
 have:=h.Params.1; have:=h.Locals.1; have:=h.Body
 exact ⟨by omega,by omega,by omega,this.2⟩
abbrev Seen:=List (List UInt8)
def U1 (s:List UInt8)(seen:Seen):Int×Seen:=if decide (Ve s≠0)=true then (Ve s,seen) else if seen.contains s=true then (4,seen) else (0,seen ++ [s])
def Jj (s:List UInt8)(rest:Int)(seen:Seen):Int×Seen:=if decide ((U1 s seen).1≠0)=true then U1 s seen else (rest,(U1 s seen).2)
def ZcP (v:Jt):Int:=if (!(btw v.Ty 1 3))=true then 1 else if (!(fitsT v.Ty v.N))=true then 2 else 0
def ZcI (x:YN):Int:=if (!(btw x.Room 1 1000))=true then 2 else if (decide (x.Policy < 1) || decide (3 < x.Policy))=true then 1 else 0
def Zgc (x:WC):Int:=if (!(btw x.Length 1 1000) || !(btw x.Step 1 1000))=true then 2 else 0
def ZiL {α σ:Type}(most:Int)(step:α→σ→Int×σ)(l:List α)(s:σ):Int×σ:=if decide (most < (l.length:Int))=true then (6,s) else VO step l s
def AL (f:Xh):Int:=if (!(btw f.Ty 1 3))=true then 1 else 0
def Zeu (l:List Xh)(s:Seen):Int×Seen:=VO (fun f:Xh=>Jj f.Name (AL f)) l s
def G6 (r:YL):Int :=
 if (decide (6 < (r.Params.length:Int)) || decide (16 < (r.Params.length:Int) + (r.Locals.length:Int)))=true then 6
 else if decide ((Zeu (r.Params ++ r.Locals) []).1≠0)=true then (Zeu (r.Params ++ r.Locals) []).1 else Aw r.Body
theorem Zir.t {l:ZfU}(h:Zir l):l.Terms.length≤4611686018427387:=by have:=h.Terms.1; omega
abbrev Step:=Seen→Int×Seen
theorem ZdV.l {m:Tj}(h:ZdV m):m.Params.length≤4611686018427387∧m.Sites.length≤4611686018427387∧m.Links.length≤4611686018427387:=by
 have:=h.Params.1; have:=h.Sites.1; have:=h.Links.1; omega
def IY (s:List UInt8)(seen:Seen):Int:=QI (Ve s) (YA (!(seen.contains s)) 4)
theorem ZbF (s:List UInt8)(rest:Int)(seen:Seen):(Jj s rest seen).1=QI (IY s seen) rest:=by
 by_cases h1:Ve s=0 <;> rcases Bool.eq_false_or_eq_true (seen.contains s) with h2 | h2 <;> simp only [Jj,U1,IY,QI,YA,h1,h2] <;> simp [h1]
theorem Zki {s:List UInt8}{rest:Int}{seen:Seen}(h:QI (IY s seen) rest=0):(Jj s rest seen)=(0,seen ++ [s]):=by
 by_cases h1:Ve s=0 <;> rcases Bool.eq_false_or_eq_true (seen.contains s) with h2 | h2 <;> simp only [IY,QI,YA,h1,h2] at h <;> simp [h1] at h
 simp only [Jj,U1,h1,h2]
 simp [h]
theorem ZkE (f:Xh):YA (CE f.Ty) 1=AL f:=by
 rw [ZcM]; unfold YA AL; cases btw f.Ty 1 3 <;> rfl
def Xy (d:Zj):List (Int×List (List UInt8×Int)):=[(32,d.Vars.map fun v=>(v.Name,ZcP v)),(32,d.Resources.map fun v=>(v.Name,ZlA d v)),(32,d.Stores.map fun v=>(v.Name,ZcI v)),(32,d.Belts.map fun v=>(v.Name,Zgc v)),(32,d.Queues.map fun v=>(v,0)),(32,d.Streams.map fun v=>(v,0)),(32,d.Tallies.map fun v=>(v,0)),(32,d.Levels.map fun v=>(v,0)),(32,d.Counts.map fun v=>(v,0)),(16,d.Routines.map fun v=>(v.Name,G6 v))]
theorem ZlK (x:YN):QI (YA (btw x.Room 1 1000) 2) (YA (decide (1≤x.Policy) && decide (x.Policy≤3)) 1)=ZcI x:=by
 unfold QI YA ZcI
 have e:(decide (x.Policy < 1) || decide (3 < x.Policy))=!(decide (1≤x.Policy) && decide (x.Policy≤3)):=by
  have a1:decide (x.Policy < 1)=!decide (1≤x.Policy):=by rw [← decide_not]; congr 1; apply propext; omega
  have a2:decide (3 < x.Policy)=!decide (x.Policy≤3):=by rw [← decide_not]; congr 1; apply propext; omega
  rw [Bool.not_and,a1,a2]
 rw [e]
 cases btw x.Room 1 1000 <;> cases (decide (1≤x.Policy) && decide (x.Policy≤3)) <;> simp
theorem Zms (x:WC):YA (btw x.Length 1 1000 && btw x.Step 1 1000) 2=Zgc x:=by
 unfold YA Zgc; cases btw x.Length 1 1000 <;> cases btw x.Step 1 1000 <;> rfl
theorem valueR (v:Jt):QI (YA (CE v.Ty) 1) (YA (fitsT v.Ty v.N) 2)=ZcP v:=by
 rw [ZcM]; unfold QI YA ZcP; cases btw v.Ty 1 3 <;> cases fitsT v.Ty v.N <;> rfl
theorem V5 {α β:Type}{f:α→β}{l:List α}{i:Nat}{y:β}(h:(l.map f)[i]? = some y):∃ x,l[i]? = some x∧f x=y:=by
 rw [List.getElem?_map] at h
 exact Option.map_eq_some_iff.1 h
theorem kd (k:Nat):(∀ j:Nat,k=j→decide (((k:Nat):Int)=(j:Int))=true)∧(∀ j:Nat,k≠j→decide (((k:Nat):Int)=(j:Int))=false):=⟨fun j h=>by simp [h],fun j h=>by simp only [decide_eq_false_iff_not]; omega⟩
def Iy (q:List UInt8×Int):Seen→Int×Seen:=Jj q.1 q.2
def stepD (p:Int×List (List UInt8×Int)):Seen→Int×Seen:=ZiL p.1 Iy p.2
theorem Zdj (d:Zj):∀ (k:Nat) (p:Int×List (List UInt8×Int)),(Xy d)[k]? = some p→p.1=if k=9 then 16 else 32
 | 0,p,h=>by cases h; rfl
 | 1,p,h=>by cases h; rfl
 | 2,p,h=>by cases h; rfl
 | 3,p,h=>by cases h; rfl
 | 4,p,h=>by cases h; rfl
 | 5,p,h=>by cases h; rfl
 | 6,p,h=>by cases h; rfl
 | 7,p,h=>by cases h; rfl
 | 8,p,h=>by cases h; rfl
 | 9,p,h=>by cases h; rfl
 | k + 10,p,h=>by simp [Xy] at h
theorem ZcE:∀ (l:List (List UInt8×Int)) (s:Seen),(VO Iy l s).2.length≤s.length + l.length
 | [],s=>by simp [VO]
 | x :: r,s=>by
  have ih:=ZcE r (Iy x s).2
  have h1:(Iy x s).2.length≤s.length + 1:=by
   unfold Iy Jj
   split
   ·unfold U1; split <;> (try split) <;> simp
   ·show (U1 x.1 s).2.length≤_
    unfold U1; split <;> (try split) <;> simp
  rw [VO]
  split
  ·simp; omega
  ·simp; omega
theorem Zkj {s:List UInt8}{rest:Int}{seen:Seen}(h:(Jj s rest seen).1=0):(Jj s rest seen).2=seen ++ [s]∧s ∉ seen∧rest=0:=by
 rw [ZbF] at h
 have w:=Zki h
 refine ⟨by rw [w],?_,?_⟩
 ·intro hm
  have:seen.contains s=true:=by simpa using hm
  simp only [IY,this,QI,YA] at h
  by_cases h1:Ve s=0 <;> simp [h1] at h
 ·by_cases h1:IY s seen=0
  ·simpa [QI,h1] using h
  ·simp [QI,h1] at h
def Fq (p:Int×List (List UInt8×Int)):List (List UInt8):=p.2.map (·.1)
end Go.Proofs.YtleomfgijkapfaaGreatDoor
end
