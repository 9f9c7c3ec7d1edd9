import Derived.Test.YthkdlifcknpadaaGreatHSh7
set_option linter.all false
section
namespace Go.Proofs.YthkdlifcknpadaaGreat
open Go Go.Proofs.YthkdlifcknpadaaGreat.Abs
set_option maxRecDepth 100000
def ZnW (n:Int):Bool:=decide (97≤n) && decide (n≤122)
def Zb9 (n:Int):Bool:=ZnW n || decide (n=95) || (decide (48≤n) && decide (n≤57))
def kws:List (List UInt8):=[[97,100,100],[97,102,116,101,114],[97,110,100],[97,116],[98,101,108,116],[98,111,111,108],[99,111,110,115,101,114,118,101],[99,111,110,115,116],[99,111,117,110,116],[99,121,99,108,101],[100,111,119,110],[100,114,97,119],[100,117,114],[101,108,115,101],[101,110,100],[101,118,101,114,121],[102,97,108,115,101],[102,97,117,108,116],[102,105,102,111],[102,114,101,101],[102,114,111,109],[103,101,111,109],[103,101,116],[104,111,108,100],[105,102],[105,110,116],[105,110,116,111],[108,101,97,115,116],[108,101,118,101,108],[108,105,102,111],[108,105,110,107],[108,111,99,97,108],[109,97,120],[109,105,110],[109,111,100,101,108],[110,111,116],[110,111,119],[111,98,115,101,114,118,101],[111,114],[112,97,114,97,109],[112,114,101,101,109,112,116],[112,114,105,111],[112,117,116],[113,117,101,117,101],[114,101,108,101,97,115,101],[114,101,115,111,117,114,99,101],[114,105,100,101],[114,111,117,116,105,110,101],[115,101,105,122,101],[115,101,110,100],[115,101,116],[115,104,105,102,116],[115,105,103,110,97,108],[115,105,116,101],[115,105,122,101],[115,112,97,119,110],[115,116,97,114,116],[115,116,111,112],[115,116,111,114,101],[115,116,114,101,97,109],[115,117,109],[116,97,98,108,101],[116,97,108,108,121],[116,105,99,107,115],[116,105,109,101],[116,114,117,101],[117,110,105,102,111,114,109],[117,110,116,105,108],[117,112],[118,97,114],[119,97,105,116],[119,97,105,116,105,110,103],[119,104,105,108,101]]
def kwB (s:List UInt8):Bool:=kws.any fun k=>decide (s=k)
def Vj (s:List UInt8):Int :=
 match s with
 | []=>3
 | c :: r=>if 24 < (c :: r).length∨ZnW c.toNat=false∨kwB (c :: r)=true then 3 else if (c :: r).all (fun x=>Zb9 x.toNat) then 0 else 3
def inB (n:Int):Bool:=decide (-1000000000000≤n) && decide (n≤1000000000000)
theorem ZdL (s:List UInt8):Vj s=0∨Vj s=3:=by
 unfold Vj
 split
 ·exact .inr rfl
 ·split
  ·exact .inr rfl
  ·split
   ·exact .inl rfl
   ·exact .inr rfl
def Yy {α σ:Type}(step:α→σ→Int×σ):List α→σ→Int×σ
 | [],s=>(0,s)
 | x :: r,s=>if decide ((step x s).1≠0)=true then step x s else Yy step r (step x s).2
def Zbr {σ:Type}:List (σ→Int×σ)→σ→Int×σ
 | [],s=>(0,s)
 | f :: r,s=>if decide ((f s).1≠0)=true then f s else Zbr r (f s).2
theorem Zuy {n:Int}(h1:-9223372036854775808≤n)(h2:n≤9223372036854775807):IntKind.i64.wrap n=n:=i64_in h1 h2
def Zj5 (a b:YV):Bool:=decide (a.Op=b.Op) && decide (a.A=b.A) && decide (a.B=b.B) && decide (a.N=b.N) && decide (a.Values=b.Values) && decide (a.Weights=b.Weights)
def btw (x lo hi:Int):Bool:=decide (lo≤x) && decide (x≤hi)
def Ry (d:YV):Bool :=
 if decide (d.Op=1)=true then decide ((d.Values.length:Int) + d.Weights.length=0) && decide (d.B=0) && decide (d.N=0)
 else if decide (d.Op=2)=true then decide ((d.Values.length:Int) + d.Weights.length=0) && decide (d.N=0)
 else if decide (d.Op=5)=true then decide ((d.Values.length:Int) + d.Weights.length=0) && decide (d.N=0)
 else if decide (d.Op=4)=true then decide ((d.Values.length:Int) + d.Weights.length=0)
 else if decide (d.Op=3)=true then decide (d.A=0) && decide (d.B=0) && decide (d.N=0)
 else false
theorem Jz.v {d:YV}(h:Jz d):d.Values.length≤4611686018427387:=by have:=h.Values.1; omega
theorem Jz.w {d:YV}(h:Jz d):d.Weights.length≤4611686018427387:=by have:=h.Weights.1; omega
theorem Jz.wr {d:YV}(h:Jz d):IntKind.i64.wrap ((d.Values.length:Int) + (d.Weights.length:Int))=(d.Values.length:Int) + (d.Weights.length:Int):=by
 have:=h.v; have:=h.w; exact Zuy (by omega) (by omega)
def Zaa (d:YV):Bool :=
 if decide (d.Op=1)=true then decide (d.B=0) && decide (d.N=0) && (decide ((d.Values.length:Int)=0) && decide ((d.Weights.length:Int)=0))
 else if decide (d.Op=2)=true then decide (d.N=0) && (decide ((d.Values.length:Int)=0) && decide ((d.Weights.length:Int)=0))
 else if decide (d.Op=5)=true then decide (d.N=0) && (decide ((d.Values.length:Int)=0) && decide ((d.Weights.length:Int)=0))
 else if decide (d.Op=3)=true then decide (d.A=0) && decide (d.B=0) && decide (d.N=0)
 else if decide (d.Op=4)=true then (decide ((d.Values.length:Int)=0) && decide ((d.Weights.length:Int)=0))
 else false
def Zof (lo hi:Int)(x:Int):Bool:=decide (x < lo) || decide (hi < x)
def GV {α:Type}(f:α→Bool):List α→Int→Int
 | [],_=>-1
 | x :: r,i=>if f x=true then i else GV f r (i + 1)
theorem A8 {α:Type}(f:α→Bool):∀ (l:List α) (i:Int),0≤i→decide (0≤GV f l i)=l.any f
 | [],i,h=>by simp [GV]
 | x :: r,i,h=>by
  have ih:=A8 f r (i + 1) (by omega)
  cases hx:f x <;> simp [GV,hx,h]
  simpa using ih
def WZ (lo hi:Int)(l:List Int):Bool:=!(l.any (Zof lo hi))
def Pi (d:YV):Int :=
 if (!(Ry d))=true then 1
 else if decide (d.Op=1)=true then (if (!(WZ 0 1000000000 [d.A]))=true then 2 else 0)
 else if decide (d.Op=2)=true then (if (!(WZ 0 1000000000 [d.A,d.B] && decide (d.A≤d.B)))=true then 2 else 0)
 else if decide (d.Op=4)=true then (if (!(WZ 1 20 [d.N] && WZ 0 1000000 [d.A,d.B] && decide (d.A≤d.B)))=true then 2 else 0)
 else if decide (d.Op=5)=true then (if (!(WZ 1 1000 [d.A,d.B]))=true then 2 else 0)
 else if decide (d.Op=3)=true then
  (if decide ((d.Values.length:Int)≠(d.Weights.length:Int))=true then 8 else if decide ((d.Values.length:Int)=0)=true then 7 else if decide (20 < (d.Values.length:Int))=true then 6
   else if (!(WZ 0 1000000000 d.Values && WZ 1 1000 d.Weights))=true then 2 else 0)
 else 2
def Zoq:List Int→List Int→Int
 | x :: r,y :: s=>if (!(btw x 0 1000000000) || !(btw y 1 1000))=true then 2 else Zoq r s
 | _,_=>0
def ZhC (d:YV):Int :=
 if decide ((d.Values.length:Int)≠(d.Weights.length:Int))=true then 8 else if decide ((d.Values.length:Int)=0)=true then 7 else if decide (20 < (d.Values.length:Int))=true then 6 else Zoq d.Values d.Weights
def ZlY (d:YV):Int :=
 if (!(Zaa d))=true then 1
 else if decide (d.Op=1)=true then (if (!(btw d.A 0 1000000000))=true then 2 else 0)
 else if decide (d.Op=2)=true then (if (!(btw d.A 0 d.B && decide (d.B≤1000000000)))=true then 2 else 0)
 else if decide (d.Op=3)=true then ZhC d
 else if decide (d.Op=4)=true then (if (!(btw d.N 1 20 && btw d.A 0 d.B && decide (d.B≤1000000)))=true then 2 else 0)
 else if decide (d.Op=5)=true then (if (!(btw d.A 1 1000 && btw d.B 1 1000))=true then 2 else 0)
 else 0
def Zl5 (op:Int):Bool:=decide (22≤op) && decide (op≤24)
def Zfs (op:Int):Int :=
 if (decide (op=1) || decide (op=2) || decide (op=3) || decide (op=4))=true then 0
 else if (decide (5≤op) && decide (op≤8))=true then 1
 else if (decide (9≤op) && decide (op≤21))=true then 2
 else if (decide (22≤op) && decide (op≤26))=true then 0 else -1
def ZaV (code:Bool)(op:Int):Bool :=
 if decide (op=3)=true then !code else if decide (op=25)=true then code else if decide (op=26)=true then code else decide (0≤Zfs op)
def ZdM (code:Bool)(op:Int):Bool:=decide (op=3) || (Zl5 op && !code)
def ZmE (code:Bool)(op:Int):Int×Int×Bool :=
 if decide (op=2)=true then (0,1,true) else if decide (op=25)=true then (0,15,true) else if decide (op=26)=true then (0,31,true) else if (Zl5 op && code)=true then (0,63,true) else (0,0,false)
def Zce (code:Bool)(e:ZC):Int :=
 if (!(ZaV code e.Op) || decide ((e.Kids.length:Int)≠Zfs e.Op) || (decide (e.Name≠[]) && !(ZdM code e.Op)))=true then 1
 else if decide (e.Op=1)=true then (if (!(inB e.N))=true then 2 else 0)
 else if (!(ZmE code e.Op).2.2 && decide (e.N≠0))=true then 1
 else if ((ZmE code e.Op).2.2 && (decide (e.N < (ZmE code e.Op).1) || decide ((ZmE code e.Op).2.1 < e.N)))=true then 2
 else if ZdM code e.Op=true then Vj e.Name else 0
theorem AY {x e:ZC}(h:x ∈ e.Kids):SizeOf.sizeOf x < SizeOf.sizeOf e:=by
 cases e
 have:=List.sizeOf_lt_of_mem h
 simp at *
 omega
theorem CG (e:ZC):0 < SizeOf.sizeOf e:=by cases e; simp; omega
theorem YE.k {e:ZC}(h:YE e):e.Kids.length≤4611686018427387:=by have:=h.Kids.1; omega
theorem YE.n {e:ZC}(h:YE e):e.Name.length≤140737488351232:=h.Name
mutual
def UE (code:Bool):ZC→Int
 | ⟨o,a,n,ks⟩=>if decide (Zce code ⟨o,a,n,ks⟩≠0)=true then Zce code ⟨o,a,n,ks⟩ else Fh code ks
def Fh (code:Bool):List ZC→Int
 | []=>0
 | x :: r=>if decide (UE code x≠0)=true then UE code x else Fh code r
end
theorem ZaX (code:Bool):∀ l:List ZC,Fh code l=J7 (UE code) l
 | []=>by rw [Fh]; rfl
 | x :: r=>by rw [Fh,ZaX code r]; rfl
theorem ZdO (code:Bool)(e:ZC):UE code e=if decide (Zce code e≠0)=true then Zce code e else J7 (UE code) e.Kids:=by
 cases e; rw [UE,ZaX]
mutual
def Zl3:ZC→Int
 | ⟨_,_,_,ks⟩=>Zjt ks 1
def Zjt:List ZC→Int→Int
 | [],n=>n
 | x :: r,n=>Zjt r (IntKind.i64.wrap (n + Zl3 x))
end
theorem ZgI:∀ (l:List ZC) (n:Int),Zjt l n=sumW Zl3 l n
 | [],n=>by rw [Zjt]; rfl
 | x :: r,n=>by rw [Zjt,ZgI r]; rfl
theorem Zjs (e:ZC):Zl3 e=sumW Zl3 e.Kids 1:=by cases e; rw [Zl3,ZgI]
mutual
def Zj2:ZC→Int
 | ⟨_,_,_,ks⟩=>IntKind.i64.wrap (Zj4 ks 0 + 1)
def Zj4:List ZC→Int→Int
 | [],n=>n
 | x :: r,n=>Zj4 r (if Zj2 x > n then Zj2 x else n)
end
theorem ZgL:∀ (l:List ZC) (n:Int),Zj4 l n=Zm8 Zj2 l n
 | [],n=>by rw [Zj4]; rfl
 | x :: r,n=>by rw [Zj4,ZgL r]; rfl
theorem Zj3 (e:ZC):Zj2 e=IntKind.i64.wrap (Zm8 Zj2 e.Kids 0 + 1):=by cases e; rw [Zj2,ZgL]
def ZhX (a b:ZC):Bool:=decide (a.Op≠b.Op) || decide (a.Name≠b.Name) || decide (a.N≠b.N)
mutual
def Zaz:ZC→ZC→Bool
 | ⟨o,a,n,ks⟩,e=>if (ZhX ⟨o,a,n,ks⟩ e || decide ((ks.length:Int)≠(e.Kids.length:Int)))=true then false else Cf ks e.Kids
def Cf:List ZC→List ZC→Bool
 | x :: r,y :: s=>if (!(Zaz x y))=true then false else Cf r s
 | _,_=>true
end
theorem ZeB:∀ l m:List ZC,Cf l m=all2 Zaz l m
 | [],[]=>by rw [Cf] <;> simp [all2]
 | [],y :: s=>by rw [Cf] <;> simp [all2]
 | x :: r,[]=>by rw [Cf] <;> simp [all2]
 | x :: r,y :: s=>by rw [Cf,ZeB r s]; rfl
theorem ZcL (a b:ZC):Zaz a b=if (ZhX a b || decide ((a.Kids.length:Int)≠(b.Kids.length:Int)))=true then false else all2 Zaz a.Kids b.Kids:=by
 cases a; rw [Zaz,ZeB]
def EP (op:Int):Int :=
 if (decide (op < 1) || decide (26 < op))=true then -1 else if (decide (5≤op) && decide (op≤8))=true then 1 else if (decide (9≤op) && decide (op≤21))=true then 2 else 0
def ZmB (op:Int):Int:=if decide (op=25)=true then 15 else if decide (op=26)=true then 31 else 63
def ZhW (code:Bool)(e:ZC):Int :=
 if (!(decide (0≤EP e.Op) && ((code && decide (e.Op≠3)) || (!code && decide (e.Op≤24)))) || (!(!code && (decide (e.Op=3) || Zl5 e.Op)) && decide (e.Name≠[])) || (!(decide (e.Op=1) || decide (e.Op=2) || (code && (Zl5 e.Op || decide (e.Op=25) || decide (e.Op=26)))) && decide (e.N≠0)) || decide ((e.Kids.length:Int)≠EP e.Op))=true then 1
 else if ((decide (e.Op=1) && !(inB e.N)) || ((decide (e.Op=2) && decide (e.N≠0)) && decide (e.N≠1)) || ((code && (Zl5 e.Op || decide (e.Op=25) || decide (e.Op=26))) && (decide (e.N < 0) || decide (ZmB e.Op < e.N))))=true then 2
 else if ((!code && (decide (e.Op=3) || Zl5 e.Op)) && decide (Vj e.Name≠0))=true then Vj e.Name else 0
theorem ZuO (op:Int):1≤op∧op≤26→op=1∨op=2∨op=3∨op=4∨op=5∨op=6∨op=7∨op=8∨op=9∨op=10∨op=11∨op=12∨op=13∨op=14∨op=15∨op=16∨op=17∨op=18∨op=19∨op=20∨op=21∨op=22∨op=23∨op=24∨op=25∨op=26:=by omega
theorem Zmo (code:Bool)(e:ZC):ZhW code e=Zce code e:=by
 obtain ⟨op,nm,n,ks⟩:=e
 by_cases h:1≤op∧op≤26
 ·rcases ZuO op h with rfl | rfl | rfl | rfl | rfl | rfl | rfl | rfl | rfl | rfl | rfl | rfl | rfl | rfl | rfl | rfl | rfl | rfl | rfl | rfl | rfl | rfl | rfl | rfl | rfl | rfl <;> cases code <;> simp [ZhW,Zce,EP,ZmB,Zl5,Zfs,ZaV,ZdM,ZmE] <;> grind
 ·have h1:EP op=-1:=by simp only [EP]; rw [if_pos]; simp; omega
  have h2:Zfs op=-1:=by
   simp only [Zfs]
   rw [if_neg (by simp; omega),if_neg (by simp; omega),if_neg (by simp; omega),if_neg (by simp; omega)]
  have h3:ZaV code op=false:=by
   simp only [ZaV,h2]
   rw [if_neg (by simp; omega),if_neg (by simp; omega),if_neg (by simp; omega)]; rfl
  simp [ZhW,Zce,h1,h2,h3]
theorem Zkv (code:Bool)(e:ZC):(if decide (ZhW code e≠0)=true then ZhW code e else J7 (UE code) e.Kids)=UE code e:=by rw [Zmo,← ZdO]
def XI (code:Bool)(e:ZC):Int:=if decide (60 < Zl3 e)=true then 6 else if decide (12 < Zj2 e)=true then 11 else UE code e
def IB (op:Int):U5×Bool:=if decide (op=1)=true then (⟨true,false,true,false,false,false,false,false,false⟩,true) else if decide (op=7)=true then (⟨true,false,true,false,false,false,false,false,false⟩,true) else if decide (op=8)=true then (⟨true,false,true,false,false,false,false,false,false⟩,true) else if decide (op=12)=true then (⟨true,false,true,false,false,false,false,false,false⟩,true) else if decide (op=15)=true then (⟨true,false,true,false,false,false,false,false,false⟩,true) else if decide (op=16)=true then (⟨true,false,true,false,false,false,false,false,false⟩,true) else if decide (op=17)=true then (⟨true,false,true,false,false,false,false,false,false⟩,true) else if decide (op=2)=true then (⟨true,true,false,false,false,true,false,false,false⟩,true) else if decide (op=3)=true then (⟨false,false,true,false,false,false,false,true,true⟩,true) else if decide (op=4)=true then (⟨false,false,true,false,false,false,false,true,false⟩,true) else if decide (op=5)=true then (⟨false,false,true,false,false,false,false,false,false⟩,true) else if decide (op=6)=true then (⟨true,false,true,true,false,false,true,false,false⟩,true) else if decide (op=9)=true then (⟨true,true,false,false,false,false,false,false,false⟩,true) else if decide (op=10)=true then (⟨true,false,false,false,false,false,false,false,false⟩,true) else if decide (op=11)=true then (⟨true,false,false,false,false,false,false,false,false⟩,true) else if decide (op=13)=true then (⟨true,true,true,false,true,false,false,false,false⟩,true) else if decide (op=14)=true then (⟨true,false,true,false,true,false,false,false,false⟩,true) else if decide (op=18)=true then (⟨false,false,false,false,false,false,false,false,false⟩,true) else (⟨false,false,false,false,false,false,false,false,false⟩,false)
def Za4 (e:ZC):Bool:=decide (e.Op=0) && decide (e.Name=[]) && decide (e.N=0) && decide ((e.Kids.length:Int)=0)
def DT (d:YV):Bool:=decide (d.Op=0) && decide (d.A=0) && decide (d.B=0) && decide (d.N=0) && decide (d.Values=[]) && decide (d.Weights=[])
def Zfj (s:Z5)(u:U5):Bool :=
 (u.name || decide (s.Name=[])) && (u.of || decide (s.Of=[])) && (u.e || Za4 s.E) && (u.f || Za4 s.F) && (u.args || decide ((s.Args.length:Int)=0)) && (u.dist || DT s.Dist) && (u.flag || !s.Flag) && (u.body || decide ((s.Body.length:Int)=0)) && (u.other || decide ((s.Else.length:Int)=0))
def ZjB (s:Z5):Bool :=
 (IB s.Op).2 && ((((IB s.Op).1.name || decide (s.Name=[])) && ((IB s.Op).1.of || decide (s.Of=[])))) && (((IB s.Op).1.e || Za4 s.E) && ((IB s.Op).1.f || Za4 s.F) && ((IB s.Op).1.args || decide ((s.Args.length:Int)=0))) && (((IB s.Op).1.body || decide ((s.Body.length:Int)=0)) && ((IB s.Op).1.other || decide ((s.Else.length:Int)=0))) && ((IB s.Op).1.dist || DT s.Dist) && ((IB s.Op).1.flag || !s.Flag)
theorem Zmf (s:Z5):ZjB s=((IB s.Op).2 && Zfj s (IB s.Op).1):=by
 simp only [ZjB,Zfj]
 generalize (IB s.Op).1=u
 generalize (IB s.Op).2=b
 ac_rfl
def Zaj (s:Z5)(u:U5):List ZC→Int
 | []=>if u.dist=true then Pi s.Dist else 0
 | x :: r=>if decide (XI false x≠0)=true then XI false x else Zaj s u r
def Zhs (s:Z5)(u:U5):Int:=if decide (6 < (s.Args.length:Int))=true then 6 else Zaj s u s.Args
def Zhu (s:Z5)(u:U5):Int:=if (!u.f)=true then Zhs s u else if decide (XI false s.F≠0)=true then XI false s.F else Zhs s u
def Zht (s:Z5)(u:U5):Int:=if (!u.e)=true then Zhu s u else if decide (XI false s.E≠0)=true then XI false s.E else Zhu s u
def ZdX (s:Z5)(u:U5):Int :=
 if (u.name && decide (Vj s.Name≠0))=true then Vj s.Name else if (u.of && decide (Vj s.Of≠0))=true then Vj s.Of else Zht s u
theorem Y7.a {s:Z5}(h:Y7 s):s.Args.length≤4611686018427387:=by have:=h.Args.1; omega
theorem w01:IntKind.i64.wrap (0 + 1)=1∧IntKind.i64.wrap (1 + 1)=2∧decide ((0:Int) < 2)=true∧decide ((1:Int) < 2)=true∧decide ((2:Int) < 2)=false∧(∀ (α:Type) (a b:α),(([a,b].length:Nat):Int)=2):=⟨by decide,by decide,by decide,by decide,by decide,fun _ _ _=>rfl⟩
theorem Zol (s:Z5):SizeOf.sizeOf s.E < SizeOf.sizeOf s∧SizeOf.sizeOf s.F < SizeOf.sizeOf s∧SizeOf.sizeOf s.Args < SizeOf.sizeOf s∧SizeOf.sizeOf s.Body < SizeOf.sizeOf s∧SizeOf.sizeOf s.Else < SizeOf.sizeOf s:=by
 cases s; simp; omega
theorem Zu9 {s:Z5}{x:ZC}(h:x ∈ s.Args):SizeOf.sizeOf x < SizeOf.sizeOf s:=by
 have:=List.sizeOf_lt_of_mem h
 have:=(Zol s).2.2.1
 omega
def Pe (s:Z5):List ZC→Int→Int
 | [],e=>e
 | x :: r,e=>if decide (e=0)=true then Pe s r (XI false x) else e
def Ak (s:Z5)(u:U5):Int :=
 Pe s s.Args (if (decide ((if (decide ((if u.e=true then XI false s.E else 0)=0) && u.f)=true then XI false s.F else (if u.e=true then XI false s.E else 0))=0) && decide (6 < (s.Args.length:Int)))=true then 6
  else (if (decide ((if u.e=true then XI false s.E else 0)=0) && u.f)=true then XI false s.F else (if u.e=true then XI false s.E else 0)))
def Zue (s:Z5):Int :=
 if (!(ZjB s))=true then 1
 else if (((IB s.Op).1.name && decide (Vj s.Name≠0)) || ((IB s.Op).1.of && decide (Vj s.Of≠0)))=true then 3
 else if (decide (Ak s (IB s.Op).1=0) && (IB s.Op).1.dist)=true then ZlY s.Dist else Ak s (IB s.Op).1
theorem Zb0 (s:Z5)(l:List ZC)(e:Int)(h:e≠0):Pe s l e=e:=by
 cases l <;> simp [Pe,h]
theorem ZaG (s:Z5)(u:U5):∀ l:List ZC,(if (decide (Pe s l 0=0) && u.dist)=true then Pi s.Dist else Pe s l 0)=Zaj s u l
 | []=>by simp [Pe,Zaj]
 | x :: r=>by
  by_cases h:XI false x=0
  ·simp only [Pe,Zaj,h,decide_true,if_true,ne_eq,not_true_eq_false,decide_false,Bool.false_eq_true,if_false]
   exact ZaG s u r
  ·simp [Pe,Zaj,h,Zb0]
def Zij (s:Z5):Int:=if (!(IB s.Op).2 || !(Zfj s (IB s.Op).1))=true then 1 else ZdX s (IB s.Op).1
theorem Zq0 (lo hi a:Int):WZ lo hi [a]=btw a lo hi:=by
 simp only [WZ,List.any_cons,List.any_nil,Zof,btw,Bool.or_false,Bool.not_or,← decide_not,Int.not_lt]
theorem Zq1 (lo hi a b:Int):WZ lo hi [a,b]=(btw a lo hi && btw b lo hi):=by
 simp only [WZ,List.any_cons,List.any_nil,Zof,btw,Bool.or_false,Bool.not_or,← decide_not,Int.not_lt]
theorem Zq2 (lo hi a:Int)(l:List Int):WZ lo hi (a :: l)=(btw a lo hi && WZ lo hi l):=by
 simp only [WZ,List.any_cons,Zof,btw,Bool.not_or,← decide_not,Int.not_lt]
theorem Zor:∀ (l m:List Int),l.length=m.length→Zoq l m=if (!(WZ 0 1000000000 l && WZ 1 1000 m))=true then 2 else 0
 | [],[],_=>by simp [Zoq,WZ]
 | [],y :: m,h=>by simp at h
 | x :: l,[],h=>by simp at h
 | x :: l,y :: m,h=>by
  have ih:=Zor l m (by simpa using h)
  simp only [Zoq,Zq2,ih]
  generalize WZ 0 1000000000 l=c1
  generalize WZ 1 1000 m=c2
  cases btw x 0 1000000000 <;> cases btw y 1 1000 <;> cases c1 <;> cases c2 <;> rfl
theorem ZtU (a b:Nat):decide ((a:Int) + (b:Int)=0)=(decide ((a:Int)=0) && decide ((b:Int)=0)):=by
 rw [← Bool.decide_and]; congr 1; apply propext; omega
theorem Zls (d:YV):Zaa d=Ry d:=by
 simp only [Zaa,Ry,ZtU]
 by_cases h1:d.Op=1
 ·simp [h1]; ac_rfl
 by_cases h2:d.Op=2
 ·simp [h2,Bool.and_comm]
 by_cases h5:d.Op=5
 ·simp [h5,Bool.and_comm]
 by_cases h3:d.Op=3
 ·simp [h3]
 by_cases h4:d.Op=4
 ·simp [h4]
 simp [h1,h2,h3,h4,h5]
theorem ZbC (d:YV):ZlY d=Pi d:=by
 simp only [ZlY,Pi,Zls,Zq0,Zq1,ZhC]
 by_cases hu:Ry d=true
 ·simp only [hu]
  by_cases h1:d.Op=1
  ·simp [h1]
  by_cases h2:d.Op=2
  ·simp only [h2,btw]; simp; grind
  by_cases h3:d.Op=3
  ·simp only [h3]
   by_cases hl:d.Values.length=d.Weights.length
   ·rw [Zor _ _ hl]; simp
   ·have:¬ ((d.Values.length:Int)=d.Weights.length):=by omega
    simp [this]
  by_cases h4:d.Op=4
  ·simp only [h4,btw]; simp; grind
  by_cases h5:d.Op=5
  ·simp [h5]
  ·exfalso
   simp [Ry,h1,h2,h3,h4,h5] at hu
 ·simp [hu]
theorem ZpC (s:Z5):Zue s=Zij s:=by
 have n1:=ZdL s.Name
 have n2:=ZdL s.Of
 unfold Zue Zij ZdX
 rw [Zmf,ZbC]
 generalize IB s.Op=w
 obtain ⟨u,b⟩:=w
 simp only
 have key:(if (decide (Ak s u=0) && u.dist)=true then Pi s.Dist else Ak s u)=Zht s u:=by
  have ha:=ZaG s u s.Args
  unfold Ak Zht Zhu Zhs
  rcases Bool.eq_false_or_eq_true u.e with h1 | h1 <;> rcases Bool.eq_false_or_eq_true u.f with h3 | h3 <;> rcases Bool.eq_false_or_eq_true (decide (6 < (s.Args.length:Int))) with h5 | h5 <;> by_cases h2:XI false s.E=0 <;> by_cases h4:XI false s.F=0 <;>
   simp only [h1,h2,h3,h4,h5,ne_eq,not_true_eq_false,not_false_eq_true,decide_true,decide_false,BL,IFJ,Zb0,Bool.false_eq_true,if_true,if_false] <;> first | exact ha | (simp [Zb0,h2,h4]; done) | rfl
 rw [key]
 rcases n1 with h1 | h1 <;> rcases n2 with h2 | h2 <;> cases b <;> cases Zfj s u <;> cases u.name <;> cases u.of <;> simp [h1,h2]
mutual
def ZnI:Z5→Int
 | ⟨_,_,_,_,_,_,_,_,b,e⟩=>IntKind.i64.wrap (Gn b (b.length:Int) + Gn e (e.length:Int))
def Gn:List Z5→Int→Int
 | [],n=>n
 | x :: r,n=>Gn r (IntKind.i64.wrap (n + ZnI x))
end
theorem ZoG (s:Z5):ZnI s=IntKind.i64.wrap (Gn s.Body (s.Body.length:Int) + Gn s.Else (s.Else.length:Int)):=by cases s; rw [ZnI]
mutual
def Zq5:Z5→Int→Int
 | ⟨_,_,_,_,_,_,_,_,b,e⟩,n=>IntKind.i64.wrap (IntKind.i64.wrap (IntKind.i64.wrap (n + 1) + UB b 0) + UB e 0)
def UB:List Z5→Int→Int
 | [],n=>n
 | x :: r,n=>UB r (Zq5 x n)
end
theorem Zjr (s:Z5)(n:Int):Zq5 s n=IntKind.i64.wrap (IntKind.i64.wrap (IntKind.i64.wrap (n + 1) + UB s.Body 0) + UB s.Else 0):=by cases s; rw [Zq5]
def mx3 (a b c:Int):Int:=if c > (if b > a then b else a) then c else (if b > a then b else a)
mutual
def Zt3:Z5→Int→Int
 | ⟨_,_,_,_,_,_,_,_,b,e⟩,n=>mx3 n (IntKind.i64.wrap (1 + L8 b 0)) (IntKind.i64.wrap (1 + L8 e 0))
def L8:List Z5→Int→Int
 | [],n=>n
 | x :: r,n=>L8 r (Zt3 x n)
end
theorem Zj1 (s:Z5)(n:Int):Zt3 s n=mx3 n (IntKind.i64.wrap (1 + L8 s.Body 0)) (IntKind.i64.wrap (1 + L8 s.Else 0)):=by cases s; rw [Zt3]
mutual
def ZsY:Z5→Int
 | ⟨a,b,c,d,e,f,g,h,i,j⟩=>if decide (Zij ⟨a,b,c,d,e,f,g,h,i,j⟩≠0)=true then Zij ⟨a,b,c,d,e,f,g,h,i,j⟩ else if decide (XQ i≠0)=true then XQ i else XQ j
def XQ:List Z5→Int
 | []=>0
 | x :: r=>if decide (ZsY x≠0)=true then ZsY x else XQ r
end
theorem Zjq (s:Z5):ZsY s=if decide (Zij s≠0)=true then Zij s else if decide (XQ s.Body≠0)=true then XQ s.Body else XQ s.Else:=by cases s; rw [ZsY]
theorem ZoD (b:Bool)(p B E R:Int):(if b=true then 1 else if decide (p≠0)=true then p else if decide (B≠0)=true then B else if decide (E≠0)=true then E else R) =
  if decide ((if decide ((if b=true then 1 else p)≠0)=true then (if b=true then 1 else p) else if decide (B≠0)=true then B else E)≠0)=true then (if decide ((if b=true then 1 else p)≠0)=true then (if b=true then 1 else p) else if decide (B≠0)=true then B else E) else R:=by
 cases b <;> by_cases h1:p=0 <;> by_cases h2:B=0 <;> by_cases h3:E=0 <;> simp [h1,h2,h3]
theorem ZoE (p B E R:Int):(if decide (p=0)=true then (if decide (B=0)=true then (if decide (E≠0)=true then E else R) else if decide (B≠0)=true then B else R) else if decide (p≠0)=true then p else R) =
  if decide ((if decide (p≠0)=true then p else if decide (B≠0)=true then B else E)≠0)=true then (if decide (p≠0)=true then p else if decide (B≠0)=true then B else E) else R:=by
 by_cases h1:p=0 <;> by_cases h2:B=0 <;> by_cases h3:E=0 <;> simp [h1,h2,h3]
theorem ZqE {s:Z5}{l:List Z5}(h:s ∈ l):SizeOf.sizeOf s < SizeOf.sizeOf l∧SizeOf.sizeOf s.Body < SizeOf.sizeOf l∧SizeOf.sizeOf s.Else < SizeOf.sizeOf l:=by
 have:=List.sizeOf_lt_of_mem h
 have:=Zol s
 omega
def ZeW (l:List Z5):Prop:=l.length≤4611686018427387∧∀ s ∈ l,Y7 s
theorem Y7.b {s:Z5}(h:Y7 s):ZeW s.Body∧ZeW s.Else:=by
 have h1:=h.Body; have h2:=h.Else
 exact ⟨⟨by omega,h1.2⟩,by omega,h2.2⟩
theorem ZqF (l:List Z5):0 < SizeOf.sizeOf l:=by cases l <;> simp <;> omega
def Ns (l:List Z5):Int:=if decide (200 < Gn l (l.length:Int))=true then 6 else if decide (12 < L8 l 0)=true then 11 else XQ l
def Zfd (l:List Z5):Int:=if decide (200 < UB l 0)=true then 6 else if decide (12 < L8 l 0)=true then 11 else XQ l
theorem wrK (n:Int):∃ k:Int,IntKind.i64.wrap n=n + 18446744073709551616 * k:=by
 rw [IntKind.wrap_i64]
 exact ⟨-((n + 9223372036854775808) / 18446744073709551616),by omega⟩
theorem wrR (n:Int):-9223372036854775808≤IntKind.i64.wrap n∧IntKind.i64.wrap n≤9223372036854775807:=by
 rw [IntKind.wrap_i64]
 constructor <;> omega
mutual
def trS:Z5→Int
 | ⟨_,_,_,_,_,_,_,_,b,e⟩=>Zn6 b + Zn6 e
def Zn6:List Z5→Int
 | []=>0
 | x :: r=>1 + trS x + Zn6 r
end
mutual
theorem trR:∀ (s:Z5) (n:Int),∃ k:Int,Zq5 s n=n + 1 + trS s + 18446744073709551616 * k
 | ⟨_,_,_,_,_,_,_,_,b,e⟩,n=>by
  rw [Zq5,trS]
  obtain ⟨k1,h1⟩:=Ztk b 0
  obtain ⟨k2,h2⟩:=Ztk e 0
  obtain ⟨k3,h3⟩:=wrK (n + 1)
  obtain ⟨k4,h4⟩:=wrK (IntKind.i64.wrap (n + 1) + UB b 0)
  obtain ⟨k5,h5⟩:=wrK (IntKind.i64.wrap (IntKind.i64.wrap (n + 1) + UB b 0) + UB e 0)
  exact ⟨k1 + k2 + k3 + k4 + k5,by omega⟩
theorem Ztk:∀ (l:List Z5) (n:Int),∃ k:Int,UB l n=n + Zn6 l + 18446744073709551616 * k
 | [],n=>⟨0,by rw [UB,Zn6]; omega⟩
 | x :: r,n=>by
  rw [UB,Zn6]
  obtain ⟨k1,h1⟩:=trR x n
  obtain ⟨k2,h2⟩:=Ztk r (Zq5 x n)
  exact ⟨k1 + k2,by omega⟩
end
mutual
theorem trP:∀ (s:Z5),∃ k:Int,ZnI s=trS s + 18446744073709551616 * k
 | ⟨_,_,_,_,_,_,_,_,b,e⟩=>by
  rw [ZnI,trS]
  obtain ⟨k1,h1⟩:=Ztj b b.length
  obtain ⟨k2,h2⟩:=Ztj e e.length
  obtain ⟨k3,h3⟩:=wrK (Gn b (b.length:Int) + Gn e (e.length:Int))
  exact ⟨k1 + k2 + k3,by omega⟩
theorem Ztj:∀ (l:List Z5) (n:Int),∃ k:Int,Gn l n=n - l.length + Zn6 l + 18446744073709551616 * k
 | [],n=>⟨0,by rw [Gn,Zn6]; simp⟩
 | x :: r,n=>by
  rw [Gn,Zn6]
  obtain ⟨k1,h1⟩:=trP x
  obtain ⟨k3,h3⟩:=wrK (n + ZnI x)
  obtain ⟨k2,h2⟩:=Ztj r (IntKind.i64.wrap (n + ZnI x))
  refine ⟨k1 + k2 + k3,?_⟩
  simp only [List.length_cons]
  omega
end
theorem rgR:∀ (l:List Z5) (n:Int),-9223372036854775808≤n→n≤9223372036854775807→-9223372036854775808≤UB l n∧UB l n≤9223372036854775807
 | [],n,h1,h2=>by rw [UB]; exact ⟨h1,h2⟩
 | x :: r,n,_,_=>by
  have h:=wrR (IntKind.i64.wrap (IntKind.i64.wrap (n + 1) + UB x.Body 0) + UB x.Else 0)
  rw [← Zjr] at h
  rw [UB]
  exact rgR r _ h.1 h.2
theorem rgP:∀ (l:List Z5) (n:Int),-9223372036854775808≤n→n≤9223372036854775807→-9223372036854775808≤Gn l n∧Gn l n≤9223372036854775807
 | [],n,h1,h2=>by rw [Gn]; exact ⟨h1,h2⟩
 | x :: r,n,_,_=>by
  have h:=wrR (n + ZnI x)
  rw [Gn]
  exact rgP r _ h.1 h.2
theorem ZqS (l:List Z5)(hl:l.length≤4611686018427387):UB l 0=Gn l (l.length:Int):=by
 obtain ⟨k1,h1⟩:=Ztk l 0
 obtain ⟨k2,h2⟩:=Ztj l l.length
 have r1:=rgR l 0 (by omega) (by omega)
 have r2:=rgP l l.length (by omega) (by omega)
 omega
theorem ZhO (l:List Z5)(hl:l.length≤4611686018427387):Zfd l=Ns l:=by
 unfold Zfd Ns
 rw [ZqS l hl]
def VQ (a b:Int):Int:=if decide (a≠0)=true then a else b
def Qe (b:Bool)(e:Int):Int:=if b=true then 0 else e
def fitsT (t n:Int):Bool:=if decide (t=1)=true then inB n else if decide (t=2)=true then (decide (n=0) || decide (n=1)) else if decide (t=3)=true then btw n 0 1000000000 else false
def ZeJ (t:Int):Bool:=decide (t=1) || decide (t=2) || decide (t=3)
theorem ZhD (t:Int):ZeJ t=btw t 1 3:=by
 simp only [ZeJ,btw]
 by_cases h1:t=1
 ·simp [h1]
 by_cases h2:t=2
 ·simp [h2]
 by_cases h3:t=3
 ·simp [h3]
 simp only [h1,h2,h3,decide_false,Bool.or_false]
 by_cases h4:1≤t <;> by_cases h5:t≤3 <;> simp [h4,h5]
 omega
def ZlA (cyc:Int):Option Int→List JM→Int
 | _,[]=>0
 | p,c :: r=>if (!(btw c.At_ 0 (cyc - 1)) || !(btw c.Units 0 1000))=true then 2 else if (p.isSome && decide (c.At_≤p.getD 0))=true then 12 else ZlA cyc (some c.At_) r
def Zl9 (d:Zp):Int :=
 if decide ((d.Shift.length:Int)=0)=true then (if decide (d.Cycle≠0)=true then 1 else 0)
 else if decide (20 < (d.Shift.length:Int))=true then 6 else if (!(btw d.Cycle 1 1000000000))=true then 2 else ZlA d.Cycle none d.Shift
theorem Wi.s {d:Zp}(h:Wi d):d.Shift.length≤4611686018427387:=by have:=h.Shift.1; omega
theorem ZQ.st {d:Zb}(h:ZQ d):d.Streams.length≤4611686018427387∧d.Counts.length≤4611686018427387∧d.Stores.length≤4611686018427387∧d.Routines.length≤4611686018427387:=by
 have:=h.Streams.1; have:=h.Counts.1; have:=h.Stores.1; have:=h.Routines.1; omega
def ZgM (d:Zb)(f:IJ):Int :=
 if (decide (f.Stream=[]) && (!(DT f.Up) || !(DT f.Down)))=true then 1 else if decide (f.Stream=[])=true then 0 else if (!(d.Streams.contains f.Stream))=true then 5 else if decide (Pi f.Up≠0)=true then Pi f.Up else Pi f.Down
def Zul (s:Zb)(d:Zp):Int :=
 if decide (VQ (Qe (btw d.Units 0 1000) 2) (Zl9 d)≠0)=true then VQ (Qe (btw d.Units 0 1000) 2) (Zl9 d)
 else if decide (d.Fault.Stream=[])=true then Qe (DT d.Fault.Up && DT d.Fault.Down) 1
 else if (!(s.Streams.contains d.Fault.Stream))=true then 5 else VQ (Pi d.Fault.Up) (Pi d.Fault.Down)
def ZiQ (s:Zb)(d:Zp):Int:=if (!(btw d.Units 0 1000))=true then 2 else if decide (Zl9 d≠0)=true then Zl9 d else ZgM s d.Fault
theorem Zqh (s:Zb)(d:Zp):Zul s d=ZiQ s d:=by
 unfold Zul ZiQ ZgM VQ Qe
 cases btw d.Units 0 1000 <;> by_cases h1:Zl9 d=0 <;> by_cases h2:d.Fault.Stream=[] <;> cases DT d.Fault.Up <;> cases DT d.Fault.Down <;> cases s.Streams.contains d.Fault.Stream <;> simp [h1,h2]
def ZeI (t:IK)(found:Bool):Int:=if (!found)=true then 5 else if (!(btw t.Coef (-1000) 1000) || decide (t.Coef=0))=true then 2 else 0
def ZiB (d:Zb)(t:IK):Int:=if decide (t.What=[99,114,101,97,116,101,100])=true then ZeI t ((d.Routines.map (·.Name)).contains t.Name) else if decide (t.What=[101,110,100,101,100])=true then ZeI t ((d.Routines.map (·.Name)).contains t.Name) else if decide (t.What=[105,110,115,105,100,101])=true then ZeI t ((d.Routines.map (·.Name)).contains t.Name) else if decide (t.What=[115,116,111,114,101,100])=true then ZeI t ((d.Stores.map (·.Name)).contains t.Name) else if decide (t.What=[101,110,116,101,114,101,100])=true then ZeI t ((d.Stores.map (·.Name)).contains t.Name) else if decide (t.What=[108,101,102,116])=true then ZeI t ((d.Stores.map (·.Name)).contains t.Name) else if decide (t.What=[99,111,117,110,116,101,100])=true then ZeI t (d.Counts.contains t.Name) else 1
def ZhA (s:J3):Int:=if (!(btw s.At_ 0 1000000000) || !(btw s.Every 0 1000000000) || !(btw s.Until 0 1000000000) || (decide (s.Every=0) && decide (s.Until≠0)))=true then 2 else 0
def BB (tl:Int):List WF→List Int→Int
 | p :: ps,a :: ys=>if (!(fitsT p.Ty a))=true then 2 else BB tl ps ys
 | _,_=>tl
def Dw (d:Zb)(s:J3):Int :=
 match d.Routines.find? (fun r=>decide (r.Name=s.Routine)) with
 | none=>5
 | some r=>if decide ((s.Args.length:Int)≠(r.Params.length:Int))=true then 8 else BB (ZhA s) r.Params s.Args
theorem DW.a {s:J3}(h:DW s):s.Args.length≤4611686018427387:=by have:=h.Args.1; omega
theorem KZ.p {r:Yc}(h:KZ r):r.Params.length≤4611686018427387∧r.Locals.length≤4611686018427387∧ZeW r.Body:=by
 have:=h.Params.1; have:=h.Locals.1; have:=h.Body
 exact ⟨by omega,by omega,by omega,this.2⟩
abbrev Seen:=List (List UInt8)
def Yo (s:List UInt8)(seen:Seen):Int×Seen:=if decide (Vj s≠0)=true then (Vj s,seen) else if seen.contains s=true then (4,seen) else (0,seen ++ [s])
def ZV (s:List UInt8)(rest:Int)(seen:Seen):Int×Seen:=if decide ((Yo s seen).1≠0)=true then Yo s seen else (rest,(Yo s seen).2)
def JF (v:Q8):Int:=if (!(btw v.Ty 1 3))=true then 1 else if (!(fitsT v.Ty v.N))=true then 2 else 0
def OO (x:Yw):Int:=if (!(btw x.Room 1 1000))=true then 2 else if (decide (x.Policy < 1) || decide (3 < x.Policy))=true then 1 else 0
def EQ (x:YU):Int:=if (!(btw x.Length 1 1000) || !(btw x.Step 1 1000))=true then 2 else 0
def WC {α σ:Type}(most:Int)(step:α→σ→Int×σ)(l:List α)(s:σ):Int×σ:=if decide (most < (l.length:Int))=true then (6,s) else Yy step l s
def ZbE {α:Type}(most:Int)(f:α→Int)(l:List α):Int:=if decide (most < (l.length:Int))=true then 6 else J7 f l
theorem Zqx {s:List UInt8}{seen:Seen}(h:(Yo s seen).1=0)(rest:Int):ZV s rest seen=(rest,(Yo s seen).2):=by simp [ZV,h]
def Am (f:WF):Int:=if (!(btw f.Ty 1 3))=true then 1 else 0
def Zj8 (l:List WF)(s:Seen):Int×Seen:=Yy (fun f:WF=>ZV f.Name (Am f)) l s
def X9 (r:Yc):Int :=
 if (decide (6 < (r.Params.length:Int)) || decide (16 < (r.Params.length:Int) + (r.Locals.length:Int)))=true then 6
 else if decide ((Zj8 (r.Params ++ r.Locals) []).1≠0)=true then (Zj8 (r.Params ++ r.Locals) []).1 else Ns r.Body
def Ztb (d:Zb)(l:ZcY):Int :=
 if decide ((l.Terms.length:Int)=0)=true then 7 else if decide (ZbE 8 (ZiB d) l.Terms≠0)=true then ZbE 8 (ZiB d) l.Terms else if (!(inB l.Total))=true then 2 else 0
theorem ZlD.t {l:ZcY}(h:ZlD l):l.Terms.length≤4611686018427387:=by have:=h.Terms.1; omega
def SC (d:Zb):Int:=(WC 32 (fun l:ZcY=>ZV l.Name (Ztb d l)) d.Laws []).1
abbrev Step:=Seen→Int×Seen
def Zlj (d:Zb):List Step:=[WC 32 (fun v:Q8=>ZV v.Name (JF v)) d.Vars,WC 32 (fun v:Zp=>ZV v.Name (ZiQ d v)) d.Resources,WC 32 (fun v:Yw=>ZV v.Name (OO v)) d.Stores,WC 32 (fun v:YU=>ZV v.Name (EQ v)) d.Belts,WC 32 Yo d.Queues,WC 32 Yo d.Streams,WC 32 Yo d.Tallies,WC 32 Yo d.Levels,WC 32 Yo d.Counts,
 WC 16 (fun v:Yc=>ZV v.Name (X9 v)) d.Routines,fun s=>(ZbE 32 (Dw d) d.Starts,s),fun s=>(SC d,s)]
def TP (d:Zb):Int:=(Zbr (Zlj d) []).1
abbrev Zdh:=List (List UInt8×List UInt8)
def KW (m:ZH)(l:DV)(s:Zdh):Int×Zdh :=
 if (!(m.Sites.map (·.Name)).contains l.From || !(m.Sites.map (·.Name)).contains l.To)=true then (5,s)
 else if decide (l.From=l.To)=true then (1,s) else if (!(btw l.Delay 1 1000000000))=true then (2,s) else if s.contains (l.From,l.To)=true then (4,s) else (0,s ++ [(l.From,l.To)])
def Nu (m:ZH):Int:=(WC 32 (KW m) m.Links []).1
theorem Xc.l {m:ZH}(h:Xc m):m.Params.length≤4611686018427387∧m.Sites.length≤4611686018427387∧m.Links.length≤4611686018427387:=by
 have:=h.Params.1; have:=h.Sites.1; have:=h.Links.1; omega
def Zac (l:List Q8):Int:=(WC 32 (fun v:Q8=>ZV v.Name (JF v)) l []).1
def Du (m:ZH):Int:=(WC 16 (fun d:Zb=>ZV d.Name (TP d)) m.Sites []).1
def QE (m:ZH):Int :=
 if decide (Vj m.Name≠0)=true then Vj m.Name else if decide (Zac m.Params≠0)=true then Zac m.Params else if decide ((m.Sites.length:Int)=0)=true then 7 else if decide (Du m≠0)=true then Du m else Nu m
theorem ZuA {m:ZH}{d:Zb}(h:d ∈ m.Sites):SizeOf.sizeOf d < SizeOf.sizeOf m:=by
 have h1:=List.sizeOf_lt_of_mem h
 have h3:SizeOf.sizeOf m.Sites < SizeOf.sizeOf m:=by cases m; simp; omega
 omega
def Nw (s:List UInt8)(seen:Seen):Int:=VQ (Vj s) (Qe (!(seen.contains s)) 4)
theorem Zgy (s:List UInt8)(rest:Int)(seen:Seen):(ZV s rest seen).1=VQ (Nw s seen) rest:=by
 by_cases h1:Vj s=0 <;> rcases Bool.eq_false_or_eq_true (seen.contains s) with h2 | h2 <;> simp only [ZV,Yo,Nw,VQ,Qe,h1,h2] <;> simp [h1]
theorem Zqy {s:List UInt8}{rest:Int}{seen:Seen}(h:VQ (Nw s seen) rest=0):(ZV s rest seen)=(0,seen ++ [s]):=by
 by_cases h1:Vj s=0 <;> rcases Bool.eq_false_or_eq_true (seen.contains s) with h2 | h2 <;> simp only [Nw,VQ,Qe,h1,h2] at h <;> simp [h1] at h
 simp only [ZV,Yo,h1,h2]
 simp [h]
theorem Zrb (f:WF):Qe (ZeJ f.Ty) 1=Am f:=by
 rw [ZhD]; unfold Qe Am; cases btw f.Ty 1 3 <;> rfl
def JO (d:Zb):List (Int×List (List UInt8×Int)):=[(32,d.Vars.map fun v=>(v.Name,JF v)),(32,d.Resources.map fun v=>(v.Name,ZiQ d v)),(32,d.Stores.map fun v=>(v.Name,OO v)),(32,d.Belts.map fun v=>(v.Name,EQ v)),(32,d.Queues.map fun v=>(v,0)),(32,d.Streams.map fun v=>(v,0)),(32,d.Tallies.map fun v=>(v,0)),(32,d.Levels.map fun v=>(v,0)),(32,d.Counts.map fun v=>(v,0)),(16,d.Routines.map fun v=>(v.Name,X9 v))]
theorem ZsP (x:Yw):VQ (Qe (btw x.Room 1 1000) 2) (Qe (decide (1≤x.Policy) && decide (x.Policy≤3)) 1)=OO x:=by
 unfold VQ Qe OO
 have e:(decide (x.Policy < 1) || decide (3 < x.Policy))=!(decide (1≤x.Policy) && decide (x.Policy≤3)):=by
  have a1:decide (x.Policy < 1)=!decide (1≤x.Policy):=by rw [← decide_not]; congr 1; apply propext; omega
  have a2:decide (3 < x.Policy)=!decide (x.Policy≤3):=by rw [← decide_not]; congr 1; apply propext; omega
  rw [Bool.not_and,a1,a2]
 rw [e]
 cases btw x.Room 1 1000 <;> cases (decide (1≤x.Policy) && decide (x.Policy≤3)) <;> simp
theorem Ztx (x:YU):Qe (btw x.Length 1 1000 && btw x.Step 1 1000) 2=EQ x:=by
 unfold Qe EQ; cases btw x.Length 1 1000 <;> cases btw x.Step 1 1000 <;> rfl
theorem valueR (v:Q8):VQ (Qe (ZeJ v.Ty) 1) (Qe (fitsT v.Ty v.N) 2)=JF v:=by
 rw [ZhD]; unfold VQ Qe JF; cases btw v.Ty 1 3 <;> cases fitsT v.Ty v.N <;> rfl
theorem KX {α β:Type}{f:α→β}{l:List α}{i:Nat}{y:β}(h:(l.map f)[i]? = some y):∃ x,l[i]? = some x∧f x=y:=by
 rw [List.getElem?_map] at h
 exact Option.map_eq_some_iff.1 h
theorem kd (k:Nat):(∀ j:Nat,k=j→decide (((k:Nat):Int)=(j:Int))=true)∧(∀ j:Nat,k≠j→decide (((k:Nat):Int)=(j:Int))=false):=⟨fun j h=>by simp [h],fun j h=>by simp only [decide_eq_false_iff_not]; omega⟩
def PH (q:List UInt8×Int):Seen→Int×Seen:=ZV q.1 q.2
def stepD (p:Int×List (List UInt8×Int)):Seen→Int×Seen:=WC p.1 PH p.2
theorem ZhR (d:Zb):∀ (k:Nat) (p:Int×List (List UInt8×Int)),(JO d)[k]? = some p→p.1=if k=9 then 16 else 32
 | 0,p,h=>by cases h; rfl
 | 1,p,h=>by cases h; rfl
 | 2,p,h=>by cases h; rfl
 | 3,p,h=>by cases h; rfl
 | 4,p,h=>by cases h; rfl
 | 5,p,h=>by cases h; rfl
 | 6,p,h=>by cases h; rfl
 | 7,p,h=>by cases h; rfl
 | 8,p,h=>by cases h; rfl
 | 9,p,h=>by cases h; rfl
 | k + 10,p,h=>by simp [JO] at h
theorem Zh6:∀ (l:List (List UInt8×Int)) (s:Seen),(Yy PH l s).2.length≤s.length + l.length
 | [],s=>by simp [Yy]
 | x :: r,s=>by
  have ih:=Zh6 r (PH x s).2
  have h1:(PH x s).2.length≤s.length + 1:=by
   unfold PH ZV
   split
   ·unfold Yo; split <;> (try split) <;> simp
   ·show (Yo x.1 s).2.length≤_
    unfold Yo; split <;> (try split) <;> simp
  rw [Yy]
  split
  ·simp; omega
  ·simp; omega
theorem Zm3 (m:ZH)(l:DV)(s:Zdh):KW m l s=if (!(m.Sites.map (·.Name)).contains l.From || !(m.Sites.map (·.Name)).contains l.To)=true then (5,s)
 else if decide (l.From=l.To)=true then (1,s) else if (!(btw l.Delay 1 1000000000))=true then (2,s) else if s.contains (l.From,l.To)=true then (4,s) else (0,s ++ [(l.From,l.To)]):=rfl
theorem Zqz {s:List UInt8}{rest:Int}{seen:Seen}(h:(ZV s rest seen).1=0):(ZV s rest seen).2=seen ++ [s]∧s ∉ seen∧rest=0:=by
 rw [Zgy] at h
 have w:=Zqy h
 refine ⟨by rw [w],?_,?_⟩
 ·intro hm
  have:seen.contains s=true:=by simpa using hm
  simp only [Nw,this,VQ,Qe] at h
  by_cases h1:Vj s=0 <;> simp [h1] at h
 ·by_cases h1:Nw s seen=0
  ·simpa [VQ,h1] using h
  ·simp [VQ,h1] at h
def ZdN (p:Int×List (List UInt8×Int)):List (List UInt8):=p.2.map (·.1)
def ZjX (d:Zb):List (List UInt8×List (List UInt8)):=[([118,97,114],d.Vars.map (·.Name)),([114,101,115,111,117,114,99,101],d.Resources.map (·.Name)),([115,116,111,114,101],d.Stores.map (·.Name)),([98,101,108,116],d.Belts.map (·.Name)),([113,117,101,117,101],d.Queues),([115,116,114,101,97,109],d.Streams),([116,97,108,108,121],d.Tallies),([108,101,118,101,108],d.Levels),([99,111,117,110,116],d.Counts),([114,111,117,116,105,110,101],d.Routines.map (·.Name))]
end Go.Proofs.YthkdlifcknpadaaGreat
end
section
namespace Go.Proofs.YthkdlifcknpadaaGreat
open Go Go.Proofs.YthkdlifcknpadaaGreat.Abs Go.Proofs.YthkdlifcknpadaaGreat.Tl
theorem Zh5 {α σ:Type}(f:α→σ→Int×σ):∀ (l r:List α) (s:σ),(Yy f (l ++ r) s).1=0→(Yy f l s).1=0
 | [],_,s,_=>rfl
 | x :: l,r,s,h=>by
  rw [List.cons_append,Yy] at h
  rw [Yy]
  split at h
  ·rename_i c; simp only [decide_eq_true_eq] at c; exact absurd h c
  ·rename_i c; rw [if_neg c]; exact Zh5 f l r _ h
theorem ZbF {α σ:Type}(k:Int)(f:α→σ→Int×σ)(l r:List α)(s:σ)(h:(WC k f (l ++ r) s).1=0):(WC k f l s).1=0:=by
 unfold WC at h ⊢
 split at h
 ·cases h
 ·rename_i c
  simp only [decide_eq_true_eq,Int.not_lt,List.length_append] at c
  rw [if_neg (by simp only [decide_eq_true_eq,Int.not_lt]; omega)]
  exact Zh5 f l r s h
theorem ZdK {m:ZH}:QE m=0↔Vj m.Name=0∧Zac m.Params=0∧m.Sites≠[]∧Du m=0∧Nu m=0:=by
 unfold QE
 by_cases h1:Vj m.Name=0
 ·by_cases h2:Zac m.Params=0
  ·by_cases h3:m.Sites=[]
   ·simp [h1,h2,h3]
   ·have:¬ (m.Sites.length:Int)=0:=by cases hm:m.Sites with
     | nil=>exact absurd hm h3
     | cons a l=>simp only [List.length_cons]; omega
    by_cases h4:Du m=0 <;> simp [h1,h2,h3,h4,this]
  ·simp [h1,h2]
 ·simp [h1]
theorem Zic (m:ZH)(h:QE m=0)(l r:List DV)(e:m.Links=l ++ r):QE { m with Links:=l } = 0:=by
 obtain ⟨h1,h2,h3,h4,h5⟩:=ZdK.1 h
 refine ZdK.2 ⟨h1,h2,h3,h4,?_⟩
 unfold Nu at h5 ⊢
 rw [e] at h5
 exact ZbF 32 (KW m) l r [] h5
theorem Zn0 {σ:Type}(fs:List (σ→Int×σ))(f g:σ→Int×σ):∀ s:σ,(Zbr (fs ++ [f]) s).1=0→(∀ t,(f t).1=0→(g t).1=0)→(Zbr (fs ++ [g]) s).1=0:=by
 induction fs with
 | nil =>
  intro s h hg
  rw [List.nil_append,Zbr] at h ⊢
  have:(f s).1=0:=by
   split at h
   ·rename_i c; simp only [decide_eq_true_eq] at c; exact absurd h c
   ·rename_i c; simpa using c
  rw [if_neg (by simp [hg s this])]
  rfl
 | cons x fs ih =>
  intro s h hg
  rw [List.cons_append,Zbr] at h ⊢
  split at h
  ·rename_i c; simp only [decide_eq_true_eq] at c; exact absurd h c
  ·rename_i c; rw [if_neg c]; exact ih _ h hg
theorem Zm1 (d:Zb)(h:TP d=0)(l r:List ZcY)(e:d.Laws=l ++ r):TP { d with Laws:=l } = 0:=by
 have h':(Zbr ([WC 32 (fun v:Q8=>ZV v.Name (JF v)) d.Vars,WC 32 (fun v:Zp=>ZV v.Name (ZiQ d v)) d.Resources,WC 32 (fun v:Yw=>ZV v.Name (OO v)) d.Stores,WC 32 (fun v:YU=>ZV v.Name (EQ v)) d.Belts,WC 32 Yo d.Queues,WC 32 Yo d.Streams,WC 32 Yo d.Tallies,WC 32 Yo d.Levels,WC 32 Yo d.Counts,
  WC 16 (fun v:Yc=>ZV v.Name (X9 v)) d.Routines,fun s=>(ZbE 32 (Dw d) d.Starts,s)] ++ [fun s:Seen=>(SC d,s)]) []).1=0:=h
 have:=Zn0 _ _ (fun s:Seen=>(SC { d with Laws:=l },s)) [] h' fun t ht=>by
  show SC { d with Laws:=l } = 0
  have ht:SC d=0:=ht
  unfold SC at ht ⊢
  rw [e] at ht
  exact ZbF 32 _ l r [] ht
 exact this
theorem Zh7 {α σ:Type}(f:α→σ→Int×σ):∀ (l:List α) (i:Nat) (x y:α) (s:σ),l[i]? = some x→(∀ t,(f x t).1=0→f y t=f x t)→(Yy f l s).1=0→(Yy f (l.set i y) s).1=0
 | [],i,x,y,s,h,_,_=>by cases h
 | a :: l,0,x,y,s,h,hf,h0=>by
  cases h
  rw [Yy] at h0
  rw [List.set_cons_zero,Yy]
  split at h0
  ·rename_i c; simp only [decide_eq_true_eq] at c; exact absurd h0 c
  ·rename_i c
   have c':(f a s).1=0:=by simpa using c
   rw [hf s c',if_neg c]; exact h0
 | a :: l,i + 1,x,y,s,h,hf,h0=>by
  rw [Yy] at h0
  rw [List.set_cons_succ,Yy]
  split at h0
  ·rename_i c; simp only [decide_eq_true_eq] at c; exact absurd h0 c
  ·rename_i c; rw [if_neg c]; exact Zh7 f l i x y _ h hf h0
theorem ZiJ {s:List UInt8}{a b:Int}{t:Seen}(h:(ZV s a t).1=0)(hb:a=0→b=0):ZV s b t=ZV s a t:=by
 unfold ZV at h ⊢
 split
 ·rfl
 ·rename_i c
  rw [if_neg c] at h
  have h:a=0:=h
  rw [h,hb h]
theorem ZeC {α:Type}(nm:α→List UInt8)(g:α→Int):∀ (l:List α) (s:Seen),(Yy (fun v=>ZV (nm v) (g v)) l s).1=0→∀ x ∈ l,g x=0
 | a :: l,s,h,x,hx=>by
  rw [Yy] at h
  split at h
  ·rename_i c; simp only [decide_eq_true_eq] at c; exact absurd h c
  ·rename_i c
   have c':(ZV (nm a) (g a) s).1=0:=by simpa using c
   rcases List.mem_cons.1 hx with e | e
   ·subst e
    unfold ZV at c'
    split at c'
    ·rename_i q; simp only [decide_eq_true_eq] at q; exact absurd c' q
    ·exact c'
   ·exact ZeC nm g l _ h x e
theorem Zkt (l:List Zb)(i:Nat)(x y:Zb)(h:l[i]? = some x)(e:y.Name=x.Name):(l.set i y).map (·.Name)=l.map (·.Name):=by
 rw [List.map_set]
 refine List.ext_getElem? fun j=>?_
 rw [List.getElem?_set]
 split
 ·rename_i q; subst q
  split
  ·rw [List.getElem?_map,h,Option.map_some,e]
  ·rename_i q; rw [List.getElem?_eq_none (by simpa using q)]
 ·rfl
theorem Zke (m:ZH)(h:QE m=0)(i:Nat)(d:Zb)(hi:m.Sites[i]? = some d)(l r:List ZcY)(e:d.Laws=l ++ r):QE { m with Sites:=m.Sites.set i { d with Laws:=l } } = 0:=by
 obtain ⟨h1,h2,h3,h4,h5⟩:=ZdK.1 h
 have hn:=Zkt m.Sites i d { d with Laws:=l } hi rfl
 refine ZdK.2 ⟨h1,h2,?_,?_,?_⟩
 ·intro q
  have:(m.Sites.set i { d with Laws:=l }).length=0:=by rw [show m.Sites.set i { d with Laws:=l } = [] from q]; rfl
  rw [List.length_set] at this
  exact h3 (List.eq_nil_of_length_eq_zero this)
 ·unfold Du WC at h4 ⊢
  dsimp only
  rw [List.length_set]
  split at h4
  ·cases h4
  ·rename_i c
   rw [if_neg c]
   have hd:TP d=0:=ZeC (fun d:Zb=>d.Name) TP m.Sites [] h4 d (List.mem_of_getElem? hi)
   exact Zh7 (fun d:Zb=>ZV d.Name (TP d)) m.Sites i d { d with Laws:=l } [] hi (fun t ht=>ZiJ (s := d.Name) ht fun _=>Zm1 d hd l r e) h4
 ·unfold Nu at h5 ⊢
  have:KW { m with Sites:=m.Sites.set i { d with Laws:=l } } = KW m:=by
   funext x s
   unfold KW
   show (if (!((m.Sites.set i { d with Laws:=l }).map (·.Name)).contains x.From || !((m.Sites.set i { d with Laws:=l }).map (·.Name)).contains x.To)=true then _ else _)=_
   rw [hn]
  rw [this]; exact h5
theorem Zma {s:List UInt8}{t:Seen}(h:(Yo s t).1=0):s ∉ t∧(Yo s t).2=t ++ [s]:=by
 unfold Yo at h ⊢
 split at h
 ·rename_i c; simp only [decide_eq_true_eq] at c; exact absurd h c
 ·rename_i c
  rw [if_neg c]
  split at h
  ·cases h
  ·rename_i q
   rw [if_neg q]
   exact ⟨by simpa using q,rfl⟩
theorem Zbq (g:Zb→Int):∀ (l:List Zb) (s:Seen),(Yy (fun v:Zb=>ZV v.Name (g v)) l s).1=0→(∀ x ∈ l,x.Name ∉ s)∧(l.map (·.Name)).Nodup
 | [],s,_=>⟨fun x hx=>(by cases hx),by simp⟩
 | a :: l,s,h=>by
  rw [Yy] at h
  split at h
  ·rename_i c; simp only [decide_eq_true_eq] at c; exact absurd h c
  ·rename_i c
   have c':(ZV a.Name (g a) s).1=0:=by simpa using c
   have he:(Yo a.Name s).1=0:=by
    unfold ZV at c'
    split at c'
    ·exact c'
    ·rename_i q; simpa using q
   obtain ⟨e1,e2⟩:=Zma he
   have e3:(ZV a.Name (g a) s).2=s ++ [a.Name]:=by rw [Zqx he]; exact e2
   rw [e3] at h
   obtain ⟨i1,i2⟩:=Zbq g l _ h
   refine ⟨fun x hx=>?_,?_⟩
   ·rcases List.mem_cons.1 hx with e | e
    ·rw [e]; exact e1
    ·exact fun q=>i1 x e (List.mem_append_left _ q)
   ·rw [List.map_cons,List.nodup_cons]
    refine ⟨fun q=>?_,i2⟩
    obtain ⟨x,hx,e⟩:=List.mem_map.1 q
    exact i1 x hx (by rw [e]; simp)
theorem Zbp (m m':ZH)(n:List UInt8)(hn:∀ s:List UInt8,(m.Sites.map (·.Name)).contains s=true→((m'.Sites.map (·.Name)).contains s=!decide (s=n))):∀ (l:List DV) (s:Zdh),(Yy (KW m) l s).1=0 →
  (Yy (KW m') l s).1=if l.any (fun x=>decide (x.From=n) || decide (x.To=n))=true then 5 else 0
 | [],s,_=>rfl
 | x :: l,s,h=>by
  rw [Yy] at h
  split at h
  ·rename_i c; simp only [decide_eq_true_eq] at c; exact absurd h c
  ·rename_i c
   have c':(KW m x s).1=0:=by simpa using c
   have hk:(m.Sites.map (·.Name)).contains x.From=true∧(m.Sites.map (·.Name)).contains x.To=true:=by
    unfold KW at c'
    split at c'
    ·cases c'
    ·rename_i q
     revert q
     generalize (m.Sites.map (·.Name)).contains x.From=p
     generalize (m.Sites.map (·.Name)).contains x.To=r
     cases p <;> cases r <;> decide
   have h1:=hn _ hk.1; have h2:=hn _ hk.2
   rw [Yy,List.any_cons]
   cases a:decide (x.From=n) with
   | true =>
    have:KW m' x s=(5,s):=by unfold KW; rw [h1,a]; rfl
    rw [this]; rfl
   | false =>
    cases b:decide (x.To=n) with
    | true =>
     have:KW m' x s=(5,s):=by unfold KW; rw [h1,h2,a,b]; rfl
     rw [this]; rfl
    | false =>
     have:KW m' x s=KW m x s:=by unfold KW; rw [h1,h2,hk.1,hk.2,a,b]; rfl
     rw [this,if_neg c,Zbp m m' n hn l _ h]
     rfl
theorem Zkf (m:ZH)(h:QE m=0)(l:List Zb)(d:Zb)(e:m.Sites=l ++ [d]) :
  QE { m with Sites:=l } = if l=[] then 7 else if m.Links.any (fun x=>decide (x.From=d.Name) || decide (x.To=d.Name))=true then 5 else 0:=by
 obtain ⟨h1,h2,h3,h4,h5⟩:=ZdK.1 h
 by_cases hl:l=[]
 ·rw [if_pos hl]
  unfold QE
  simp [h1,h2,hl]
 ·rw [if_neg hl]
  have h4':Du { m with Sites:=l } = 0:=by
   unfold Du at h4 ⊢
   rw [e] at h4
   exact ZbF 16 _ l [d] [] h4
  have hlen:¬ (l.length:Int)=0:=by cases l with
   | nil=>exact absurd rfl hl
   | cons a l=>simp only [List.length_cons]; omega
  have hnd:((l ++ [d]).map (·.Name)).Nodup:=by
   unfold Du WC at h4
   rw [e] at h4
   split at h4
   ·cases h4
   ·exact (Zbq TP _ [] h4).2
  have key:=Zbp m { m with Sites:=l } d.Name (fun s hs=>by
   rw [e,List.map_append,List.map_singleton] at hs
   have hs':s ∈ l.map (·.Name) ++ [d.Name]:=by simpa using hs
   rw [List.map_append,List.map_singleton,List.nodup_append] at hnd
   show (l.map (·.Name)).contains s=_
   by_cases q:s=d.Name
   ·have:s ∉ l.map (·.Name):=fun k=>hnd.2.2 s k d.Name (by simp) q
    simp only [q,decide_true,Bool.not_true]
    rw [← q]
    simpa using this
   ·have:s ∈ l.map (·.Name):=by
     rcases List.mem_append.1 hs' with k | k
     ·exact k
     ·exact absurd (by simpa using k) q
    simp only [q,decide_false,Bool.not_false]
    simpa using this) m.Links [] (by
   unfold Nu WC at h5
   split at h5
   ·cases h5
   ·exact h5)
  unfold QE
  have h5':Nu { m with Sites:=l } = if m.Links.any (fun x=>decide (x.From=d.Name) || decide (x.To=d.Name))=true then 5 else 0:=by
   rw [← key]
   unfold Nu WC at h5 ⊢
   split at h5
   ·cases h5
   ·rename_i c
    rw [if_neg c]
  rw [h5']
  simp [h1,h2,h4',hlen,hl]
end Go.Proofs.YthkdlifcknpadaaGreat
end
