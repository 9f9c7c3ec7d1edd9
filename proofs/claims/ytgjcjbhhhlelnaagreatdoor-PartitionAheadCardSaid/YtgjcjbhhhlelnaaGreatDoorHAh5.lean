import Derived.Test.YtgjcjbhhhlelnaaGreatDoorHAh4
set_option linter.all false
section
namespace Go.Proofs.YtgjcjbhhhlelnaaGreatDoor
open Go Go.Proofs.YtgjcjbhhhlelnaaGreatDoor.Abs
set_option maxRecDepth 100000
def Zvj (n:Int):Bool:=decide (97≤n) && decide (n≤122)
def Zho (n:Int):Bool:=Zvj n || decide (n=95) || (decide (48≤n) && decide (n≤57))
def kws:List (List UInt8):=[[97,100,100],[97,102,116,101,114],[97,110,100],[97,116],[98,101,108,116],[98,111,111,108],[99,111,110,115,101,114,118,101],[99,111,110,115,116],[99,111,117,110,116],[99,121,99,108,101],[100,111,119,110],[100,114,97,119],[100,117,114],[101,108,115,101],[101,110,100],[101,118,101,114,121],[102,97,108,115,101],[102,97,117,108,116],[102,105,102,111],[102,114,101,101],[102,114,111,109],[103,101,111,109],[103,101,116],[104,111,108,100],[105,102],[105,110,116],[105,110,116,111],[108,101,97,115,116],[108,101,118,101,108],[108,105,102,111],[108,105,110,107],[108,111,99,97,108],[109,97,120],[109,105,110],[109,111,100,101,108],[110,111,116],[110,111,119],[111,98,115,101,114,118,101],[111,114],[112,97,114,97,109],[112,114,101,101,109,112,116],[112,114,105,111],[112,117,116],[113,117,101,117,101],[114,101,108,101,97,115,101],[114,101,115,111,117,114,99,101],[114,105,100,101],[114,111,117,116,105,110,101],[115,101,105,122,101],[115,101,110,100],[115,101,116],[115,104,105,102,116],[115,105,103,110,97,108],[115,105,116,101],[115,105,122,101],[115,112,97,119,110],[115,116,97,114,116],[115,116,111,112],[115,116,111,114,101],[115,116,114,101,97,109],[115,117,109],[116,97,98,108,101],[116,97,108,108,121],[116,105,99,107,115],[116,105,109,101],[116,114,117,101],[117,110,105,102,111,114,109],[117,110,116,105,108],[117,112],[118,97,114],[119,97,105,116],[119,97,105,116,105,110,103],[119,104,105,108,101]]
def kwB (s:List UInt8):Bool:=kws.any fun k=>decide (s=k)
def VS (s:List UInt8):Int :=
 match s with
 | []=>3
 | c :: r=>if 24 < (c :: r).length∨Zvj c.toNat=false∨kwB (c :: r)=true then 3 else if (c :: r).all (fun x=>Zho x.toNat) then 0 else 3
def inB (n:Int):Bool:=decide (-1000000000000≤n) && decide (n≤1000000000000)
theorem Zj3 (s:List UInt8):VS s=0∨VS s=3:=by
 unfold VS
 split
 ·exact .inr rfl
 ·split
  ·exact .inr rfl
  ·split
   ·exact .inl rfl
   ·exact .inr rfl
def YQ {α σ:Type}(step:α→σ→Int×σ):List α→σ→Int×σ
 | [],s=>(0,s)
 | x :: r,s=>if decide ((step x s).1≠0)=true then step x s else YQ step r (step x s).2
def Py {σ:Type}:List (σ→Int×σ)→σ→Int×σ
 | [],s=>(0,s)
 | f :: r,s=>if decide ((f s).1≠0)=true then f s else Py r (f s).2
theorem Z2d {n:Int}(h1:-9223372036854775808≤n)(h2:n≤9223372036854775807):IntKind.i64.wrap n=n:=i64_in h1 h2
def ZqC (a b:Wj):Bool:=decide (a.Op=b.Op) && decide (a.A=b.A) && decide (a.B=b.B) && decide (a.N=b.N) && decide (a.Values=b.Values) && decide (a.Weights=b.Weights)
def btw (x lo hi:Int):Bool:=decide (lo≤x) && decide (x≤hi)
def Aa (d:Wj):Bool :=
 if decide (d.Op=1)=true then decide ((d.Values.length:Int) + d.Weights.length=0) && decide (d.B=0) && decide (d.N=0)
 else if decide (d.Op=2)=true then decide ((d.Values.length:Int) + d.Weights.length=0) && decide (d.N=0)
 else if decide (d.Op=5)=true then decide ((d.Values.length:Int) + d.Weights.length=0) && decide (d.N=0)
 else if decide (d.Op=4)=true then decide ((d.Values.length:Int) + d.Weights.length=0)
 else if decide (d.Op=3)=true then decide (d.A=0) && decide (d.B=0) && decide (d.N=0)
 else false
theorem JQ.v {d:Wj}(h:JQ d):d.Values.length≤4611686018427387:=by have:=h.Values.1; omega
theorem JQ.w {d:Wj}(h:JQ d):d.Weights.length≤4611686018427387:=by have:=h.Weights.1; omega
theorem JQ.wr {d:Wj}(h:JQ d):IntKind.i64.wrap ((d.Values.length:Int) + (d.Weights.length:Int))=(d.Values.length:Int) + (d.Weights.length:Int):=by
 have:=h.v; have:=h.w; exact Z2d (by omega) (by omega)
def Zfe (d:Wj):Bool :=
 if decide (d.Op=1)=true then decide (d.B=0) && decide (d.N=0) && (decide ((d.Values.length:Int)=0) && decide ((d.Weights.length:Int)=0))
 else if decide (d.Op=2)=true then decide (d.N=0) && (decide ((d.Values.length:Int)=0) && decide ((d.Weights.length:Int)=0))
 else if decide (d.Op=5)=true then decide (d.N=0) && (decide ((d.Values.length:Int)=0) && decide ((d.Weights.length:Int)=0))
 else if decide (d.Op=3)=true then decide (d.A=0) && decide (d.B=0) && decide (d.N=0)
 else if decide (d.Op=4)=true then (decide ((d.Values.length:Int)=0) && decide ((d.Weights.length:Int)=0))
 else false
def Zvs (lo hi:Int)(x:Int):Bool:=decide (x < lo) || decide (hi < x)
def H7 {α:Type}(f:α→Bool):List α→Int→Int
 | [],_=>-1
 | x :: r,i=>if f x=true then i else H7 f r (i + 1)
theorem ZaA {α:Type}(f:α→Bool):∀ (l:List α) (i:Int),0≤i→decide (0≤H7 f l i)=l.any f
 | [],i,h=>by simp [H7]
 | x :: r,i,h=>by
  have ih:=ZaA f r (i + 1) (by omega)
  cases hx:f x <;> simp [H7,hx,h]
  simpa using ih
def Qp (lo hi:Int)(l:List Int):Bool:=!(l.any (Zvs lo hi))
def RJ (d:Wj):Int :=
 if (!(Aa d))=true then 1
 else if decide (d.Op=1)=true then (if (!(Qp 0 1000000000 [d.A]))=true then 2 else 0)
 else if decide (d.Op=2)=true then (if (!(Qp 0 1000000000 [d.A,d.B] && decide (d.A≤d.B)))=true then 2 else 0)
 else if decide (d.Op=4)=true then (if (!(Qp 1 20 [d.N] && Qp 0 1000000 [d.A,d.B] && decide (d.A≤d.B)))=true then 2 else 0)
 else if decide (d.Op=5)=true then (if (!(Qp 1 1000 [d.A,d.B]))=true then 2 else 0)
 else if decide (d.Op=3)=true then
  (if decide ((d.Values.length:Int)≠(d.Weights.length:Int))=true then 8 else if decide ((d.Values.length:Int)=0)=true then 7 else if decide (20 < (d.Values.length:Int))=true then 6
   else if (!(Qp 0 1000000000 d.Values && Qp 1 1000 d.Weights))=true then 2 else 0)
 else 2
def Zv6:List Int→List Int→Int
 | x :: r,y :: s=>if (!(btw x 0 1000000000) || !(btw y 1 1000))=true then 2 else Zv6 r s
 | _,_=>0
def Zop (d:Wj):Int :=
 if decide ((d.Values.length:Int)≠(d.Weights.length:Int))=true then 8 else if decide ((d.Values.length:Int)=0)=true then 7 else if decide (20 < (d.Values.length:Int))=true then 6 else Zv6 d.Values d.Weights
def Ztj (d:Wj):Int :=
 if (!(Zfe d))=true then 1
 else if decide (d.Op=1)=true then (if (!(btw d.A 0 1000000000))=true then 2 else 0)
 else if decide (d.Op=2)=true then (if (!(btw d.A 0 d.B && decide (d.B≤1000000000)))=true then 2 else 0)
 else if decide (d.Op=3)=true then Zop d
 else if decide (d.Op=4)=true then (if (!(btw d.N 1 20 && btw d.A 0 d.B && decide (d.B≤1000000)))=true then 2 else 0)
 else if decide (d.Op=5)=true then (if (!(btw d.A 1 1000 && btw d.B 1 1000))=true then 2 else 0)
 else 0
def Zr5 (op:Int):Bool:=decide (22≤op) && decide (op≤24)
def Zjx (op:Int):Int :=
 if (decide (op=1) || decide (op=2) || decide (op=3) || decide (op=4))=true then 0
 else if (decide (5≤op) && decide (op≤8))=true then 1
 else if (decide (9≤op) && decide (op≤21))=true then 2
 else if (decide (22≤op) && decide (op≤26))=true then 0 else -1
def ZdP (code:Bool)(op:Int):Bool :=
 if decide (op=3)=true then !code else if decide (op=25)=true then code else if decide (op=26)=true then code else decide (0≤Zjx op)
def Zg0 (code:Bool)(op:Int):Bool:=decide (op=3) || (Zr5 op && !code)
def ZsE (code:Bool)(op:Int):Int×Int×Bool :=
 if decide (op=2)=true then (0,1,true) else if decide (op=25)=true then (0,15,true) else if decide (op=26)=true then (0,31,true) else if (Zr5 op && code)=true then (0,63,true) else (0,0,false)
def Zcn (code:Bool)(e:Zw):Int :=
 if (!(ZdP code e.Op) || decide ((e.Kids.length:Int)≠Zjx e.Op) || (decide (e.Name≠[]) && !(Zg0 code e.Op)))=true then 1
 else if decide (e.Op=1)=true then (if (!(inB e.N))=true then 2 else 0)
 else if (!(ZsE code e.Op).2.2 && decide (e.N≠0))=true then 1
 else if ((ZsE code e.Op).2.2 && (decide (e.N < (ZsE code e.Op).1) || decide ((ZsE code e.Op).2.1 < e.N)))=true then 2
 else if Zg0 code e.Op=true then VS e.Name else 0
theorem Fg {x e:Zw}(h:x ∈ e.Kids):SizeOf.sizeOf x < SizeOf.sizeOf e:=by
 cases e
 have:=List.sizeOf_lt_of_mem h
 simp at *
 omega
theorem NP (e:Zw):0 < SizeOf.sizeOf e:=by cases e; simp; omega
theorem Yj.k {e:Zw}(h:Yj e):e.Kids.length≤4611686018427387:=by have:=h.Kids.1; omega
theorem Yj.n {e:Zw}(h:Yj e):e.Name.length≤140737488351232:=h.Name
mutual
def JV (code:Bool):Zw→Int
 | ⟨o,a,n,ks⟩=>if decide (Zcn code ⟨o,a,n,ks⟩≠0)=true then Zcn code ⟨o,a,n,ks⟩ else ZdV code ks
def ZdV (code:Bool):List Zw→Int
 | []=>0
 | x :: r=>if decide (JV code x≠0)=true then JV code x else ZdV code r
end
theorem Zg1 (code:Bool):∀ l:List Zw,ZdV code l=Yl (JV code) l
 | []=>by rw [ZdV]; rfl
 | x :: r=>by rw [ZdV,Zg1 code r]; rfl
theorem ZdU (code:Bool)(e:Zw):JV code e=if decide (Zcn code e≠0)=true then Zcn code e else Yl (JV code) e.Kids:=by
 cases e; rw [JV,Zg1]
mutual
def Zq5:Zw→Int
 | ⟨_,_,_,ks⟩=>Zq7 ks 1
def Zq7:List Zw→Int→Int
 | [],n=>n
 | x :: r,n=>Zq7 r (IntKind.i64.wrap (n + Zq5 x))
end
theorem Zns:∀ (l:List Zw) (n:Int),Zq7 l n=sumW Zq5 l n
 | [],n=>by rw [Zq7]; rfl
 | x :: r,n=>by rw [Zq7,Zns r]; rfl
theorem Zq6 (e:Zw):Zq5 e=sumW Zq5 e.Kids 1:=by cases e; rw [Zq5,Zns]
mutual
def ZpM:Zw→Int
 | ⟨_,_,_,ks⟩=>IntKind.i64.wrap (ZqB ks 0 + 1)
def ZqB:List Zw→Int→Int
 | [],n=>n
 | x :: r,n=>ZqB r (if ZpM x > n then ZpM x else n)
end
theorem Znv:∀ (l:List Zw) (n:Int),ZqB l n=ZtJ ZpM l n
 | [],n=>by rw [ZqB]; rfl
 | x :: r,n=>by rw [ZqB,Znv r]; rfl
theorem ZqA (e:Zw):ZpM e=IntKind.i64.wrap (ZtJ ZpM e.Kids 0 + 1):=by cases e; rw [ZpM,Znv]
def Zlp (a b:Zw):Bool:=decide (a.Op≠b.Op) || decide (a.Name≠b.Name) || decide (a.N≠b.N)
mutual
def FV:Zw→Zw→Bool
 | ⟨o,a,n,ks⟩,e=>if (Zlp ⟨o,a,n,ks⟩ e || decide ((ks.length:Int)≠(e.Kids.length:Int)))=true then false else Ze8 ks e.Kids
def Ze8:List Zw→List Zw→Bool
 | x :: r,y :: s=>if (!(FV x y))=true then false else Ze8 r s
 | _,_=>true
end
theorem Zk9:∀ l m:List Zw,Ze8 l m=all2 FV l m
 | [],[]=>by rw [Ze8] <;> simp [all2]
 | [],y :: s=>by rw [Ze8] <;> simp [all2]
 | x :: r,[]=>by rw [Ze8] <;> simp [all2]
 | x :: r,y :: s=>by rw [Ze8,Zk9 r s]; rfl
theorem ZcF (a b:Zw):FV a b=if (Zlp a b || decide ((a.Kids.length:Int)≠(b.Kids.length:Int)))=true then false else all2 FV a.Kids b.Kids:=by
 cases a; rw [FV,Zk9]
def Zdv (op:Int):Int :=
 if (decide (op < 1) || decide (26 < op))=true then -1 else if (decide (5≤op) && decide (op≤8))=true then 1 else if (decide (9≤op) && decide (op≤21))=true then 2 else 0
def ZtM (op:Int):Int:=if decide (op=25)=true then 15 else if decide (op=26)=true then 31 else 63
def ZoL (code:Bool)(e:Zw):Int :=
 if (!(decide (0≤Zdv e.Op) && ((code && decide (e.Op≠3)) || (!code && decide (e.Op≤24)))) || (!(!code && (decide (e.Op=3) || Zr5 e.Op)) && decide (e.Name≠[])) || (!(decide (e.Op=1) || decide (e.Op=2) || (code && (Zr5 e.Op || decide (e.Op=25) || decide (e.Op=26)))) && decide (e.N≠0)) || decide ((e.Kids.length:Int)≠Zdv e.Op))=true then 1
 else if ((decide (e.Op=1) && !(inB e.N)) || ((decide (e.Op=2) && decide (e.N≠0)) && decide (e.N≠1)) || ((code && (Zr5 e.Op || decide (e.Op=25) || decide (e.Op=26))) && (decide (e.N < 0) || decide (ZtM e.Op < e.N))))=true then 2
 else if ((!code && (decide (e.Op=3) || Zr5 e.Op)) && decide (VS e.Name≠0))=true then VS e.Name else 0
theorem Z24 (op:Int):1≤op∧op≤26→op=1∨op=2∨op=3∨op=4∨op=5∨op=6∨op=7∨op=8∨op=9∨op=10∨op=11∨op=12∨op=13∨op=14∨op=15∨op=16∨op=17∨op=18∨op=19∨op=20∨op=21∨op=22∨op=23∨op=24∨op=25∨op=26:=by omega
theorem Zt5 (code:Bool)(e:Zw):ZoL code e=Zcn code e:=by
 obtain ⟨op,nm,n,ks⟩:=e
 by_cases h:1≤op∧op≤26
 ·rcases Z24 op h with rfl | rfl | rfl | rfl | rfl | rfl | rfl | rfl | rfl | rfl | rfl | rfl | rfl | rfl | rfl | rfl | rfl | rfl | rfl | rfl | rfl | rfl | rfl | rfl | rfl | rfl <;> cases code <;> simp [ZoL,Zcn,Zdv,ZtM,Zr5,Zjx,ZdP,Zg0,ZsE] <;> grind
 ·have h1:Zdv op=-1:=by simp only [Zdv]; rw [if_pos]; simp; omega
  have h2:Zjx op=-1:=by
   simp only [Zjx]
   rw [if_neg (by simp; omega),if_neg (by simp; omega),if_neg (by simp; omega),if_neg (by simp; omega)]
  have h3:ZdP code op=false:=by
   simp only [ZdP,h2]
   rw [if_neg (by simp; omega),if_neg (by simp; omega),if_neg (by simp; omega)]; rfl
  simp [ZoL,Zcn,h1,h2,h3]
theorem Zr4 (code:Bool)(e:Zw):(if decide (ZoL code e≠0)=true then ZoL code e else Yl (JV code) e.Kids)=JV code e:=by rw [Zt5,← ZdU]
def Q8 (code:Bool)(e:Zw):Int:=if decide (60 < Zq5 e)=true then 6 else if decide (12 < ZpM e)=true then 11 else JV code e
def Ry (op:Int):Hl×Bool:=if decide (op=1)=true then (⟨true,false,true,false,false,false,false,false,false⟩,true) else if decide (op=7)=true then (⟨true,false,true,false,false,false,false,false,false⟩,true) else if decide (op=8)=true then (⟨true,false,true,false,false,false,false,false,false⟩,true) else if decide (op=12)=true then (⟨true,false,true,false,false,false,false,false,false⟩,true) else if decide (op=15)=true then (⟨true,false,true,false,false,false,false,false,false⟩,true) else if decide (op=16)=true then (⟨true,false,true,false,false,false,false,false,false⟩,true) else if decide (op=17)=true then (⟨true,false,true,false,false,false,false,false,false⟩,true) else if decide (op=2)=true then (⟨true,true,false,false,false,true,false,false,false⟩,true) else if decide (op=3)=true then (⟨false,false,true,false,false,false,false,true,true⟩,true) else if decide (op=4)=true then (⟨false,false,true,false,false,false,false,true,false⟩,true) else if decide (op=5)=true then (⟨false,false,true,false,false,false,false,false,false⟩,true) else if decide (op=6)=true then (⟨true,false,true,true,false,false,true,false,false⟩,true) else if decide (op=9)=true then (⟨true,true,false,false,false,false,false,false,false⟩,true) else if decide (op=10)=true then (⟨true,false,false,false,false,false,false,false,false⟩,true) else if decide (op=11)=true then (⟨true,false,false,false,false,false,false,false,false⟩,true) else if decide (op=13)=true then (⟨true,true,true,false,true,false,false,false,false⟩,true) else if decide (op=14)=true then (⟨true,false,true,false,true,false,false,false,false⟩,true) else if decide (op=18)=true then (⟨false,false,false,false,false,false,false,false,false⟩,true) else (⟨false,false,false,false,false,false,false,false,false⟩,false)
def Zab (e:Zw):Bool:=decide (e.Op=0) && decide (e.Name=[]) && decide (e.N=0) && decide ((e.Kids.length:Int)=0)
def NZ (d:Wj):Bool:=decide (d.Op=0) && decide (d.A=0) && decide (d.B=0) && decide (d.N=0) && decide (d.Values=[]) && decide (d.Weights=[])
def Zll (s:ZF)(u:Hl):Bool :=
 (u.name || decide (s.Name=[])) && (u.of || decide (s.Of=[])) && (u.e || Zab s.E) && (u.f || Zab s.F) && (u.args || decide ((s.Args.length:Int)=0)) && (u.dist || NZ s.Dist) && (u.flag || !s.Flag) && (u.body || decide ((s.Body.length:Int)=0)) && (u.other || decide ((s.Else.length:Int)=0))
def ZqM (s:ZF):Bool :=
 (Ry s.Op).2 && ((((Ry s.Op).1.name || decide (s.Name=[])) && ((Ry s.Op).1.of || decide (s.Of=[])))) && (((Ry s.Op).1.e || Zab s.E) && ((Ry s.Op).1.f || Zab s.F) && ((Ry s.Op).1.args || decide ((s.Args.length:Int)=0))) && (((Ry s.Op).1.body || decide ((s.Body.length:Int)=0)) && ((Ry s.Op).1.other || decide ((s.Else.length:Int)=0))) && ((Ry s.Op).1.dist || NZ s.Dist) && ((Ry s.Op).1.flag || !s.Flag)
theorem Ztt (s:ZF):ZqM s=((Ry s.Op).2 && Zll s (Ry s.Op).1):=by
 simp only [ZqM,Zll]
 generalize (Ry s.Op).1=u
 generalize (Ry s.Op).2=b
 ac_rfl
def Zfs (s:ZF)(u:Hl):List Zw→Int
 | []=>if u.dist=true then RJ s.Dist else 0
 | x :: r=>if decide (Q8 false x≠0)=true then Q8 false x else Zfs s u r
def ZnX (s:ZF)(u:Hl):Int:=if decide (6 < (s.Args.length:Int))=true then 6 else Zfs s u s.Args
def ZnZ (s:ZF)(u:Hl):Int:=if (!u.f)=true then ZnX s u else if decide (Q8 false s.F≠0)=true then Q8 false s.F else ZnX s u
def ZnY (s:ZF)(u:Hl):Int:=if (!u.e)=true then ZnZ s u else if decide (Q8 false s.E≠0)=true then Q8 false s.E else ZnZ s u
def ZjI (s:ZF)(u:Hl):Int :=
 if (u.name && decide (VS s.Name≠0))=true then VS s.Name else if (u.of && decide (VS s.Of≠0))=true then VS s.Of else ZnY s u
theorem YH.a {s:ZF}(h:YH s):s.Args.length≤4611686018427387:=by have:=h.Args.1; omega
theorem w01:IntKind.i64.wrap (0 + 1)=1∧IntKind.i64.wrap (1 + 1)=2∧decide ((0:Int) < 2)=true∧decide ((1:Int) < 2)=true∧decide ((2:Int) < 2)=false∧(∀ (α:Type) (a b:α),(([a,b].length:Nat):Int)=2):=⟨by decide,by decide,by decide,by decide,by decide,fun _ _ _=>rfl⟩
theorem Zv3 (s:ZF):SizeOf.sizeOf s.E < SizeOf.sizeOf s∧SizeOf.sizeOf s.F < SizeOf.sizeOf s∧SizeOf.sizeOf s.Args < SizeOf.sizeOf s∧SizeOf.sizeOf s.Body < SizeOf.sizeOf s∧SizeOf.sizeOf s.Else < SizeOf.sizeOf s:=by
 cases s; simp; omega
theorem Z2p {s:ZF}{x:Zw}(h:x ∈ s.Args):SizeOf.sizeOf x < SizeOf.sizeOf s:=by
 have:=List.sizeOf_lt_of_mem h
 have:=(Zv3 s).2.2.1
 omega
def Zam (s:ZF):List Zw→Int→Int
 | [],e=>e
 | x :: r,e=>if decide (e=0)=true then Zam s r (Q8 false x) else e
def ZdA (s:ZF)(u:Hl):Int :=
 Zam s s.Args (if (decide ((if (decide ((if u.e=true then Q8 false s.E else 0)=0) && u.f)=true then Q8 false s.F else (if u.e=true then Q8 false s.E else 0))=0) && decide (6 < (s.Args.length:Int)))=true then 6
  else (if (decide ((if u.e=true then Q8 false s.E else 0)=0) && u.f)=true then Q8 false s.F else (if u.e=true then Q8 false s.E else 0)))
def Z1G (s:ZF):Int :=
 if (!(ZqM s))=true then 1
 else if (((Ry s.Op).1.name && decide (VS s.Name≠0)) || ((Ry s.Op).1.of && decide (VS s.Of≠0)))=true then 3
 else if (decide (ZdA s (Ry s.Op).1=0) && (Ry s.Op).1.dist)=true then Ztj s.Dist else ZdA s (Ry s.Op).1
theorem Zhc (s:ZF)(l:List Zw)(e:Int)(h:e≠0):Zam s l e=e:=by
 cases l <;> simp [Zam,h]
theorem Zgh (s:ZF)(u:Hl):∀ l:List Zw,(if (decide (Zam s l 0=0) && u.dist)=true then RJ s.Dist else Zam s l 0)=Zfs s u l
 | []=>by simp [Zam,Zfs]
 | x :: r=>by
  by_cases h:Q8 false x=0
  ·simp only [Zam,Zfs,h,decide_true,if_true,ne_eq,not_true_eq_false,decide_false,Bool.false_eq_true,if_false]
   exact Zgh s u r
  ·simp [Zam,Zfs,h,Zhc]
def ZoU (s:ZF):Int:=if (!(Ry s.Op).2 || !(Zll s (Ry s.Op).1))=true then 1 else ZjI s (Ry s.Op).1
theorem ZxD (lo hi a:Int):Qp lo hi [a]=btw a lo hi:=by
 simp only [Qp,List.any_cons,List.any_nil,Zvs,btw,Bool.or_false,Bool.not_or,← decide_not,Int.not_lt]
theorem ZxE (lo hi a b:Int):Qp lo hi [a,b]=(btw a lo hi && btw b lo hi):=by
 simp only [Qp,List.any_cons,List.any_nil,Zvs,btw,Bool.or_false,Bool.not_or,← decide_not,Int.not_lt]
theorem ZxF (lo hi a:Int)(l:List Int):Qp lo hi (a :: l)=(btw a lo hi && Qp lo hi l):=by
 simp only [Qp,List.any_cons,Zvs,btw,Bool.not_or,← decide_not,Int.not_lt]
theorem Zv7:∀ (l m:List Int),l.length=m.length→Zv6 l m=if (!(Qp 0 1000000000 l && Qp 1 1000 m))=true then 2 else 0
 | [],[],_=>by simp [Zv6,Qp]
 | [],y :: m,h=>by simp at h
 | x :: l,[],h=>by simp at h
 | x :: l,y :: m,h=>by
  have ih:=Zv7 l m (by simpa using h)
  simp only [Zv6,ZxF,ih]
  generalize Qp 0 1000000000 l=c1
  generalize Qp 1 1000 m=c2
  cases btw x 0 1000000000 <;> cases btw y 1 1000 <;> cases c1 <;> cases c2 <;> rfl
theorem Z1w (a b:Nat):decide ((a:Int) + (b:Int)=0)=(decide ((a:Int)=0) && decide ((b:Int)=0)):=by
 rw [← Bool.decide_and]; congr 1; apply propext; omega
theorem Zs8 (d:Wj):Zfe d=Aa d:=by
 simp only [Zfe,Aa,Z1w]
 by_cases h1:d.Op=1
 ·simp [h1]; ac_rfl
 by_cases h2:d.Op=2
 ·simp [h2,Bool.and_comm]
 by_cases h5:d.Op=5
 ·simp [h5,Bool.and_comm]
 by_cases h3:d.Op=3
 ·simp [h3]
 by_cases h4:d.Op=4
 ·simp [h4]
 simp [h1,h2,h3,h4,h5]
theorem Zht (d:Wj):Ztj d=RJ d:=by
 simp only [Ztj,RJ,Zs8,ZxD,ZxE,Zop]
 by_cases hu:Aa d=true
 ·simp only [hu]
  by_cases h1:d.Op=1
  ·simp [h1]
  by_cases h2:d.Op=2
  ·simp only [h2,btw]; simp; grind
  by_cases h3:d.Op=3
  ·simp only [h3]
   by_cases hl:d.Values.length=d.Weights.length
   ·rw [Zv7 _ _ hl]; simp
   ·have:¬ ((d.Values.length:Int)=d.Weights.length):=by omega
    simp [this]
  by_cases h4:d.Op=4
  ·simp only [h4,btw]; simp; grind
  by_cases h5:d.Op=5
  ·simp [h5]
  ·exfalso
   simp [Aa,h1,h2,h3,h4,h5] at hu
 ·simp [hu]
theorem ZwQ (s:ZF):Z1G s=ZoU s:=by
 have n1:=Zj3 s.Name
 have n2:=Zj3 s.Of
 unfold Z1G ZoU ZjI
 rw [Ztt,Zht]
 generalize Ry s.Op=w
 obtain ⟨u,b⟩:=w
 simp only
 have key:(if (decide (ZdA s u=0) && u.dist)=true then RJ s.Dist else ZdA s u)=ZnY s u:=by
  have ha:=Zgh s u s.Args
  unfold ZdA ZnY ZnZ ZnX
  rcases Bool.eq_false_or_eq_true u.e with h1 | h1 <;> rcases Bool.eq_false_or_eq_true u.f with h3 | h3 <;> rcases Bool.eq_false_or_eq_true (decide (6 < (s.Args.length:Int))) with h5 | h5 <;> by_cases h2:Q8 false s.E=0 <;> by_cases h4:Q8 false s.F=0 <;>
   simp only [h1,h2,h3,h4,h5,ne_eq,not_true_eq_false,not_false_eq_true,decide_true,decide_false,BL,IFJ,Zhc,Bool.false_eq_true,if_true,if_false] <;> first | exact ha | (simp [Zhc,h2,h4]; done) | rfl
 rw [key]
 rcases n1 with h1 | h1 <;> rcases n2 with h2 | h2 <;> cases b <;> cases Zll s u <;> cases u.name <;> cases u.of <;> simp [h1,h2]
mutual
def ZuV:ZF→Int
 | ⟨_,_,_,_,_,_,_,_,b,e⟩=>IntKind.i64.wrap (OO b (b.length:Int) + OO e (e.length:Int))
def OO:List ZF→Int→Int
 | [],n=>n
 | x :: r,n=>OO r (IntKind.i64.wrap (n + ZuV x))
end
theorem ZvW (s:ZF):ZuV s=IntKind.i64.wrap (OO s.Body (s.Body.length:Int) + OO s.Else (s.Else.length:Int)):=by cases s; rw [ZuV]
mutual
def ZxJ:ZF→Int→Int
 | ⟨_,_,_,_,_,_,_,_,b,e⟩,n=>IntKind.i64.wrap (IntKind.i64.wrap (IntKind.i64.wrap (n + 1) + Hz b 0) + Hz e 0)
def Hz:List ZF→Int→Int
 | [],n=>n
 | x :: r,n=>Hz r (ZxJ x n)
end
theorem Zq4 (s:ZF)(n:Int):ZxJ s n=IntKind.i64.wrap (IntKind.i64.wrap (IntKind.i64.wrap (n + 1) + Hz s.Body 0) + Hz s.Else 0):=by cases s; rw [ZxJ]
def mx3 (a b c:Int):Int:=if c > (if b > a then b else a) then c else (if b > a then b else a)
mutual
def Z0T:ZF→Int→Int
 | ⟨_,_,_,_,_,_,_,_,b,e⟩,n=>mx3 n (IntKind.i64.wrap (1 + SN b 0)) (IntKind.i64.wrap (1 + SN e 0))
def SN:List ZF→Int→Int
 | [],n=>n
 | x :: r,n=>SN r (Z0T x n)
end
theorem Zq9 (s:ZF)(n:Int):Z0T s n=mx3 n (IntKind.i64.wrap (1 + SN s.Body 0)) (IntKind.i64.wrap (1 + SN s.Else 0)):=by cases s; rw [Z0T]
mutual
def Z0w:ZF→Int
 | ⟨a,b,c,d,e,f,g,h,i,j⟩=>if decide (ZoU ⟨a,b,c,d,e,f,g,h,i,j⟩≠0)=true then ZoU ⟨a,b,c,d,e,f,g,h,i,j⟩ else if decide (VD i≠0)=true then VD i else VD j
def VD:List ZF→Int
 | []=>0
 | x :: r=>if decide (Z0w x≠0)=true then Z0w x else VD r
end
theorem Zq3 (s:ZF):Z0w s=if decide (ZoU s≠0)=true then ZoU s else if decide (VD s.Body≠0)=true then VD s.Body else VD s.Else:=by cases s; rw [Z0w]
theorem ZvT (b:Bool)(p B E R:Int):(if b=true then 1 else if decide (p≠0)=true then p else if decide (B≠0)=true then B else if decide (E≠0)=true then E else R) =
  if decide ((if decide ((if b=true then 1 else p)≠0)=true then (if b=true then 1 else p) else if decide (B≠0)=true then B else E)≠0)=true then (if decide ((if b=true then 1 else p)≠0)=true then (if b=true then 1 else p) else if decide (B≠0)=true then B else E) else R:=by
 cases b <;> by_cases h1:p=0 <;> by_cases h2:B=0 <;> by_cases h3:E=0 <;> simp [h1,h2,h3]
theorem ZvU (p B E R:Int):(if decide (p=0)=true then (if decide (B=0)=true then (if decide (E≠0)=true then E else R) else if decide (B≠0)=true then B else R) else if decide (p≠0)=true then p else R) =
  if decide ((if decide (p≠0)=true then p else if decide (B≠0)=true then B else E)≠0)=true then (if decide (p≠0)=true then p else if decide (B≠0)=true then B else E) else R:=by
 by_cases h1:p=0 <;> by_cases h2:B=0 <;> by_cases h3:E=0 <;> simp [h1,h2,h3]
theorem ZxX {s:ZF}{l:List ZF}(h:s ∈ l):SizeOf.sizeOf s < SizeOf.sizeOf l∧SizeOf.sizeOf s.Body < SizeOf.sizeOf l∧SizeOf.sizeOf s.Else < SizeOf.sizeOf l:=by
 have:=List.sizeOf_lt_of_mem h
 have:=Zv3 s
 omega
def ZkS (l:List ZF):Prop:=l.length≤4611686018427387∧∀ s ∈ l,YH s
theorem YH.b {s:ZF}(h:YH s):ZkS s.Body∧ZkS s.Else:=by
 have h1:=h.Body; have h2:=h.Else
 exact ⟨⟨by omega,h1.2⟩,by omega,h2.2⟩
theorem ZxY (l:List ZF):0 < SizeOf.sizeOf l:=by cases l <;> simp <;> omega
def Zb0 (l:List ZF):Int:=if decide (200 < OO l (l.length:Int))=true then 6 else if decide (12 < SN l 0)=true then 11 else VD l
def Zle (l:List ZF):Int:=if decide (200 < Hz l 0)=true then 6 else if decide (12 < SN l 0)=true then 11 else VD l
theorem wrK (n:Int):∃ k:Int,IntKind.i64.wrap n=n + 18446744073709551616 * k:=by
 rw [IntKind.wrap_i64]
 exact ⟨-((n + 9223372036854775808) / 18446744073709551616),by omega⟩
theorem wrR (n:Int):-9223372036854775808≤IntKind.i64.wrap n∧IntKind.i64.wrap n≤9223372036854775807:=by
 rw [IntKind.wrap_i64]
 constructor <;> omega
mutual
def trS:ZF→Int
 | ⟨_,_,_,_,_,_,_,_,b,e⟩=>ZuK b + ZuK e
def ZuK:List ZF→Int
 | []=>0
 | x :: r=>1 + trS x + ZuK r
end
mutual
theorem trR:∀ (s:ZF) (n:Int),∃ k:Int,ZxJ s n=n + 1 + trS s + 18446744073709551616 * k
 | ⟨_,_,_,_,_,_,_,_,b,e⟩,n=>by
  rw [ZxJ,trS]
  obtain ⟨k1,h1⟩:=Z09 b 0
  obtain ⟨k2,h2⟩:=Z09 e 0
  obtain ⟨k3,h3⟩:=wrK (n + 1)
  obtain ⟨k4,h4⟩:=wrK (IntKind.i64.wrap (n + 1) + Hz b 0)
  obtain ⟨k5,h5⟩:=wrK (IntKind.i64.wrap (IntKind.i64.wrap (n + 1) + Hz b 0) + Hz e 0)
  exact ⟨k1 + k2 + k3 + k4 + k5,by omega⟩
theorem Z09:∀ (l:List ZF) (n:Int),∃ k:Int,Hz l n=n + ZuK l + 18446744073709551616 * k
 | [],n=>⟨0,by rw [Hz,ZuK]; omega⟩
 | x :: r,n=>by
  rw [Hz,ZuK]
  obtain ⟨k1,h1⟩:=trR x n
  obtain ⟨k2,h2⟩:=Z09 r (ZxJ x n)
  exact ⟨k1 + k2,by omega⟩
end
mutual
theorem trP:∀ (s:ZF),∃ k:Int,ZuV s=trS s + 18446744073709551616 * k
 | ⟨_,_,_,_,_,_,_,_,b,e⟩=>by
  rw [ZuV,trS]
  obtain ⟨k1,h1⟩:=Z08 b b.length
  obtain ⟨k2,h2⟩:=Z08 e e.length
  obtain ⟨k3,h3⟩:=wrK (OO b (b.length:Int) + OO e (e.length:Int))
  exact ⟨k1 + k2 + k3,by omega⟩
theorem Z08:∀ (l:List ZF) (n:Int),∃ k:Int,OO l n=n - l.length + ZuK l + 18446744073709551616 * k
 | [],n=>⟨0,by rw [OO,ZuK]; simp⟩
 | x :: r,n=>by
  rw [OO,ZuK]
  obtain ⟨k1,h1⟩:=trP x
  obtain ⟨k3,h3⟩:=wrK (n + ZuV x)
  obtain ⟨k2,h2⟩:=Z08 r (IntKind.i64.wrap (n + ZuV x))
  refine ⟨k1 + k2 + k3,?_⟩
  simp only [List.length_cons]
  omega
end
theorem rgR:∀ (l:List ZF) (n:Int),-9223372036854775808≤n→n≤9223372036854775807→-9223372036854775808≤Hz l n∧Hz l n≤9223372036854775807
 | [],n,h1,h2=>by rw [Hz]; exact ⟨h1,h2⟩
 | x :: r,n,_,_=>by
  have h:=wrR (IntKind.i64.wrap (IntKind.i64.wrap (n + 1) + Hz x.Body 0) + Hz x.Else 0)
  rw [← Zq4] at h
  rw [Hz]
  exact rgR r _ h.1 h.2
theorem rgP:∀ (l:List ZF) (n:Int),-9223372036854775808≤n→n≤9223372036854775807→-9223372036854775808≤OO l n∧OO l n≤9223372036854775807
 | [],n,h1,h2=>by rw [OO]; exact ⟨h1,h2⟩
 | x :: r,n,_,_=>by
  have h:=wrR (n + ZuV x)
  rw [OO]
  exact rgP r _ h.1 h.2
theorem Zyq (l:List ZF)(hl:l.length≤4611686018427387):Hz l 0=OO l (l.length:Int):=by
 obtain ⟨k1,h1⟩:=Z09 l 0
 obtain ⟨k2,h2⟩:=Z08 l l.length
 have r1:=rgR l 0 (by omega) (by omega)
 have r2:=rgP l l.length (by omega) (by omega)
 omega
theorem ZoE (l:List ZF)(hl:l.length≤4611686018427387):Zle l=Zb0 l:=by
 unfold Zle Zb0
 rw [Zyq l hl]
def Wl (a b:Int):Int:=if decide (a≠0)=true then a else b
def Y9 (b:Bool)(e:Int):Int:=if b=true then 0 else e
def fitsT (t n:Int):Bool:=if decide (t=1)=true then inB n else if decide (t=2)=true then (decide (n=0) || decide (n=1)) else if decide (t=3)=true then btw n 0 1000000000 else false
def ZkH (t:Int):Bool:=decide (t=1) || decide (t=2) || decide (t=3)
theorem Zoq (t:Int):ZkH t=btw t 1 3:=by
 simp only [ZkH,btw]
 by_cases h1:t=1
 ·simp [h1]
 by_cases h2:t=2
 ·simp [h2]
 by_cases h3:t=3
 ·simp [h3]
 simp only [h1,h2,h3,decide_false,Bool.or_false]
 by_cases h4:1≤t <;> by_cases h5:t≤3 <;> simp [h4,h5]
 omega
def ZsJ (cyc:Int):Option Int→List Ku→Int
 | _,[]=>0
 | p,c :: r=>if (!(btw c.At_ 0 (cyc - 1)) || !(btw c.Units 0 1000))=true then 2 else if (p.isSome && decide (c.At_≤p.getD 0))=true then 12 else ZsJ cyc (some c.At_) r
def ZsI (d:Z4):Int :=
 if decide ((d.Shift.length:Int)=0)=true then (if decide (d.Cycle≠0)=true then 1 else 0)
 else if decide (20 < (d.Shift.length:Int))=true then 6 else if (!(btw d.Cycle 1 1000000000))=true then 2 else ZsJ d.Cycle none d.Shift
theorem Wy.s {d:Z4}(h:Wy d):d.Shift.length≤4611686018427387:=by have:=h.Shift.1; omega
theorem ZL.st {d:Ze}(h:ZL d):d.Streams.length≤4611686018427387∧d.Counts.length≤4611686018427387∧d.Stores.length≤4611686018427387∧d.Routines.length≤4611686018427387:=by
 have:=h.Streams.1; have:=h.Counts.1; have:=h.Stores.1; have:=h.Routines.1; omega
def Znw (d:Ze)(f:RU):Int :=
 if (decide (f.Stream=[]) && (!(NZ f.Up) || !(NZ f.Down)))=true then 1 else if decide (f.Stream=[])=true then 0 else if (!(d.Streams.contains f.Stream))=true then 5 else if decide (RJ f.Up≠0)=true then RJ f.Up else RJ f.Down
def Z1Q (s:Ze)(d:Z4):Int :=
 if decide (Wl (Y9 (btw d.Units 0 1000) 2) (ZsI d)≠0)=true then Wl (Y9 (btw d.Units 0 1000) 2) (ZsI d)
 else if decide (d.Fault.Stream=[])=true then Y9 (NZ d.Fault.Up && NZ d.Fault.Down) 1
 else if (!(s.Streams.contains d.Fault.Stream))=true then 5 else Wl (RJ d.Fault.Up) (RJ d.Fault.Down)
def Zpz (s:Ze)(d:Z4):Int:=if (!(btw d.Units 0 1000))=true then 2 else if decide (ZsI d≠0)=true then ZsI d else Znw s d.Fault
theorem Zxy (s:Ze)(d:Z4):Z1Q s d=Zpz s d:=by
 unfold Z1Q Zpz Znw Wl Y9
 cases btw d.Units 0 1000 <;> by_cases h1:ZsI d=0 <;> by_cases h2:d.Fault.Stream=[] <;> cases NZ d.Fault.Up <;> cases NZ d.Fault.Down <;> cases s.Streams.contains d.Fault.Stream <;> simp [h1,h2]
def ZfN (t:OB)(found:Bool):Int:=if (!found)=true then 5 else if (!(btw t.Coef (-1000) 1000) || decide (t.Coef=0))=true then 2 else 0
def ZfM (d:Ze)(t:OB):Int:=if decide (t.What=[99,114,101,97,116,101,100])=true then ZfN t ((d.Routines.map (·.Name)).contains t.Name) else if decide (t.What=[101,110,100,101,100])=true then ZfN t ((d.Routines.map (·.Name)).contains t.Name) else if decide (t.What=[105,110,115,105,100,101])=true then ZfN t ((d.Routines.map (·.Name)).contains t.Name) else if decide (t.What=[115,116,111,114,101,100])=true then ZfN t ((d.Stores.map (·.Name)).contains t.Name) else if decide (t.What=[101,110,116,101,114,101,100])=true then ZfN t ((d.Stores.map (·.Name)).contains t.Name) else if decide (t.What=[108,101,102,116])=true then ZfN t ((d.Stores.map (·.Name)).contains t.Name) else if decide (t.What=[99,111,117,110,116,101,100])=true then ZfN t (d.Counts.contains t.Name) else 1
def ZbL (s:XB):Int:=if (!(btw s.At_ 0 1000000000) || !(btw s.Every 0 1000000000) || !(btw s.Until 0 1000000000) || (decide (s.Every=0) && decide (s.Until≠0)))=true then 2 else 0
def ZmX (s:XB):Int:=Y9 (btw s.At_ 0 1000000000 && btw s.Every 0 1000000000 && btw s.Until 0 1000000000 && (decide (s.Every≠0) || decide (s.Until=0))) 2
theorem Zs3 (s:XB):ZmX s=ZbL s:=by
 unfold ZbL ZmX Y9
 cases btw s.At_ 0 1000000000 <;> cases btw s.Every 0 1000000000 <;> cases btw s.Until 0 1000000000 <;> by_cases h1:s.Every=0 <;> by_cases h2:s.Until=0 <;> simp [h1,h2]
def RH (tl:Int):List WL→List Int→Int
 | p :: ps,a :: ys=>if (!(fitsT p.Ty a))=true then 2 else RH tl ps ys
 | _,_=>tl
def Jj (d:Ze)(s:XB):Int :=
 match d.Routines.find? (fun r=>decide (r.Name=s.Routine)) with
 | none=>5
 | some r=>if decide ((s.Args.length:Int)≠(r.Params.length:Int))=true then 8 else RH (ZbL s) r.Params s.Args
theorem Sj.a {s:XB}(h:Sj s):s.Args.length≤4611686018427387:=by have:=h.Args.1; omega
theorem OA.p {r:ZX}(h:OA r):r.Params.length≤4611686018427387∧r.Locals.length≤4611686018427387∧ZkS r.Body:=by
 have:=h.Params.1; have:=h.Locals.1; have:=h.Body
 exact ⟨by omega,by omega,by omega,this.2⟩
abbrev Seen:=List (List UInt8)
def YD (s:List UInt8)(seen:Seen):Int×Seen:=if decide (VS s≠0)=true then (VS s,seen) else if seen.contains s=true then (4,seen) else (0,seen ++ [s])
def Y2 (s:List UInt8)(rest:Int)(seen:Seen):Int×Seen:=if decide ((YD s seen).1≠0)=true then YD s seen else (rest,(YD s seen).2)
def Rz (v:Je):Int:=if (!(btw v.Ty 1 3))=true then 1 else if (!(fitsT v.Ty v.N))=true then 2 else 0
def Rt (x:Y0):Int:=if (!(btw x.Room 1 1000))=true then 2 else if (decide (x.Policy < 1) || decide (3 < x.Policy))=true then 1 else 0
def Zcf (x:Wn):Int:=if (!(btw x.Length 1 1000) || !(btw x.Step 1 1000))=true then 2 else 0
def Xr {α σ:Type}(most:Int)(step:α→σ→Int×σ)(l:List α)(s:σ):Int×σ:=if decide (most < (l.length:Int))=true then (6,s) else YQ step l s
def SQ {α:Type}(most:Int)(f:α→Int)(l:List α):Int:=if decide (most < (l.length:Int))=true then 6 else Yl f l
def ZdB (f:WL):Int:=if (!(btw f.Ty 1 3))=true then 1 else 0
def ZqH (l:List WL)(s:Seen):Int×Seen:=YQ (fun f:WL=>Y2 f.Name (ZdB f)) l s
def XJ (r:ZX):Int :=
 if (decide (6 < (r.Params.length:Int)) || decide (16 < (r.Params.length:Int) + (r.Locals.length:Int)))=true then 6
 else if decide ((ZqH (r.Params ++ r.Locals) []).1≠0)=true then (ZqH (r.Params ++ r.Locals) []).1 else Zb0 r.Body
def ZsD (d:Ze)(l:Zfn):Int :=
 if decide ((l.Terms.length:Int)=0)=true then 7 else if decide (SQ 8 (ZfM d) l.Terms≠0)=true then SQ 8 (ZfM d) l.Terms else if (!(inB l.Total))=true then 2 else 0
theorem ZpT.t {l:Zfn}(h:ZpT l):l.Terms.length≤4611686018427387:=by have:=h.Terms.1; omega
def PM (d:Ze):Int:=(Xr 32 (fun l:Zfn=>Y2 l.Name (ZsD d l)) d.Laws []).1
abbrev Step:=Seen→Int×Seen
def ZeA (d:Ze):List Step:=[Xr 32 (fun v:Je=>Y2 v.Name (Rz v)) d.Vars,Xr 32 (fun v:Z4=>Y2 v.Name (Zpz d v)) d.Resources,Xr 32 (fun v:Y0=>Y2 v.Name (Rt v)) d.Stores,Xr 32 (fun v:Wn=>Y2 v.Name (Zcf v)) d.Belts,Xr 32 YD d.Queues,Xr 32 YD d.Streams,Xr 32 YD d.Tallies,Xr 32 YD d.Levels,Xr 32 YD d.Counts,
 Xr 16 (fun v:ZX=>Y2 v.Name (XJ v)) d.Routines,fun s=>(SQ 32 (Jj d) d.Starts,s),fun s=>(PM d,s)]
def Zi3 (d:Ze):Int:=(Py (ZeA d) []).1
theorem ZpU.l {m:Xj}(h:ZpU m):m.Params.length≤4611686018427387∧m.Sites.length≤4611686018427387∧m.Links.length≤4611686018427387:=by
 have:=h.Params.1; have:=h.Sites.1; have:=h.Links.1; omega
def Zb4 (s:List UInt8)(seen:Seen):Int:=Wl (VS s) (Y9 (!(seen.contains s)) 4)
theorem Zfg (s:List UInt8)(rest:Int)(seen:Seen):(Y2 s rest seen).1=Wl (Zb4 s seen) rest:=by
 by_cases h1:VS s=0 <;> rcases Bool.eq_false_or_eq_true (seen.contains s) with h2 | h2 <;> simp only [Y2,YD,Zb4,Wl,Y9,h1,h2] <;> simp [h1]
theorem ZxC {s:List UInt8}{rest:Int}{seen:Seen}(h:Wl (Zb4 s seen) rest=0):(Y2 s rest seen)=(0,seen ++ [s]):=by
 by_cases h1:VS s=0 <;> rcases Bool.eq_false_or_eq_true (seen.contains s) with h2 | h2 <;> simp only [Zb4,Wl,Y9,h1,h2] at h <;> simp [h1] at h
 simp only [Y2,YD,h1,h2]
 simp [h]
theorem Zyz (f:WL):Y9 (ZkH f.Ty) 1=ZdB f:=by
 rw [Zoq]; unfold Y9 ZdB; cases btw f.Ty 1 3 <;> rfl
def X9 (d:Ze):List (Int×List (List UInt8×Int)):=[(32,d.Vars.map fun v=>(v.Name,Rz v)),(32,d.Resources.map fun v=>(v.Name,Zpz d v)),(32,d.Stores.map fun v=>(v.Name,Rt v)),(32,d.Belts.map fun v=>(v.Name,Zcf v)),(32,d.Queues.map fun v=>(v,0)),(32,d.Streams.map fun v=>(v,0)),(32,d.Tallies.map fun v=>(v,0)),(32,d.Levels.map fun v=>(v,0)),(32,d.Counts.map fun v=>(v,0)),(16,d.Routines.map fun v=>(v.Name,XJ v))]
theorem Z0o (x:Y0):Wl (Y9 (btw x.Room 1 1000) 2) (Y9 (decide (1≤x.Policy) && decide (x.Policy≤3)) 1)=Rt x:=by
 unfold Wl Y9 Rt
 have e:(decide (x.Policy < 1) || decide (3 < x.Policy))=!(decide (1≤x.Policy) && decide (x.Policy≤3)):=by
  have a1:decide (x.Policy < 1)=!decide (1≤x.Policy):=by rw [← decide_not]; congr 1; apply propext; omega
  have a2:decide (3 < x.Policy)=!decide (x.Policy≤3):=by rw [← decide_not]; congr 1; apply propext; omega
  rw [Bool.not_and,a1,a2]
 rw [e]
 cases btw x.Room 1 1000 <;> cases (decide (1≤x.Policy) && decide (x.Policy≤3)) <;> simp
theorem Z0N (x:Wn):Y9 (btw x.Length 1 1000 && btw x.Step 1 1000) 2=Zcf x:=by
 unfold Y9 Zcf; cases btw x.Length 1 1000 <;> cases btw x.Step 1 1000 <;> rfl
theorem valueR (v:Je):Wl (Y9 (ZkH v.Ty) 1) (Y9 (fitsT v.Ty v.N) 2)=Rz v:=by
 rw [Zoq]; unfold Wl Y9 Rz; cases btw v.Ty 1 3 <;> cases fitsT v.Ty v.N <;> rfl
theorem O5 {α β:Type}{f:α→β}{l:List α}{i:Nat}{y:β}(h:(l.map f)[i]? = some y):∃ x,l[i]? = some x∧f x=y:=by
 rw [List.getElem?_map] at h
 exact Option.map_eq_some_iff.1 h
theorem kd (k:Nat):(∀ j:Nat,k=j→decide (((k:Nat):Int)=(j:Int))=true)∧(∀ j:Nat,k≠j→decide (((k:Nat):Int)=(j:Int))=false):=⟨fun j h=>by simp [h],fun j h=>by simp only [decide_eq_false_iff_not]; omega⟩
def Ip (q:List UInt8×Int):Seen→Int×Seen:=Y2 q.1 q.2
def stepD (p:Int×List (List UInt8×Int)):Seen→Int×Seen:=Xr p.1 Ip p.2
theorem ZkA {α β σ:Type}(f:α→β)(step:β→σ→Int×σ):∀ (l:List α) (s:σ),YQ step (l.map f) s=YQ (fun x=>step (f x)) l s
 | [],s=>rfl
 | x :: r,s=>by rw [List.map_cons,YQ,YQ,ZkA f step r]
theorem OQ {α β σ:Type}(f:α→β)(step:β→σ→Int×σ)(most:Int)(l:List α):Xr most step (l.map f)=Xr most (fun x=>step (f x)) l:=by
 funext s; unfold Xr; rw [ZkA,List.length_map]
def ZcG (d:Ze)(laws:Int):Int:=if decide (SQ 32 (Jj d) d.Starts≠0)=true then SQ 32 (Jj d) d.Starts else laws
def Z0n (d:Ze)(laws:Int):Int:=if decide ((Py ((X9 d).map stepD) []).1≠0)=true then (Py ((X9 d).map stepD) []).1 else ZcG d laws
theorem Zx4 (d:Ze):Zi3 d=Z0n d (PM d):=by
 have e:ZeA d=(X9 d).map stepD ++ [fun s=>(SQ 32 (Jj d) d.Starts,s),fun s=>(PM d,s)]:=by
  have f1:stepD (32,d.Vars.map fun v=>(v.Name,Rz v))=Xr 32 (fun v:Je=>Y2 v.Name (Rz v)) d.Vars:=OQ _ _ _ _
  have f2:stepD (32,d.Resources.map fun v=>(v.Name,Zpz d v))=Xr 32 (fun v:Z4=>Y2 v.Name (Zpz d v)) d.Resources:=OQ _ _ _ _
  have f3:stepD (32,d.Stores.map fun v=>(v.Name,Rt v))=Xr 32 (fun v:Y0=>Y2 v.Name (Rt v)) d.Stores:=OQ _ _ _ _
  have f4:stepD (32,d.Belts.map fun v=>(v.Name,Zcf v))=Xr 32 (fun v:Wn=>Y2 v.Name (Zcf v)) d.Belts:=OQ _ _ _ _
  have z:(fun v:List UInt8=>Ip (v,0))=YD:=by
   funext v s
   show Y2 v 0 s=YD v s
   unfold Y2
   by_cases h:(YD v s).1=0
   ·simp only [h,ne_eq,not_true_eq_false,decide_false,Bool.false_eq_true,if_false]; rw [← h]
   ·simp [h]
  have f5:∀ l:List (List UInt8),stepD (32,l.map fun v=>(v,0))=Xr 32 YD l:=fun l=>by rw [stepD,OQ,z]
  have f6:stepD (16,d.Routines.map fun v=>(v.Name,XJ v))=Xr 16 (fun v:ZX=>Y2 v.Name (XJ v)) d.Routines:=OQ _ _ _ _
  unfold ZeA X9
  simp only [List.map_cons,List.map_nil,f1,f2,f3,f4,f5,f6]
  rfl
 have ap:∀ (l:List (Seen→Int×Seen)) (s:Seen),(Py (l ++ [fun s=>(SQ 32 (Jj d) d.Starts,s),fun s=>(PM d,s)]) s).1=if decide ((Py l s).1≠0)=true then (Py l s).1 else ZcG d (PM d):=by
  intro l
  induction l with
  | nil =>
   intro s
   by_cases h:SQ 32 (Jj d) d.Starts=0 <;> by_cases h2:PM d=0 <;> simp [Py,ZcG,h,h2]
  | cons f r ih =>
   intro s
   rw [List.cons_append,Py,Py]
   by_cases h:(f s).1=0
   ·simp only [h,ne_eq,not_true_eq_false,decide_false,Bool.false_eq_true,if_false]
    exact ih _
   ·simp [h]
 rw [Zi3,e,ap]
 rfl
theorem ZoI (d:Ze):∀ (k:Nat) (p:Int×List (List UInt8×Int)),(X9 d)[k]? = some p→p.1=if k=9 then 16 else 32
 | 0,p,h=>by cases h; rfl
 | 1,p,h=>by cases h; rfl
 | 2,p,h=>by cases h; rfl
 | 3,p,h=>by cases h; rfl
 | 4,p,h=>by cases h; rfl
 | 5,p,h=>by cases h; rfl
 | 6,p,h=>by cases h; rfl
 | 7,p,h=>by cases h; rfl
 | 8,p,h=>by cases h; rfl
 | 9,p,h=>by cases h; rfl
 | k + 10,p,h=>by simp [X9] at h
theorem Zom:∀ (l:List (List UInt8×Int)) (s:Seen),(YQ Ip l s).2.length≤s.length + l.length
 | [],s=>by simp [YQ]
 | x :: r,s=>by
  have ih:=Zom r (Ip x s).2
  have h1:(Ip x s).2.length≤s.length + 1:=by
   unfold Ip Y2
   split
   ·unfold YD; split <;> (try split) <;> simp
   ·show (YD x.1 s).2.length≤_
    unfold YD; split <;> (try split) <;> simp
  rw [YQ]
  split
  ·simp; omega
  ·simp; omega
theorem ZsA {s:List UInt8}{rest:Int}{seen:Seen}(h:(Y2 s rest seen).1=0):(Y2 s rest seen).2=seen ++ [s]∧s ∉ seen∧rest=0:=by
 rw [Zfg] at h
 have w:=ZxC h
 refine ⟨by rw [w],?_,?_⟩
 ·intro hm
  have:seen.contains s=true:=by simpa using hm
  simp only [Zb4,this,Wl,Y9] at h
  by_cases h1:VS s=0 <;> simp [h1] at h
 ·by_cases h1:Zb4 s seen=0
  ·simpa [Wl,h1] using h
  ·simp [Wl,h1] at h
theorem Zs0:∀ (l:List (List UInt8×Int)) (s:Seen),(YQ Ip l s).1=0→(YQ Ip l s).2=s ++ l.map (·.1)∧(∀ q ∈ l.map (·.1),q ∉ s)∧(l.map (·.1)).Nodup∧∀ q ∈ l,q.2=0
 | [],s,_=>by simp [YQ]
 | x :: r,s,h=>by
  by_cases hz:(Ip x s).1=0
  ·obtain ⟨w1,w2,w3⟩:=ZsA (s := x.1) (rest := x.2) (seen := s) hz
   have e:YQ Ip (x :: r) s=YQ Ip r (s ++ [x.1]):=by
    have:(Ip x s).2=s ++ [x.1]:=w1
    simp [YQ,hz,this]
   rw [e] at h ⊢
   obtain ⟨i1,i2,i3,i4⟩:=Zs0 r _ h
   refine ⟨by rw [i1]; simp,?_,?_,?_⟩
   ·intro q hq
    rw [List.map_cons] at hq
    rcases List.mem_cons.1 hq with rfl | hq
    ·exact w2
    ·exact fun hm=>i2 q hq (by simp [hm])
   ·rw [List.map_cons,List.nodup_cons]
    exact ⟨fun hm=>i2 x.1 hm (by simp),i3⟩
   ·intro q hq
    rcases List.mem_cons.1 hq with rfl | hq
    ·exact w3
    ·exact i4 q hq
  ·have e:YQ Ip (x :: r) s=Ip x s:=by simp [YQ,hz]
   rw [e] at h; exact absurd h hz
def Zcm (p:Int×List (List UInt8×Int)):List (List UInt8):=p.2.map (·.1)
theorem Zv0:∀ (ds:List (Int×List (List UInt8×Int))) (s:Seen),(Py (ds.map stepD) s).1=0→ds.Pairwise (fun a b=>∀ x ∈ Zcm a,x ∉ Zcm b)∧(∀ p ∈ ds,(Zcm p).Nodup∧(∀ x ∈ Zcm p,x ∉ s)∧∀ q ∈ p.2,q.2=0)
 | [],s,_=>⟨List.Pairwise.nil,fun p h=>by cases h⟩
 | p :: r,s,h=>by
  by_cases hz:(stepD p s).1=0
  ·have e:Py ((p :: r).map stepD) s=Py (r.map stepD) (stepD p s).2:=by simp [Py,hz]
   rw [e] at h
   have hl:¬ p.1 < (p.2.length:Int):=fun hl=>by simp [stepD,Xr,hl] at hz
   have e2:stepD p s=YQ Ip p.2 s:=by simp [stepD,Xr,hl]
   rw [e2] at hz h
   obtain ⟨w1,w2,w3,w4⟩:=Zs0 p.2 s hz
   rw [w1] at h
   obtain ⟨i1,i2⟩:=Zv0 r _ h
   refine ⟨List.Pairwise.cons (fun b hb x hx hm=>(i2 b hb).2.1 x hm (by simp [Zcm] at hx ⊢; exact .inr hx)) i1,fun a ha=>?_⟩
   rcases List.mem_cons.1 ha with rfl | ha
   ·exact ⟨w3,w2,w4⟩
   ·exact ⟨(i2 a ha).1,fun x hx hm=>(i2 a ha).2.1 x hx (by simp [hm]),(i2 a ha).2.2⟩
  ·have e:Py ((p :: r).map stepD) s=stepD p s:=by simp [Py,hz]
   rw [e] at h; exact absurd h hz
def OT (nm:List UInt8):List (List UInt8×List (List UInt8))→List UInt8
 | []=>[]
 | (w,ns) :: r=>if ns.contains nm=true then w else OT nm r
theorem Zgt (nm:List UInt8):∀ l:List (List UInt8×List (List UInt8)),OT nm l=[]∨OT nm l ∈ l.map (·.1)
 | []=>.inl rfl
 | (w,ns) :: r=>by
  rw [OT]
  split
  ·right; simp
  ·rcases Zgt nm r with h | h
   ·exact .inl h
   ·right; rw [List.map_cons]; exact List.mem_cons_of_mem _ h
theorem Zgs (nm:List UInt8):∀ l:List (List UInt8×List (List UInt8)),l.Pairwise (fun a b=>∀ x ∈ a.2,x ∉ b.2)→(l.map (·.1)).Nodup→[] ∉ l.map (·.1)→∀ p ∈ l,(OT nm l=p.1↔nm ∈ p.2)
 | [],_,_,_,p,h=>by cases h
 | (w,ns) :: r,hp,hn,he,p,h=>by
  rw [List.pairwise_cons] at hp
  rw [List.map_cons,List.nodup_cons] at hn
  rw [List.map_cons,List.mem_cons,not_or] at he
  rw [OT]
  by_cases hc:nm ∈ ns
  ·rw [if_pos (by simpa using hc)]
   rcases List.mem_cons.1 h with rfl | h
   ·simp [hc]
   ·refine ⟨fun e=>absurd (List.mem_map_of_mem (f := (·.1)) h) (by show p.1 ∉ _; rw [← e]; exact hn.1),fun hm=>absurd hm (hp.1 p h nm hc)⟩
  ·rw [if_neg (by simpa using hc)]
   rcases List.mem_cons.1 h with rfl | h
   ·refine ⟨fun e=>?_,fun hm=>absurd hm hc⟩
    rcases Zgt nm r with h1 | h1
    ·rw [h1] at e; exact absurd e he.1
    ·rw [e] at h1; exact absurd h1 hn.1
   ·exact Zgs nm r hp.2 hn.2 he.2 p h
def VF (d:Ze):List (List UInt8×List (List UInt8)):=[([118,97,114],d.Vars.map (·.Name)),([114,101,115,111,117,114,99,101],d.Resources.map (·.Name)),([115,116,111,114,101],d.Stores.map (·.Name)),([98,101,108,116],d.Belts.map (·.Name)),([113,117,101,117,101],d.Queues),([115,116,114,101,97,109],d.Streams),([116,97,108,108,121],d.Tallies),([108,101,118,101,108],d.Levels),([99,111,117,110,116],d.Counts),([114,111,117,116,105,110,101],d.Routines.map (·.Name))]
theorem ZnB (d:Ze):(VF d).map (·.2)=(X9 d).map Zcm:=by
 simp [VF,X9,Zcm,Function.comp_def]
end Go.Proofs.YtgjcjbhhhlelnaaGreatDoor
end
