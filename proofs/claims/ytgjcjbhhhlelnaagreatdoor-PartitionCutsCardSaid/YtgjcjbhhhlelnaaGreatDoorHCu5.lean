import Derived.Test.YtgjcjbhhhlelnaaGreatDoorHCu4
set_option linter.all false
section
namespace Go.Proofs.YtgjcjbhhhlelnaaGreatDoor
open Go Go.Proofs.YtgjcjbhhhlelnaaGreatDoor.Abs
set_option maxRecDepth 100000
def Zu3 (n:Int):Bool:=decide (97≤n) && decide (n≤122)
def ZgD (n:Int):Bool:=Zu3 n || decide (n=95) || (decide (48≤n) && decide (n≤57))
def kws:List (List UInt8):=[[97,100,100],[97,102,116,101,114],[97,110,100],[97,116],[98,101,108,116],[98,111,111,108],[99,111,110,115,101,114,118,101],[99,111,110,115,116],[99,111,117,110,116],[99,121,99,108,101],[100,111,119,110],[100,114,97,119],[100,117,114],[101,108,115,101],[101,110,100],[101,118,101,114,121],[102,97,108,115,101],[102,97,117,108,116],[102,105,102,111],[102,114,101,101],[102,114,111,109],[103,101,111,109],[103,101,116],[104,111,108,100],[105,102],[105,110,116],[105,110,116,111],[108,101,97,115,116],[108,101,118,101,108],[108,105,102,111],[108,105,110,107],[108,111,99,97,108],[109,97,120],[109,105,110],[109,111,100,101,108],[110,111,116],[110,111,119],[111,98,115,101,114,118,101],[111,114],[112,97,114,97,109],[112,114,101,101,109,112,116],[112,114,105,111],[112,117,116],[113,117,101,117,101],[114,101,108,101,97,115,101],[114,101,115,111,117,114,99,101],[114,105,100,101],[114,111,117,116,105,110,101],[115,101,105,122,101],[115,101,110,100],[115,101,116],[115,104,105,102,116],[115,105,103,110,97,108],[115,105,116,101],[115,105,122,101],[115,112,97,119,110],[115,116,97,114,116],[115,116,111,112],[115,116,111,114,101],[115,116,114,101,97,109],[115,117,109],[116,97,98,108,101],[116,97,108,108,121],[116,105,99,107,115],[116,105,109,101],[116,114,117,101],[117,110,105,102,111,114,109],[117,110,116,105,108],[117,112],[118,97,114],[119,97,105,116],[119,97,105,116,105,110,103],[119,104,105,108,101]]
def kwB (s:List UInt8):Bool:=kws.any fun k=>decide (s=k)
def VE (s:List UInt8):Int :=
 match s with
 | []=>3
 | c :: r=>if 24 < (c :: r).length∨Zu3 c.toNat=false∨kwB (c :: r)=true then 3 else if (c :: r).all (fun x=>ZgD x.toNat) then 0 else 3
def inB (n:Int):Bool:=decide (-1000000000000≤n) && decide (n≤1000000000000)
theorem ZiU (s:List UInt8):VE s=0∨VE s=3:=by
 unfold VE
 split
 ·exact .inr rfl
 ·split
  ·exact .inr rfl
  ·split
   ·exact .inl rfl
   ·exact .inr rfl
def YO {α σ:Type}(step:α→σ→Int×σ):List α→σ→Int×σ
 | [],s=>(0,s)
 | x :: r,s=>if decide ((step x s).1≠0)=true then step x s else YO step r (step x s).2
def D6 {σ:Type}:List (σ→Int×σ)→σ→Int×σ
 | [],s=>(0,s)
 | f :: r,s=>if decide ((f s).1≠0)=true then f s else D6 r (f s).2
theorem Z1e {n:Int}(h1:-9223372036854775808≤n)(h2:n≤9223372036854775807):IntKind.i64.wrap n=n:=i64_in h1 h2
def ZpS (a b:We):Bool:=decide (a.Op=b.Op) && decide (a.A=b.A) && decide (a.B=b.B) && decide (a.N=b.N) && decide (a.Values=b.Values) && decide (a.Weights=b.Weights)
def btw (x lo hi:Int):Bool:=decide (lo≤x) && decide (x≤hi)
def Ei (d:We):Bool :=
 if decide (d.Op=1)=true then decide ((d.Values.length:Int) + d.Weights.length=0) && decide (d.B=0) && decide (d.N=0)
 else if decide (d.Op=2)=true then decide ((d.Values.length:Int) + d.Weights.length=0) && decide (d.N=0)
 else if decide (d.Op=5)=true then decide ((d.Values.length:Int) + d.Weights.length=0) && decide (d.N=0)
 else if decide (d.Op=4)=true then decide ((d.Values.length:Int) + d.Weights.length=0)
 else if decide (d.Op=3)=true then decide (d.A=0) && decide (d.B=0) && decide (d.N=0)
 else false
theorem JH.v {d:We}(h:JH d):d.Values.length≤4611686018427387:=by have:=h.Values.1; omega
theorem JH.w {d:We}(h:JH d):d.Weights.length≤4611686018427387:=by have:=h.Weights.1; omega
theorem JH.wr {d:We}(h:JH d):IntKind.i64.wrap ((d.Values.length:Int) + (d.Weights.length:Int))=(d.Values.length:Int) + (d.Weights.length:Int):=by
 have:=h.v; have:=h.w; exact Z1e (by omega) (by omega)
def Ze6 (d:We):Bool :=
 if decide (d.Op=1)=true then decide (d.B=0) && decide (d.N=0) && (decide ((d.Values.length:Int)=0) && decide ((d.Weights.length:Int)=0))
 else if decide (d.Op=2)=true then decide (d.N=0) && (decide ((d.Values.length:Int)=0) && decide ((d.Weights.length:Int)=0))
 else if decide (d.Op=5)=true then decide (d.N=0) && (decide ((d.Values.length:Int)=0) && decide ((d.Weights.length:Int)=0))
 else if decide (d.Op=3)=true then decide (d.A=0) && decide (d.B=0) && decide (d.N=0)
 else if decide (d.Op=4)=true then (decide ((d.Values.length:Int)=0) && decide ((d.Weights.length:Int)=0))
 else false
def ZuC (lo hi:Int)(x:Int):Bool:=decide (x < lo) || decide (hi < x)
def GU {α:Type}(f:α→Bool):List α→Int→Int
 | [],_=>-1
 | x :: r,i=>if f x=true then i else GU f r (i + 1)
theorem CJ {α:Type}(f:α→Bool):∀ (l:List α) (i:Int),0≤i→decide (0≤GU f l i)=l.any f
 | [],i,h=>by simp [GU]
 | x :: r,i,h=>by
  have ih:=CJ f r (i + 1) (by omega)
  cases hx:f x <;> simp [GU,hx,h]
  simpa using ih
def Qh (lo hi:Int)(l:List Int):Bool:=!(l.any (ZuC lo hi))
def LQ (d:We):Int :=
 if (!(Ei d))=true then 1
 else if decide (d.Op=1)=true then (if (!(Qh 0 1000000000 [d.A]))=true then 2 else 0)
 else if decide (d.Op=2)=true then (if (!(Qh 0 1000000000 [d.A,d.B] && decide (d.A≤d.B)))=true then 2 else 0)
 else if decide (d.Op=4)=true then (if (!(Qh 1 20 [d.N] && Qh 0 1000000 [d.A,d.B] && decide (d.A≤d.B)))=true then 2 else 0)
 else if decide (d.Op=5)=true then (if (!(Qh 1 1000 [d.A,d.B]))=true then 2 else 0)
 else if decide (d.Op=3)=true then
  (if decide ((d.Values.length:Int)≠(d.Weights.length:Int))=true then 8 else if decide ((d.Values.length:Int)=0)=true then 7 else if decide (20 < (d.Values.length:Int))=true then 6
   else if (!(Qh 0 1000000000 d.Values && Qh 1 1000 d.Weights))=true then 2 else 0)
 else 2
def ZuP:List Int→List Int→Int
 | x :: r,y :: s=>if (!(btw x 0 1000000000) || !(btw y 1 1000))=true then 2 else ZuP r s
 | _,_=>0
def ZnA (d:We):Int :=
 if decide ((d.Values.length:Int)≠(d.Weights.length:Int))=true then 8 else if decide ((d.Values.length:Int)=0)=true then 7 else if decide (20 < (d.Values.length:Int))=true then 6 else ZuP d.Values d.Weights
def Zs2 (d:We):Int :=
 if (!(Ze6 d))=true then 1
 else if decide (d.Op=1)=true then (if (!(btw d.A 0 1000000000))=true then 2 else 0)
 else if decide (d.Op=2)=true then (if (!(btw d.A 0 d.B && decide (d.B≤1000000000)))=true then 2 else 0)
 else if decide (d.Op=3)=true then ZnA d
 else if decide (d.Op=4)=true then (if (!(btw d.N 1 20 && btw d.A 0 d.B && decide (d.B≤1000000)))=true then 2 else 0)
 else if decide (d.Op=5)=true then (if (!(btw d.A 1 1000 && btw d.B 1 1000))=true then 2 else 0)
 else 0
def ZqM (op:Int):Bool:=decide (22≤op) && decide (op≤24)
def ZiM (op:Int):Int :=
 if (decide (op=1) || decide (op=2) || decide (op=3) || decide (op=4))=true then 0
 else if (decide (5≤op) && decide (op≤8))=true then 1
 else if (decide (9≤op) && decide (op≤21))=true then 2
 else if (decide (22≤op) && decide (op≤26))=true then 0 else -1
def Zdl (code:Bool)(op:Int):Bool :=
 if decide (op=3)=true then !code else if decide (op=25)=true then code else if decide (op=26)=true then code else decide (0≤ZiM op)
def ZfQ (code:Bool)(op:Int):Bool:=decide (op=3) || (ZqM op && !code)
def ZrY (code:Bool)(op:Int):Int×Int×Bool :=
 if decide (op=2)=true then (0,1,true) else if decide (op=25)=true then (0,15,true) else if decide (op=26)=true then (0,31,true) else if (ZqM op && code)=true then (0,63,true) else (0,0,false)
def Zb7 (code:Bool)(e:Zu):Int :=
 if (!(Zdl code e.Op) || decide ((e.Kids.length:Int)≠ZiM e.Op) || (decide (e.Name≠[]) && !(ZfQ code e.Op)))=true then 1
 else if decide (e.Op=1)=true then (if (!(inB e.N))=true then 2 else 0)
 else if (!(ZrY code e.Op).2.2 && decide (e.N≠0))=true then 1
 else if ((ZrY code e.Op).2.2 && (decide (e.N < (ZrY code e.Op).1) || decide ((ZrY code e.Op).2.1 < e.N)))=true then 2
 else if ZfQ code e.Op=true then VE e.Name else 0
theorem Aa {x e:Zu}(h:x ∈ e.Kids):SizeOf.sizeOf x < SizeOf.sizeOf e:=by
 cases e
 have:=List.sizeOf_lt_of_mem h
 simp at *
 omega
theorem Na (e:Zu):0 < SizeOf.sizeOf e:=by cases e; simp; omega
theorem Yi.k {e:Zu}(h:Yi e):e.Kids.length≤4611686018427387:=by have:=h.Kids.1; omega
theorem Yi.n {e:Zu}(h:Yi e):e.Name.length≤140737488351232:=h.Name
mutual
def JK (code:Bool):Zu→Int
 | ⟨o,a,n,ks⟩=>if decide (Zb7 code ⟨o,a,n,ks⟩≠0)=true then Zb7 code ⟨o,a,n,ks⟩ else Zdu code ks
def Zdu (code:Bool):List Zu→Int
 | []=>0
 | x :: r=>if decide (JK code x≠0)=true then JK code x else Zdu code r
end
theorem ZfR (code:Bool):∀ l:List Zu,Zdu code l=Yk (JK code) l
 | []=>by rw [Zdu]; rfl
 | x :: r=>by rw [Zdu,ZfR code r]; rfl
theorem Zdt (code:Bool)(e:Zu):JK code e=if decide (Zb7 code e≠0)=true then Zb7 code e else Yk (JK code) e.Kids:=by
 cases e; rw [JK,ZfR]
mutual
def ZpK:Zu→Int
 | ⟨_,_,_,ks⟩=>ZpM ks 1
def ZpM:List Zu→Int→Int
 | [],n=>n
 | x :: r,n=>ZpM r (IntKind.i64.wrap (n + ZpK x))
end
theorem Zm7:∀ (l:List Zu) (n:Int),ZpM l n=sumW ZpK l n
 | [],n=>by rw [ZpM]; rfl
 | x :: r,n=>by rw [ZpM,Zm7 r]; rfl
theorem ZpL (e:Zu):ZpK e=sumW ZpK e.Kids 1:=by cases e; rw [ZpK,Zm7]
mutual
def Zph:Zu→Int
 | ⟨_,_,_,ks⟩=>IntKind.i64.wrap (ZpR ks 0 + 1)
def ZpR:List Zu→Int→Int
 | [],n=>n
 | x :: r,n=>ZpR r (if Zph x > n then Zph x else n)
end
theorem ZmD:∀ (l:List Zu) (n:Int),ZpR l n=Ztg Zph l n
 | [],n=>by rw [ZpR]; rfl
 | x :: r,n=>by rw [ZpR,ZmD r]; rfl
theorem ZpQ (e:Zu):Zph e=IntKind.i64.wrap (Ztg Zph e.Kids 0 + 1):=by cases e; rw [Zph,ZmD]
def Zk9 (a b:Zu):Bool:=decide (a.Op≠b.Op) || decide (a.Name≠b.Name) || decide (a.N≠b.N)
mutual
def AP:Zu→Zu→Bool
 | ⟨o,a,n,ks⟩,e=>if (Zk9 ⟨o,a,n,ks⟩ e || decide ((ks.length:Int)≠(e.Kids.length:Int)))=true then false else Zea ks e.Kids
def Zea:List Zu→List Zu→Bool
 | x :: r,y :: s=>if (!(AP x y))=true then false else Zea r s
 | _,_=>true
end
theorem ZjY:∀ l m:List Zu,Zea l m=all2 AP l m
 | [],[]=>by rw [Zea] <;> simp [all2]
 | [],y :: s=>by rw [Zea] <;> simp [all2]
 | x :: r,[]=>by rw [Zea] <;> simp [all2]
 | x :: r,y :: s=>by rw [Zea,ZjY r s]; rfl
theorem ZbX (a b:Zu):AP a b=if (Zk9 a b || decide ((a.Kids.length:Int)≠(b.Kids.length:Int)))=true then false else all2 AP a.Kids b.Kids:=by
 cases a; rw [AP,ZjY]
def ZcE (op:Int):Int :=
 if (decide (op < 1) || decide (26 < op))=true then -1 else if (decide (5≤op) && decide (op≤8))=true then 1 else if (decide (9≤op) && decide (op≤21))=true then 2 else 0
def Ztl (op:Int):Int:=if decide (op=25)=true then 15 else if decide (op=26)=true then 31 else 63
def Zog (code:Bool)(e:Zu):Int :=
 if (!(decide (0≤ZcE e.Op) && ((code && decide (e.Op≠3)) || (!code && decide (e.Op≤24)))) || (!(!code && (decide (e.Op=3) || ZqM e.Op)) && decide (e.Name≠[])) || (!(decide (e.Op=1) || decide (e.Op=2) || (code && (ZqM e.Op || decide (e.Op=25) || decide (e.Op=26)))) && decide (e.N≠0)) || decide ((e.Kids.length:Int)≠ZcE e.Op))=true then 1
 else if ((decide (e.Op=1) && !(inB e.N)) || ((decide (e.Op=2) && decide (e.N≠0)) && decide (e.N≠1)) || ((code && (ZqM e.Op || decide (e.Op=25) || decide (e.Op=26))) && (decide (e.N < 0) || decide (Ztl e.Op < e.N))))=true then 2
 else if ((!code && (decide (e.Op=3) || ZqM e.Op)) && decide (VE e.Name≠0))=true then VE e.Name else 0
theorem Z14 (op:Int):1≤op∧op≤26→op=1∨op=2∨op=3∨op=4∨op=5∨op=6∨op=7∨op=8∨op=9∨op=10∨op=11∨op=12∨op=13∨op=14∨op=15∨op=16∨op=17∨op=18∨op=19∨op=20∨op=21∨op=22∨op=23∨op=24∨op=25∨op=26:=by omega
theorem ZsN (code:Bool)(e:Zu):Zog code e=Zb7 code e:=by
 obtain ⟨op,nm,n,ks⟩:=e
 by_cases h:1≤op∧op≤26
 ·rcases Z14 op h with rfl | rfl | rfl | rfl | rfl | rfl | rfl | rfl | rfl | rfl | rfl | rfl | rfl | rfl | rfl | rfl | rfl | rfl | rfl | rfl | rfl | rfl | rfl | rfl | rfl | rfl <;> cases code <;> simp [Zog,Zb7,ZcE,Ztl,ZqM,ZiM,Zdl,ZfQ,ZrY] <;> grind
 ·have h1:ZcE op=-1:=by simp only [ZcE]; rw [if_pos]; simp; omega
  have h2:ZiM op=-1:=by
   simp only [ZiM]
   rw [if_neg (by simp; omega),if_neg (by simp; omega),if_neg (by simp; omega),if_neg (by simp; omega)]
  have h3:Zdl code op=false:=by
   simp only [Zdl,h2]
   rw [if_neg (by simp; omega),if_neg (by simp; omega),if_neg (by simp; omega)]; rfl
  simp [Zog,Zb7,h1,h2,h3]
theorem ZqL (code:Bool)(e:Zu):(if decide (Zog code e≠0)=true then Zog code e else Yk (JK code) e.Kids)=JK code e:=by rw [ZsN,← Zdt]
def Qw (code:Bool)(e:Zu):Int:=if decide (60 < ZpK e)=true then 6 else if decide (12 < Zph e)=true then 11 else JK code e
def LG (op:Int):G6×Bool:=if decide (op=1)=true then (⟨true,false,true,false,false,false,false,false,false⟩,true) else if decide (op=7)=true then (⟨true,false,true,false,false,false,false,false,false⟩,true) else if decide (op=8)=true then (⟨true,false,true,false,false,false,false,false,false⟩,true) else if decide (op=12)=true then (⟨true,false,true,false,false,false,false,false,false⟩,true) else if decide (op=15)=true then (⟨true,false,true,false,false,false,false,false,false⟩,true) else if decide (op=16)=true then (⟨true,false,true,false,false,false,false,false,false⟩,true) else if decide (op=17)=true then (⟨true,false,true,false,false,false,false,false,false⟩,true) else if decide (op=2)=true then (⟨true,true,false,false,false,true,false,false,false⟩,true) else if decide (op=3)=true then (⟨false,false,true,false,false,false,false,true,true⟩,true) else if decide (op=4)=true then (⟨false,false,true,false,false,false,false,true,false⟩,true) else if decide (op=5)=true then (⟨false,false,true,false,false,false,false,false,false⟩,true) else if decide (op=6)=true then (⟨true,false,true,true,false,false,true,false,false⟩,true) else if decide (op=9)=true then (⟨true,true,false,false,false,false,false,false,false⟩,true) else if decide (op=10)=true then (⟨true,false,false,false,false,false,false,false,false⟩,true) else if decide (op=11)=true then (⟨true,false,false,false,false,false,false,false,false⟩,true) else if decide (op=13)=true then (⟨true,true,true,false,true,false,false,false,false⟩,true) else if decide (op=14)=true then (⟨true,false,true,false,true,false,false,false,false⟩,true) else if decide (op=18)=true then (⟨false,false,false,false,false,false,false,false,false⟩,true) else (⟨false,false,false,false,false,false,false,false,false⟩,false)
def FK (e:Zu):Bool:=decide (e.Op=0) && decide (e.Name=[]) && decide (e.N=0) && decide ((e.Kids.length:Int)=0)
def Nr (d:We):Bool:=decide (d.Op=0) && decide (d.A=0) && decide (d.B=0) && decide (d.N=0) && decide (d.Values=[]) && decide (d.Weights=[])
def Zk6 (s:Z9)(u:G6):Bool :=
 (u.name || decide (s.Name=[])) && (u.of || decide (s.Of=[])) && (u.e || FK s.E) && (u.f || FK s.F) && (u.args || decide ((s.Args.length:Int)=0)) && (u.dist || Nr s.Dist) && (u.flag || !s.Flag) && (u.body || decide ((s.Body.length:Int)=0)) && (u.other || decide ((s.Else.length:Int)=0))
def ZpZ (s:Z9):Bool :=
 (LG s.Op).2 && ((((LG s.Op).1.name || decide (s.Name=[])) && ((LG s.Op).1.of || decide (s.Of=[])))) && (((LG s.Op).1.e || FK s.E) && ((LG s.Op).1.f || FK s.F) && ((LG s.Op).1.args || decide ((s.Args.length:Int)=0))) && (((LG s.Op).1.body || decide ((s.Body.length:Int)=0)) && ((LG s.Op).1.other || decide ((s.Else.length:Int)=0))) && ((LG s.Op).1.dist || Nr s.Dist) && ((LG s.Op).1.flag || !s.Flag)
theorem ZsA (s:Z9):ZpZ s=((LG s.Op).2 && Zk6 s (LG s.Op).1):=by
 simp only [ZpZ,Zk6]
 generalize (LG s.Op).1=u
 generalize (LG s.Op).2=b
 ac_rfl
def ZeL (s:Z9)(u:G6):List Zu→Int
 | []=>if u.dist=true then LQ s.Dist else 0
 | x :: r=>if decide (Qw false x≠0)=true then Qw false x else ZeL s u r
def Znt (s:Z9)(u:G6):Int:=if decide (6 < (s.Args.length:Int))=true then 6 else ZeL s u s.Args
def Znv (s:Z9)(u:G6):Int:=if (!u.f)=true then Znt s u else if decide (Qw false s.F≠0)=true then Qw false s.F else Znt s u
def Znu (s:Z9)(u:G6):Int:=if (!u.e)=true then Znv s u else if decide (Qw false s.E≠0)=true then Qw false s.E else Znv s u
def Zjj (s:Z9)(u:G6):Int :=
 if (u.name && decide (VE s.Name≠0))=true then VE s.Name else if (u.of && decide (VE s.Of≠0))=true then VE s.Of else Znu s u
theorem YH.a {s:Z9}(h:YH s):s.Args.length≤4611686018427387:=by have:=h.Args.1; omega
theorem w01:IntKind.i64.wrap (0 + 1)=1∧IntKind.i64.wrap (1 + 1)=2∧decide ((0:Int) < 2)=true∧decide ((1:Int) < 2)=true∧decide ((2:Int) < 2)=false∧(∀ (α:Type) (a b:α),(([a,b].length:Nat):Int)=2):=⟨by decide,by decide,by decide,by decide,by decide,fun _ _ _=>rfl⟩
theorem ZuM (s:Z9):SizeOf.sizeOf s.E < SizeOf.sizeOf s∧SizeOf.sizeOf s.F < SizeOf.sizeOf s∧SizeOf.sizeOf s.Args < SizeOf.sizeOf s∧SizeOf.sizeOf s.Body < SizeOf.sizeOf s∧SizeOf.sizeOf s.Else < SizeOf.sizeOf s:=by
 cases s; simp; omega
theorem Z1q {s:Z9}{x:Zu}(h:x ∈ s.Args):SizeOf.sizeOf x < SizeOf.sizeOf s:=by
 have:=List.sizeOf_lt_of_mem h
 have:=(ZuM s).2.2.1
 omega
def FW (s:Z9):List Zu→Int→Int
 | [],e=>e
 | x :: r,e=>if decide (e=0)=true then FW s r (Qw false x) else e
def ZcY (s:Z9)(u:G6):Int :=
 FW s s.Args (if (decide ((if (decide ((if u.e=true then Qw false s.E else 0)=0) && u.f)=true then Qw false s.F else (if u.e=true then Qw false s.E else 0))=0) && decide (6 < (s.Args.length:Int)))=true then 6
  else (if (decide ((if u.e=true then Qw false s.E else 0)=0) && u.f)=true then Qw false s.F else (if u.e=true then Qw false s.E else 0)))
def Z0G (s:Z9):Int :=
 if (!(ZpZ s))=true then 1
 else if (((LG s.Op).1.name && decide (VE s.Name≠0)) || ((LG s.Op).1.of && decide (VE s.Of≠0)))=true then 3
 else if (decide (ZcY s (LG s.Op).1=0) && (LG s.Op).1.dist)=true then Zs2 s.Dist else ZcY s (LG s.Op).1
theorem Zg3 (s:Z9)(l:List Zu)(e:Int)(h:e≠0):FW s l e=e:=by
 cases l <;> simp [FW,h]
theorem Zf5 (s:Z9)(u:G6):∀ l:List Zu,(if (decide (FW s l 0=0) && u.dist)=true then LQ s.Dist else FW s l 0)=ZeL s u l
 | []=>by simp [FW,ZeL]
 | x :: r=>by
  by_cases h:Qw false x=0
  ·simp only [FW,ZeL,h,decide_true,if_true,ne_eq,not_true_eq_false,decide_false,Bool.false_eq_true,if_false]
   exact Zf5 s u r
  ·simp [FW,ZeL,h,Zg3]
def Zop (s:Z9):Int:=if (!(LG s.Op).2 || !(Zk6 s (LG s.Op).1))=true then 1 else Zjj s (LG s.Op).1
theorem ZwX (lo hi a:Int):Qh lo hi [a]=btw a lo hi:=by
 simp only [Qh,List.any_cons,List.any_nil,ZuC,btw,Bool.or_false,Bool.not_or,← decide_not,Int.not_lt]
theorem ZwY (lo hi a b:Int):Qh lo hi [a,b]=(btw a lo hi && btw b lo hi):=by
 simp only [Qh,List.any_cons,List.any_nil,ZuC,btw,Bool.or_false,Bool.not_or,← decide_not,Int.not_lt]
theorem ZwZ (lo hi a:Int)(l:List Int):Qh lo hi (a :: l)=(btw a lo hi && Qh lo hi l):=by
 simp only [Qh,List.any_cons,ZuC,btw,Bool.not_or,← decide_not,Int.not_lt]
theorem ZuQ:∀ (l m:List Int),l.length=m.length→ZuP l m=if (!(Qh 0 1000000000 l && Qh 1 1000 m))=true then 2 else 0
 | [],[],_=>by simp [ZuP,Qh]
 | [],y :: m,h=>by simp at h
 | x :: l,[],h=>by simp at h
 | x :: l,y :: m,h=>by
  have ih:=ZuQ l m (by simpa using h)
  simp only [ZuP,ZwZ,ih]
  generalize Qh 0 1000000000 l=c1
  generalize Qh 1 1000 m=c2
  cases btw x 0 1000000000 <;> cases btw y 1 1000 <;> cases c1 <;> cases c2 <;> rfl
theorem Z07 (a b:Nat):decide ((a:Int) + (b:Int)=0)=(decide ((a:Int)=0) && decide ((b:Int)=0)):=by
 rw [← Bool.decide_and]; congr 1; apply propext; omega
theorem ZrR (d:We):Ze6 d=Ei d:=by
 simp only [Ze6,Ei,Z07]
 by_cases h1:d.Op=1
 ·simp [h1]; ac_rfl
 by_cases h2:d.Op=2
 ·simp [h2,Bool.and_comm]
 by_cases h5:d.Op=5
 ·simp [h5,Bool.and_comm]
 by_cases h3:d.Op=3
 ·simp [h3]
 by_cases h4:d.Op=4
 ·simp [h4]
 simp [h1,h2,h3,h4,h5]
theorem ZgH (d:We):Zs2 d=LQ d:=by
 simp only [Zs2,LQ,ZrR,ZwX,ZwY,ZnA]
 by_cases hu:Ei d=true
 ·simp only [hu]
  by_cases h1:d.Op=1
  ·simp [h1]
  by_cases h2:d.Op=2
  ·simp only [h2,btw]; simp; grind
  by_cases h3:d.Op=3
  ·simp only [h3]
   by_cases hl:d.Values.length=d.Weights.length
   ·rw [ZuQ _ _ hl]; simp
   ·have:¬ ((d.Values.length:Int)=d.Weights.length):=by omega
    simp [this]
  by_cases h4:d.Op=4
  ·simp only [h4,btw]; simp; grind
  by_cases h5:d.Op=5
  ·simp [h5]
  ·exfalso
   simp [Ei,h1,h2,h3,h4,h5] at hu
 ·simp [hu]
theorem Zwl (s:Z9):Z0G s=Zop s:=by
 have n1:=ZiU s.Name
 have n2:=ZiU s.Of
 unfold Z0G Zop Zjj
 rw [ZsA,ZgH]
 generalize LG s.Op=w
 obtain ⟨u,b⟩:=w
 simp only
 have key:(if (decide (ZcY s u=0) && u.dist)=true then LQ s.Dist else ZcY s u)=Znu s u:=by
  have ha:=Zf5 s u s.Args
  unfold ZcY Znu Znv Znt
  rcases Bool.eq_false_or_eq_true u.e with h1 | h1 <;> rcases Bool.eq_false_or_eq_true u.f with h3 | h3 <;> rcases Bool.eq_false_or_eq_true (decide (6 < (s.Args.length:Int))) with h5 | h5 <;> by_cases h2:Qw false s.E=0 <;> by_cases h4:Qw false s.F=0 <;>
   simp only [h1,h2,h3,h4,h5,ne_eq,not_true_eq_false,not_false_eq_true,decide_true,decide_false,BL,IFJ,Zg3,Bool.false_eq_true,if_true,if_false] <;> first | exact ha | (simp [Zg3,h2,h4]; done) | rfl
 rw [key]
 rcases n1 with h1 | h1 <;> rcases n2 with h2 | h2 <;> cases b <;> cases Zk6 s u <;> cases u.name <;> cases u.of <;> simp [h1,h2]
mutual
def Zut:Z9→Int
 | ⟨_,_,_,_,_,_,_,_,b,e⟩=>IntKind.i64.wrap (Oz b (b.length:Int) + Oz e (e.length:Int))
def Oz:List Z9→Int→Int
 | [],n=>n
 | x :: r,n=>Oz r (IntKind.i64.wrap (n + Zut x))
end
theorem Zvo (s:Z9):Zut s=IntKind.i64.wrap (Oz s.Body (s.Body.length:Int) + Oz s.Else (s.Else.length:Int)):=by cases s; rw [Zut]
mutual
def Zxc:Z9→Int→Int
 | ⟨_,_,_,_,_,_,_,_,b,e⟩,n=>IntKind.i64.wrap (IntKind.i64.wrap (IntKind.i64.wrap (n + 1) + GL b 0) + GL e 0)
def GL:List Z9→Int→Int
 | [],n=>n
 | x :: r,n=>GL r (Zxc x n)
end
theorem ZpJ (s:Z9)(n:Int):Zxc s n=IntKind.i64.wrap (IntKind.i64.wrap (IntKind.i64.wrap (n + 1) + GL s.Body 0) + GL s.Else 0):=by cases s; rw [Zxc]
def mx3 (a b c:Int):Int:=if c > (if b > a then b else a) then c else (if b > a then b else a)
mutual
def Z0e:Z9→Int→Int
 | ⟨_,_,_,_,_,_,_,_,b,e⟩,n=>mx3 n (IntKind.i64.wrap (1 + NI b 0)) (IntKind.i64.wrap (1 + NI e 0))
def NI:List Z9→Int→Int
 | [],n=>n
 | x :: r,n=>NI r (Z0e x n)
end
theorem ZpP (s:Z9)(n:Int):Z0e s n=mx3 n (IntKind.i64.wrap (1 + NI s.Body 0)) (IntKind.i64.wrap (1 + NI s.Else 0)):=by cases s; rw [Z0e]
mutual
def Zz7:Z9→Int
 | ⟨a,b,c,d,e,f,g,h,i,j⟩=>if decide (Zop ⟨a,b,c,d,e,f,g,h,i,j⟩≠0)=true then Zop ⟨a,b,c,d,e,f,g,h,i,j⟩ else if decide (Vu i≠0)=true then Vu i else Vu j
def Vu:List Z9→Int
 | []=>0
 | x :: r=>if decide (Zz7 x≠0)=true then Zz7 x else Vu r
end
theorem ZpI (s:Z9):Zz7 s=if decide (Zop s≠0)=true then Zop s else if decide (Vu s.Body≠0)=true then Vu s.Body else Vu s.Else:=by cases s; rw [Zz7]
theorem Zvl (b:Bool)(p B E R:Int):(if b=true then 1 else if decide (p≠0)=true then p else if decide (B≠0)=true then B else if decide (E≠0)=true then E else R) =
  if decide ((if decide ((if b=true then 1 else p)≠0)=true then (if b=true then 1 else p) else if decide (B≠0)=true then B else E)≠0)=true then (if decide ((if b=true then 1 else p)≠0)=true then (if b=true then 1 else p) else if decide (B≠0)=true then B else E) else R:=by
 cases b <;> by_cases h1:p=0 <;> by_cases h2:B=0 <;> by_cases h3:E=0 <;> simp [h1,h2,h3]
theorem Zvm (p B E R:Int):(if decide (p=0)=true then (if decide (B=0)=true then (if decide (E≠0)=true then E else R) else if decide (B≠0)=true then B else R) else if decide (p≠0)=true then p else R) =
  if decide ((if decide (p≠0)=true then p else if decide (B≠0)=true then B else E)≠0)=true then (if decide (p≠0)=true then p else if decide (B≠0)=true then B else E) else R:=by
 by_cases h1:p=0 <;> by_cases h2:B=0 <;> by_cases h3:E=0 <;> simp [h1,h2,h3]
theorem Zxr {s:Z9}{l:List Z9}(h:s ∈ l):SizeOf.sizeOf s < SizeOf.sizeOf l∧SizeOf.sizeOf s.Body < SizeOf.sizeOf l∧SizeOf.sizeOf s.Else < SizeOf.sizeOf l:=by
 have:=List.sizeOf_lt_of_mem h
 have:=ZuM s
 omega
def Zkr (l:List Z9):Prop:=l.length≤4611686018427387∧∀ s ∈ l,YH s
theorem YH.b {s:Z9}(h:YH s):Zkr s.Body∧Zkr s.Else:=by
 have h1:=h.Body; have h2:=h.Else
 exact ⟨⟨by omega,h1.2⟩,by omega,h2.2⟩
theorem Zxs (l:List Z9):0 < SizeOf.sizeOf l:=by cases l <;> simp <;> omega
def ZaM (l:List Z9):Int:=if decide (200 < Oz l (l.length:Int))=true then 6 else if decide (12 < NI l 0)=true then 11 else Vu l
def Zkz (l:List Z9):Int:=if decide (200 < GL l 0)=true then 6 else if decide (12 < NI l 0)=true then 11 else Vu l
theorem wrK (n:Int):∃ k:Int,IntKind.i64.wrap n=n + 18446744073709551616 * k:=by
 rw [IntKind.wrap_i64]
 exact ⟨-((n + 9223372036854775808) / 18446744073709551616),by omega⟩
theorem wrR (n:Int):-9223372036854775808≤IntKind.i64.wrap n∧IntKind.i64.wrap n≤9223372036854775807:=by
 rw [IntKind.wrap_i64]
 constructor <;> omega
mutual
def trS:Z9→Int
 | ⟨_,_,_,_,_,_,_,_,b,e⟩=>Zuh b + Zuh e
def Zuh:List Z9→Int
 | []=>0
 | x :: r=>1 + trS x + Zuh r
end
mutual
theorem trR:∀ (s:Z9) (n:Int),∃ k:Int,Zxc s n=n + 1 + trS s + 18446744073709551616 * k
 | ⟨_,_,_,_,_,_,_,_,b,e⟩,n=>by
  rw [Zxc,trS]
  obtain ⟨k1,h1⟩:=ZzK b 0
  obtain ⟨k2,h2⟩:=ZzK e 0
  obtain ⟨k3,h3⟩:=wrK (n + 1)
  obtain ⟨k4,h4⟩:=wrK (IntKind.i64.wrap (n + 1) + GL b 0)
  obtain ⟨k5,h5⟩:=wrK (IntKind.i64.wrap (IntKind.i64.wrap (n + 1) + GL b 0) + GL e 0)
  exact ⟨k1 + k2 + k3 + k4 + k5,by omega⟩
theorem ZzK:∀ (l:List Z9) (n:Int),∃ k:Int,GL l n=n + Zuh l + 18446744073709551616 * k
 | [],n=>⟨0,by rw [GL,Zuh]; omega⟩
 | x :: r,n=>by
  rw [GL,Zuh]
  obtain ⟨k1,h1⟩:=trR x n
  obtain ⟨k2,h2⟩:=ZzK r (Zxc x n)
  exact ⟨k1 + k2,by omega⟩
end
mutual
theorem trP:∀ (s:Z9),∃ k:Int,Zut s=trS s + 18446744073709551616 * k
 | ⟨_,_,_,_,_,_,_,_,b,e⟩=>by
  rw [Zut,trS]
  obtain ⟨k1,h1⟩:=ZzJ b b.length
  obtain ⟨k2,h2⟩:=ZzJ e e.length
  obtain ⟨k3,h3⟩:=wrK (Oz b (b.length:Int) + Oz e (e.length:Int))
  exact ⟨k1 + k2 + k3,by omega⟩
theorem ZzJ:∀ (l:List Z9) (n:Int),∃ k:Int,Oz l n=n - l.length + Zuh l + 18446744073709551616 * k
 | [],n=>⟨0,by rw [Oz,Zuh]; simp⟩
 | x :: r,n=>by
  rw [Oz,Zuh]
  obtain ⟨k1,h1⟩:=trP x
  obtain ⟨k3,h3⟩:=wrK (n + Zut x)
  obtain ⟨k2,h2⟩:=ZzJ r (IntKind.i64.wrap (n + Zut x))
  refine ⟨k1 + k2 + k3,?_⟩
  simp only [List.length_cons]
  omega
end
theorem rgR:∀ (l:List Z9) (n:Int),-9223372036854775808≤n→n≤9223372036854775807→-9223372036854775808≤GL l n∧GL l n≤9223372036854775807
 | [],n,h1,h2=>by rw [GL]; exact ⟨h1,h2⟩
 | x :: r,n,_,_=>by
  have h:=wrR (IntKind.i64.wrap (IntKind.i64.wrap (n + 1) + GL x.Body 0) + GL x.Else 0)
  rw [← ZpJ] at h
  rw [GL]
  exact rgR r _ h.1 h.2
theorem rgP:∀ (l:List Z9) (n:Int),-9223372036854775808≤n→n≤9223372036854775807→-9223372036854775808≤Oz l n∧Oz l n≤9223372036854775807
 | [],n,h1,h2=>by rw [Oz]; exact ⟨h1,h2⟩
 | x :: r,n,_,_=>by
  have h:=wrR (n + Zut x)
  rw [Oz]
  exact rgP r _ h.1 h.2
theorem Zx8 (l:List Z9)(hl:l.length≤4611686018427387):GL l 0=Oz l (l.length:Int):=by
 obtain ⟨k1,h1⟩:=ZzK l 0
 obtain ⟨k2,h2⟩:=ZzJ l l.length
 have r1:=rgR l 0 (by omega) (by omega)
 have r2:=rgP l l.length (by omega) (by omega)
 omega
theorem ZnW (l:List Z9)(hl:l.length≤4611686018427387):Zkz l=ZaM l:=by
 unfold Zkz ZaM
 rw [Zx8 l hl]
def Wh (a b:Int):Int:=if decide (a≠0)=true then a else b
def Y5 (b:Bool)(e:Int):Int:=if b=true then 0 else e
def fitsT (t n:Int):Bool:=if decide (t=1)=true then inB n else if decide (t=2)=true then (decide (n=0) || decide (n=1)) else if decide (t=3)=true then btw n 0 1000000000 else false
def Zkh (t:Int):Bool:=decide (t=1) || decide (t=2) || decide (t=3)
theorem ZnD (t:Int):Zkh t=btw t 1 3:=by
 simp only [Zkh,btw]
 by_cases h1:t=1
 ·simp [h1]
 by_cases h2:t=2
 ·simp [h2]
 by_cases h3:t=3
 ·simp [h3]
 simp only [h1,h2,h3,decide_false,Bool.or_false]
 by_cases h4:1≤t <;> by_cases h5:t≤3 <;> simp [h4,h5]
 omega
def Zsd (cyc:Int):Option Int→List UO→Int
 | _,[]=>0
 | p,c :: r=>if (!(btw c.At_ 0 (cyc - 1)) || !(btw c.Units 0 1000))=true then 2 else if (p.isSome && decide (c.At_≤p.getD 0))=true then 12 else Zsd cyc (some c.At_) r
def Zsc (d:Zv):Int :=
 if decide ((d.Shift.length:Int)=0)=true then (if decide (d.Cycle≠0)=true then 1 else 0)
 else if decide (20 < (d.Shift.length:Int))=true then 6 else if (!(btw d.Cycle 1 1000000000))=true then 2 else Zsd d.Cycle none d.Shift
theorem WB.s {d:Zv}(h:WB d):d.Shift.length≤4611686018427387:=by have:=h.Shift.1; omega
theorem ZG.st {d:Ze}(h:ZG d):d.Streams.length≤4611686018427387∧d.Counts.length≤4611686018427387∧d.Stores.length≤4611686018427387∧d.Routines.length≤4611686018427387:=by
 have:=h.Streams.1; have:=h.Counts.1; have:=h.Stores.1; have:=h.Routines.1; omega
def ZmE (d:Ze)(f:LX):Int :=
 if (decide (f.Stream=[]) && (!(Nr f.Up) || !(Nr f.Down)))=true then 1 else if decide (f.Stream=[])=true then 0 else if (!(d.Streams.contains f.Stream))=true then 5 else if decide (LQ f.Up≠0)=true then LQ f.Up else LQ f.Down
def Z0Q (s:Ze)(d:Zv):Int :=
 if decide (Wh (Y5 (btw d.Units 0 1000) 2) (Zsc d)≠0)=true then Wh (Y5 (btw d.Units 0 1000) 2) (Zsc d)
 else if decide (d.Fault.Stream=[])=true then Y5 (Nr d.Fault.Up && Nr d.Fault.Down) 1
 else if (!(s.Streams.contains d.Fault.Stream))=true then 5 else Wh (LQ d.Fault.Up) (LQ d.Fault.Down)
def ZoK (s:Ze)(d:Zv):Int:=if (!(btw d.Units 0 1000))=true then 2 else if decide (Zsc d≠0)=true then Zsc d else ZmE s d.Fault
theorem ZwJ (s:Ze)(d:Zv):Z0Q s d=ZoK s d:=by
 unfold Z0Q ZoK ZmE Wh Y5
 cases btw d.Units 0 1000 <;> by_cases h1:Zsc d=0 <;> by_cases h2:d.Fault.Stream=[] <;> cases Nr d.Fault.Up <;> cases Nr d.Fault.Down <;> cases s.Streams.contains d.Fault.Stream <;> simp [h1,h2]
def Zfn (t:Oh)(found:Bool):Int:=if (!found)=true then 5 else if (!(btw t.Coef (-1000) 1000) || decide (t.Coef=0))=true then 2 else 0
def Zfm (d:Ze)(t:Oh):Int:=if decide (t.What=[99,114,101,97,116,101,100])=true then Zfn t ((d.Routines.map (·.Name)).contains t.Name) else if decide (t.What=[101,110,100,101,100])=true then Zfn t ((d.Routines.map (·.Name)).contains t.Name) else if decide (t.What=[105,110,115,105,100,101])=true then Zfn t ((d.Routines.map (·.Name)).contains t.Name) else if decide (t.What=[115,116,111,114,101,100])=true then Zfn t ((d.Stores.map (·.Name)).contains t.Name) else if decide (t.What=[101,110,116,101,114,101,100])=true then Zfn t ((d.Stores.map (·.Name)).contains t.Name) else if decide (t.What=[108,101,102,116])=true then Zfn t ((d.Stores.map (·.Name)).contains t.Name) else if decide (t.What=[99,111,117,110,116,101,100])=true then Zfn t (d.Counts.contains t.Name) else 1
def Zbf (s:X0):Int:=if (!(btw s.At_ 0 1000000000) || !(btw s.Every 0 1000000000) || !(btw s.Until 0 1000000000) || (decide (s.Every=0) && decide (s.Until≠0)))=true then 2 else 0
def Zmn (s:X0):Int:=Y5 (btw s.At_ 0 1000000000 && btw s.Every 0 1000000000 && btw s.Until 0 1000000000 && (decide (s.Every≠0) || decide (s.Until=0))) 2
theorem ZrL (s:X0):Zmn s=Zbf s:=by
 unfold Zbf Zmn Y5
 cases btw s.At_ 0 1000000000 <;> cases btw s.Every 0 1000000000 <;> cases btw s.Until 0 1000000000 <;> by_cases h1:s.Every=0 <;> by_cases h2:s.Until=0 <;> simp [h1,h2]
def LP (tl:Int):List WP→List Int→Int
 | p :: ps,a :: ys=>if (!(fitsT p.Ty a))=true then 2 else LP tl ps ys
 | _,_=>tl
def VZ (d:Ze)(s:X0):Int :=
 match d.Routines.find? (fun r=>decide (r.Name=s.Routine)) with
 | none=>5
 | some r=>if decide ((s.Args.length:Int)≠(r.Params.length:Int))=true then 8 else LP (Zbf s) r.Params s.Args
theorem Ns.a {s:X0}(h:Ns s):s.Args.length≤4611686018427387:=by have:=h.Args.1; omega
theorem Og.p {r:ZU}(h:Og r):r.Params.length≤4611686018427387∧r.Locals.length≤4611686018427387∧Zkr r.Body:=by
 have:=h.Params.1; have:=h.Locals.1; have:=h.Body
 exact ⟨by omega,by omega,by omega,this.2⟩
abbrev Seen:=List (List UInt8)
def YC (s:List UInt8)(seen:Seen):Int×Seen:=if decide (VE s≠0)=true then (VE s,seen) else if seen.contains s=true then (4,seen) else (0,seen ++ [s])
def Yy (s:List UInt8)(rest:Int)(seen:Seen):Int×Seen:=if decide ((YC s seen).1≠0)=true then YC s seen else (rest,(YC s seen).2)
def LH (v:VT):Int:=if (!(btw v.Ty 1 3))=true then 1 else if (!(fitsT v.Ty v.N))=true then 2 else 0
def L8 (x:Yx):Int:=if (!(btw x.Room 1 1000))=true then 2 else if (decide (x.Policy < 1) || decide (3 < x.Policy))=true then 1 else 0
def Zbz (x:Wn):Int:=if (!(btw x.Length 1 1000) || !(btw x.Step 1 1000))=true then 2 else 0
def Xf {α σ:Type}(most:Int)(step:α→σ→Int×σ)(l:List α)(s:σ):Int×σ:=if decide (most < (l.length:Int))=true then (6,s) else YO step l s
def NK {α:Type}(most:Int)(f:α→Int)(l:List α):Int:=if decide (most < (l.length:Int))=true then 6 else Yk f l
def ZcZ (f:WP):Int:=if (!(btw f.Ty 1 3))=true then 1 else 0
def ZpV (l:List WP)(s:Seen):Int×Seen:=YO (fun f:WP=>Yy f.Name (ZcZ f)) l s
def X8 (r:ZU):Int :=
 if (decide (6 < (r.Params.length:Int)) || decide (16 < (r.Params.length:Int) + (r.Locals.length:Int)))=true then 6
 else if decide ((ZpV (r.Params ++ r.Locals) []).1≠0)=true then (ZpV (r.Params ++ r.Locals) []).1 else ZaM r.Body
def ZrX (d:Ze)(l:ZeF):Int :=
 if decide ((l.Terms.length:Int)=0)=true then 7 else if decide (NK 8 (Zfm d) l.Terms≠0)=true then NK 8 (Zfm d) l.Terms else if (!(inB l.Total))=true then 2 else 0
theorem Zpm.t {l:ZeF}(h:Zpm l):l.Terms.length≤4611686018427387:=by have:=h.Terms.1; omega
def DY (d:Ze):Int:=(Xf 32 (fun l:ZeF=>Yy l.Name (ZrX d l)) d.Laws []).1
abbrev Step:=Seen→Int×Seen
def Zec (d:Ze):List Step:=[Xf 32 (fun v:VT=>Yy v.Name (LH v)) d.Vars,Xf 32 (fun v:Zv=>Yy v.Name (ZoK d v)) d.Resources,Xf 32 (fun v:Yx=>Yy v.Name (L8 v)) d.Stores,Xf 32 (fun v:Wn=>Yy v.Name (Zbz v)) d.Belts,Xf 32 YC d.Queues,Xf 32 YC d.Streams,Xf 32 YC d.Tallies,Xf 32 YC d.Levels,Xf 32 YC d.Counts,
 Xf 16 (fun v:ZU=>Yy v.Name (X8 v)) d.Routines,fun s=>(NK 32 (VZ d) d.Starts,s),fun s=>(DY d,s)]
def ZhT (d:Ze):Int:=(D6 (Zec d) []).1
theorem Zpn.l {m:QV}(h:Zpn m):m.Params.length≤4611686018427387∧m.Sites.length≤4611686018427387∧m.Links.length≤4611686018427387:=by
 have:=h.Params.1; have:=h.Sites.1; have:=h.Links.1; omega
def ZaO (s:List UInt8)(seen:Seen):Int:=Wh (VE s) (Y5 (!(seen.contains s)) 4)
theorem Ze8 (s:List UInt8)(rest:Int)(seen:Seen):(Yy s rest seen).1=Wh (ZaO s seen) rest:=by
 by_cases h1:VE s=0 <;> rcases Bool.eq_false_or_eq_true (seen.contains s) with h2 | h2 <;> simp only [Yy,YC,ZaO,Wh,Y5,h1,h2] <;> simp [h1]
theorem ZwW {s:List UInt8}{rest:Int}{seen:Seen}(h:Wh (ZaO s seen) rest=0):(Yy s rest seen)=(0,seen ++ [s]):=by
 by_cases h1:VE s=0 <;> rcases Bool.eq_false_or_eq_true (seen.contains s) with h2 | h2 <;> simp only [ZaO,Wh,Y5,h1,h2] at h <;> simp [h1] at h
 simp only [Yy,YC,h1,h2]
 simp [h]
theorem ZxH (f:WP):Y5 (Zkh f.Ty) 1=ZcZ f:=by
 rw [ZnD]; unfold Y5 ZcZ; cases btw f.Ty 1 3 <;> rfl
def Xz (d:Ze):List (Int×List (List UInt8×Int)):=[(32,d.Vars.map fun v=>(v.Name,LH v)),(32,d.Resources.map fun v=>(v.Name,ZoK d v)),(32,d.Stores.map fun v=>(v.Name,L8 v)),(32,d.Belts.map fun v=>(v.Name,Zbz v)),(32,d.Queues.map fun v=>(v,0)),(32,d.Streams.map fun v=>(v,0)),(32,d.Tallies.map fun v=>(v,0)),(32,d.Levels.map fun v=>(v,0)),(32,d.Counts.map fun v=>(v,0)),(16,d.Routines.map fun v=>(v.Name,X8 v))]
theorem Zz0 (x:Yx):Wh (Y5 (btw x.Room 1 1000) 2) (Y5 (decide (1≤x.Policy) && decide (x.Policy≤3)) 1)=L8 x:=by
 unfold Wh Y5 L8
 have e:(decide (x.Policy < 1) || decide (3 < x.Policy))=!(decide (1≤x.Policy) && decide (x.Policy≤3)):=by
  have a1:decide (x.Policy < 1)=!decide (1≤x.Policy):=by rw [← decide_not]; congr 1; apply propext; omega
  have a2:decide (3 < x.Policy)=!decide (x.Policy≤3):=by rw [← decide_not]; congr 1; apply propext; omega
  rw [Bool.not_and,a1,a2]
 rw [e]
 cases btw x.Room 1 1000 <;> cases (decide (1≤x.Policy) && decide (x.Policy≤3)) <;> simp
theorem ZzY (x:Wn):Y5 (btw x.Length 1 1000 && btw x.Step 1 1000) 2=Zbz x:=by
 unfold Y5 Zbz; cases btw x.Length 1 1000 <;> cases btw x.Step 1 1000 <;> rfl
theorem valueR (v:VT):Wh (Y5 (Zkh v.Ty) 1) (Y5 (fitsT v.Ty v.N) 2)=LH v:=by
 rw [ZnD]; unfold Wh Y5 LH; cases btw v.Ty 1 3 <;> cases fitsT v.Ty v.N <;> rfl
theorem IY {α β:Type}{f:α→β}{l:List α}{i:Nat}{y:β}(h:(l.map f)[i]? = some y):∃ x,l[i]? = some x∧f x=y:=by
 rw [List.getElem?_map] at h
 exact Option.map_eq_some_iff.1 h
theorem kd (k:Nat):(∀ j:Nat,k=j→decide (((k:Nat):Int)=(j:Int))=true)∧(∀ j:Nat,k≠j→decide (((k:Nat):Int)=(j:Int))=false):=⟨fun j h=>by simp [h],fun j h=>by simp only [decide_eq_false_iff_not]; omega⟩
def Hq (q:List UInt8×Int):Seen→Int×Seen:=Yy q.1 q.2
def stepD (p:Int×List (List UInt8×Int)):Seen→Int×Seen:=Xf p.1 Hq p.2
theorem ZjZ {α β σ:Type}(f:α→β)(step:β→σ→Int×σ):∀ (l:List α) (s:σ),YO step (l.map f) s=YO (fun x=>step (f x)) l s
 | [],s=>rfl
 | x :: r,s=>by rw [List.map_cons,YO,YO,ZjZ f step r]
theorem O3 {α β σ:Type}(f:α→β)(step:β→σ→Int×σ)(most:Int)(l:List α):Xf most step (l.map f)=Xf most (fun x=>step (f x)) l:=by
 funext s; unfold Xf; rw [ZjZ,List.length_map]
def ZbZ (d:Ze)(laws:Int):Int:=if decide (NK 32 (VZ d) d.Starts≠0)=true then NK 32 (VZ d) d.Starts else laws
def Zzz (d:Ze)(laws:Int):Int:=if decide ((D6 ((Xz d).map stepD) []).1≠0)=true then (D6 ((Xz d).map stepD) []).1 else ZbZ d laws
theorem ZwO (d:Ze):ZhT d=Zzz d (DY d):=by
 have e:Zec d=(Xz d).map stepD ++ [fun s=>(NK 32 (VZ d) d.Starts,s),fun s=>(DY d,s)]:=by
  have f1:stepD (32,d.Vars.map fun v=>(v.Name,LH v))=Xf 32 (fun v:VT=>Yy v.Name (LH v)) d.Vars:=O3 _ _ _ _
  have f2:stepD (32,d.Resources.map fun v=>(v.Name,ZoK d v))=Xf 32 (fun v:Zv=>Yy v.Name (ZoK d v)) d.Resources:=O3 _ _ _ _
  have f3:stepD (32,d.Stores.map fun v=>(v.Name,L8 v))=Xf 32 (fun v:Yx=>Yy v.Name (L8 v)) d.Stores:=O3 _ _ _ _
  have f4:stepD (32,d.Belts.map fun v=>(v.Name,Zbz v))=Xf 32 (fun v:Wn=>Yy v.Name (Zbz v)) d.Belts:=O3 _ _ _ _
  have z:(fun v:List UInt8=>Hq (v,0))=YC:=by
   funext v s
   show Yy v 0 s=YC v s
   unfold Yy
   by_cases h:(YC v s).1=0
   ·simp only [h,ne_eq,not_true_eq_false,decide_false,Bool.false_eq_true,if_false]; rw [← h]
   ·simp [h]
  have f5:∀ l:List (List UInt8),stepD (32,l.map fun v=>(v,0))=Xf 32 YC l:=fun l=>by rw [stepD,O3,z]
  have f6:stepD (16,d.Routines.map fun v=>(v.Name,X8 v))=Xf 16 (fun v:ZU=>Yy v.Name (X8 v)) d.Routines:=O3 _ _ _ _
  unfold Zec Xz
  simp only [List.map_cons,List.map_nil,f1,f2,f3,f4,f5,f6]
  rfl
 have ap:∀ (l:List (Seen→Int×Seen)) (s:Seen),(D6 (l ++ [fun s=>(NK 32 (VZ d) d.Starts,s),fun s=>(DY d,s)]) s).1=if decide ((D6 l s).1≠0)=true then (D6 l s).1 else ZbZ d (DY d):=by
  intro l
  induction l with
  | nil =>
   intro s
   by_cases h:NK 32 (VZ d) d.Starts=0 <;> by_cases h2:DY d=0 <;> simp [D6,ZbZ,h,h2]
  | cons f r ih =>
   intro s
   rw [List.cons_append,D6,D6]
   by_cases h:(f s).1=0
   ·simp only [h,ne_eq,not_true_eq_false,decide_false,Bool.false_eq_true,if_false]
    exact ih _
   ·simp [h]
 rw [ZhT,e,ap]
 rfl
theorem Zoa (d:Ze):∀ (k:Nat) (p:Int×List (List UInt8×Int)),(Xz d)[k]? = some p→p.1=if k=9 then 16 else 32
 | 0,p,h=>by cases h; rfl
 | 1,p,h=>by cases h; rfl
 | 2,p,h=>by cases h; rfl
 | 3,p,h=>by cases h; rfl
 | 4,p,h=>by cases h; rfl
 | 5,p,h=>by cases h; rfl
 | 6,p,h=>by cases h; rfl
 | 7,p,h=>by cases h; rfl
 | 8,p,h=>by cases h; rfl
 | 9,p,h=>by cases h; rfl
 | k + 10,p,h=>by simp [Xz] at h
theorem Zn7:∀ (l:List (List UInt8×Int)) (s:Seen),(YO Hq l s).2.length≤s.length + l.length
 | [],s=>by simp [YO]
 | x :: r,s=>by
  have ih:=Zn7 r (Hq x s).2
  have h1:(Hq x s).2.length≤s.length + 1:=by
   unfold Hq Yy
   split
   ·unfold YC; split <;> (try split) <;> simp
   ·show (YC x.1 s).2.length≤_
    unfold YC; split <;> (try split) <;> simp
  rw [YO]
  split
  ·simp; omega
  ·simp; omega
theorem ZrU {s:List UInt8}{rest:Int}{seen:Seen}(h:(Yy s rest seen).1=0):(Yy s rest seen).2=seen ++ [s]∧s ∉ seen∧rest=0:=by
 rw [Ze8] at h
 have w:=ZwW h
 refine ⟨by rw [w],?_,?_⟩
 ·intro hm
  have:seen.contains s=true:=by simpa using hm
  simp only [ZaO,this,Wh,Y5] at h
  by_cases h1:VE s=0 <;> simp [h1] at h
 ·by_cases h1:ZaO s seen=0
  ·simpa [Wh,h1] using h
  ·simp [Wh,h1] at h
theorem ZrI:∀ (l:List (List UInt8×Int)) (s:Seen),(YO Hq l s).1=0→(YO Hq l s).2=s ++ l.map (·.1)∧(∀ q ∈ l.map (·.1),q ∉ s)∧(l.map (·.1)).Nodup∧∀ q ∈ l,q.2=0
 | [],s,_=>by simp [YO]
 | x :: r,s,h=>by
  by_cases hz:(Hq x s).1=0
  ·obtain ⟨w1,w2,w3⟩:=ZrU (s := x.1) (rest := x.2) (seen := s) hz
   have e:YO Hq (x :: r) s=YO Hq r (s ++ [x.1]):=by
    have:(Hq x s).2=s ++ [x.1]:=w1
    simp [YO,hz,this]
   rw [e] at h ⊢
   obtain ⟨i1,i2,i3,i4⟩:=ZrI r _ h
   refine ⟨by rw [i1]; simp,?_,?_,?_⟩
   ·intro q hq
    rw [List.map_cons] at hq
    rcases List.mem_cons.1 hq with rfl | hq
    ·exact w2
    ·exact fun hm=>i2 q hq (by simp [hm])
   ·rw [List.map_cons,List.nodup_cons]
    exact ⟨fun hm=>i2 x.1 hm (by simp),i3⟩
   ·intro q hq
    rcases List.mem_cons.1 hq with rfl | hq
    ·exact w3
    ·exact i4 q hq
  ·have e:YO Hq (x :: r) s=Hq x s:=by simp [YO,hz]
   rw [e] at h; exact absurd h hz
def Zb6 (p:Int×List (List UInt8×Int)):List (List UInt8):=p.2.map (·.1)
theorem ZuJ:∀ (ds:List (Int×List (List UInt8×Int))) (s:Seen),(D6 (ds.map stepD) s).1=0→ds.Pairwise (fun a b=>∀ x ∈ Zb6 a,x ∉ Zb6 b)∧(∀ p ∈ ds,(Zb6 p).Nodup∧(∀ x ∈ Zb6 p,x ∉ s)∧∀ q ∈ p.2,q.2=0)
 | [],s,_=>⟨List.Pairwise.nil,fun p h=>by cases h⟩
 | p :: r,s,h=>by
  by_cases hz:(stepD p s).1=0
  ·have e:D6 ((p :: r).map stepD) s=D6 (r.map stepD) (stepD p s).2:=by simp [D6,hz]
   rw [e] at h
   have hl:¬ p.1 < (p.2.length:Int):=fun hl=>by simp [stepD,Xf,hl] at hz
   have e2:stepD p s=YO Hq p.2 s:=by simp [stepD,Xf,hl]
   rw [e2] at hz h
   obtain ⟨w1,w2,w3,w4⟩:=ZrI p.2 s hz
   rw [w1] at h
   obtain ⟨i1,i2⟩:=ZuJ r _ h
   refine ⟨List.Pairwise.cons (fun b hb x hx hm=>(i2 b hb).2.1 x hm (by simp [Zb6] at hx ⊢; exact .inr hx)) i1,fun a ha=>?_⟩
   rcases List.mem_cons.1 ha with rfl | ha
   ·exact ⟨w3,w2,w4⟩
   ·exact ⟨(i2 a ha).1,fun x hx hm=>(i2 a ha).2.1 x hx (by simp [hm]),(i2 a ha).2.2⟩
  ·have e:D6 ((p :: r).map stepD) s=stepD p s:=by simp [D6,hz]
   rw [e] at h; exact absurd h hz
def O4 (nm:List UInt8):List (List UInt8×List (List UInt8))→List UInt8
 | []=>[]
 | (w,ns) :: r=>if ns.contains nm=true then w else O4 nm r
theorem ZfJ (nm:List UInt8):∀ l:List (List UInt8×List (List UInt8)),O4 nm l=[]∨O4 nm l ∈ l.map (·.1)
 | []=>.inl rfl
 | (w,ns) :: r=>by
  rw [O4]
  split
  ·right; simp
  ·rcases ZfJ nm r with h | h
   ·exact .inl h
   ·right; rw [List.map_cons]; exact List.mem_cons_of_mem _ h
theorem ZfI (nm:List UInt8):∀ l:List (List UInt8×List (List UInt8)),l.Pairwise (fun a b=>∀ x ∈ a.2,x ∉ b.2)→(l.map (·.1)).Nodup→[] ∉ l.map (·.1)→∀ p ∈ l,(O4 nm l=p.1↔nm ∈ p.2)
 | [],_,_,_,p,h=>by cases h
 | (w,ns) :: r,hp,hn,he,p,h=>by
  rw [List.pairwise_cons] at hp
  rw [List.map_cons,List.nodup_cons] at hn
  rw [List.map_cons,List.mem_cons,not_or] at he
  rw [O4]
  by_cases hc:nm ∈ ns
  ·rw [if_pos (by simpa using hc)]
   rcases List.mem_cons.1 h with rfl | h
   ·simp [hc]
   ·refine ⟨fun e=>absurd (List.mem_map_of_mem (f := (·.1)) h) (by show p.1 ∉ _; rw [← e]; exact hn.1),fun hm=>absurd hm (hp.1 p h nm hc)⟩
  ·rw [if_neg (by simpa using hc)]
   rcases List.mem_cons.1 h with rfl | h
   ·refine ⟨fun e=>?_,fun hm=>absurd hm hc⟩
    rcases ZfJ nm r with h1 | h1
    ·rw [h1] at e; exact absurd e he.1
    ·rw [e] at h1; exact absurd h1 hn.1
   ·exact ZfI nm r hp.2 hn.2 he.2 p h
def Vy (d:Ze):List (List UInt8×List (List UInt8)):=[([118,97,114],d.Vars.map (·.Name)),([114,101,115,111,117,114,99,101],d.Resources.map (·.Name)),([115,116,111,114,101],d.Stores.map (·.Name)),([98,101,108,116],d.Belts.map (·.Name)),([113,117,101,117,101],d.Queues),([115,116,114,101,97,109],d.Streams),([116,97,108,108,121],d.Tallies),([108,101,118,101,108],d.Levels),([99,111,117,110,116],d.Counts),([114,111,117,116,105,110,101],d.Routines.map (·.Name))]
theorem ZmV (d:Ze):(Vy d).map (·.2)=(Xz d).map Zb6:=by
 simp [Vy,Xz,Zb6,Function.comp_def]
end Go.Proofs.YtgjcjbhhhlelnaaGreatDoor
end
