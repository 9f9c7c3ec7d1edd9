import Derived.Test.YtbcfddaocfpckaaGreatDoorHEx3
set_option linter.all false
section
namespace Go.Proofs.YtbcfddaocfpckaaGreatDoor
open Go Go.Proofs.YtbcfddaocfpckaaGreatDoor.Abs
set_option maxRecDepth 100000
def NY (n:Int):Bool:=decide (97≤n) && decide (n≤122)
def Ip (n:Int):Bool:=NY n || decide (n=95) || (decide (48≤n) && decide (n≤57))
def kws:List (List UInt8):=[[97,100,100],[97,102,116,101,114],[97,110,100],[97,116],[98,101,108,116],[98,111,111,108],[99,111,110,115,101,114,118,101],[99,111,110,115,116],[99,111,117,110,116],[99,121,99,108,101],[100,111,119,110],[100,114,97,119],[100,117,114],[101,108,115,101],[101,110,100],[101,118,101,114,121],[102,97,108,115,101],[102,97,117,108,116],[102,105,102,111],[102,114,101,101],[102,114,111,109],[103,101,111,109],[103,101,116],[104,111,108,100],[105,102],[105,110,116],[105,110,116,111],[108,101,97,115,116],[108,101,118,101,108],[108,105,102,111],[108,105,110,107],[108,111,99,97,108],[109,97,120],[109,105,110],[109,111,100,101,108],[110,111,116],[110,111,119],[111,98,115,101,114,118,101],[111,114],[112,97,114,97,109],[112,114,101,101,109,112,116],[112,114,105,111],[112,117,116],[113,117,101,117,101],[114,101,108,101,97,115,101],[114,101,115,111,117,114,99,101],[114,105,100,101],[114,111,117,116,105,110,101],[115,101,105,122,101],[115,101,110,100],[115,101,116],[115,104,105,102,116],[115,105,103,110,97,108],[115,105,116,101],[115,105,122,101],[115,112,97,119,110],[115,116,97,114,116],[115,116,111,112],[115,116,111,114,101],[115,116,114,101,97,109],[115,117,109],[116,97,98,108,101],[116,97,108,108,121],[116,105,99,107,115],[116,105,109,101],[116,114,117,101],[117,110,105,102,111,114,109],[117,110,116,105,108],[117,112],[118,97,114],[119,97,105,116],[119,97,105,116,105,110,103],[119,104,105,108,101]]
def kwB (s:List UInt8):Bool:=kws.any fun k=>decide (s=k)
def WM (s:List UInt8):Int :=
 match s with
 | []=>3
 | c :: r=>if 24 < (c :: r).length∨NY c.toNat=false∨kwB (c :: r)=true then 3 else if (c :: r).all (fun x=>Ip x.toNat) then 0 else 3
def inB (n:Int):Bool:=decide (-1000000000000≤n) && decide (n≤1000000000000)
theorem OA (s:List UInt8):WM s=0∨WM s=3:=by
 unfold WM
 split
 ·exact .inr rfl
 ·split
  ·exact .inr rfl
  ·split
   ·exact .inl rfl
   ·exact .inr rfl
def QC {α σ:Type}(step:α→σ→Int×σ):List α→σ→Int×σ
 | [],s=>(0,s)
 | x :: r,s=>if decide ((step x s).1≠0)=true then step x s else QC step r (step x s).2
def Fv {σ:Type}:List (σ→Int×σ)→σ→Int×σ
 | [],s=>(0,s)
 | f :: r,s=>if decide ((f s).1≠0)=true then f s else Fv r (f s).2
theorem Zar {n:Int}(h1:-9223372036854775808≤n)(h2:n≤9223372036854775807):IntKind.i64.wrap n=n:=i64_in h1 h2
def SY (a b:ZU):Bool:=decide (a.Op=b.Op) && decide (a.A=b.A) && decide (a.B=b.B) && decide (a.N=b.N) && decide (a.Values=b.Values) && decide (a.Weights=b.Weights)
def btw (x lo hi:Int):Bool:=decide (lo≤x) && decide (x≤hi)
def KZ (d:ZU):Bool :=
 if decide (d.Op=1)=true then decide ((d.Values.length:Int) + d.Weights.length=0) && decide (d.B=0) && decide (d.N=0)
 else if decide (d.Op=2)=true then decide ((d.Values.length:Int) + d.Weights.length=0) && decide (d.N=0)
 else if decide (d.Op=5)=true then decide ((d.Values.length:Int) + d.Weights.length=0) && decide (d.N=0)
 else if decide (d.Op=4)=true then decide ((d.Values.length:Int) + d.Weights.length=0)
 else if decide (d.Op=3)=true then decide (d.A=0) && decide (d.B=0) && decide (d.N=0)
 else false
theorem Xq.v {d:ZU}(h:Xq d):d.Values.length≤4611686018427387:=by have:=h.Values.1; omega
theorem Xq.w {d:ZU}(h:Xq d):d.Weights.length≤4611686018427387:=by have:=h.Weights.1; omega
def Gf (d:ZU):Bool :=
 if decide (d.Op=1)=true then decide (d.B=0) && decide (d.N=0) && (decide ((d.Values.length:Int)=0) && decide ((d.Weights.length:Int)=0))
 else if decide (d.Op=2)=true then decide (d.N=0) && (decide ((d.Values.length:Int)=0) && decide ((d.Weights.length:Int)=0))
 else if decide (d.Op=5)=true then decide (d.N=0) && (decide ((d.Values.length:Int)=0) && decide ((d.Weights.length:Int)=0))
 else if decide (d.Op=3)=true then decide (d.A=0) && decide (d.B=0) && decide (d.N=0)
 else if decide (d.Op=4)=true then (decide ((d.Values.length:Int)=0) && decide ((d.Weights.length:Int)=0))
 else false
def Cf (lo hi:Int)(x:Int):Bool:=decide (x < lo) || decide (hi < x)
def LW {α:Type}(f:α→Bool):List α→Int→Int
 | [],_=>-1
 | x :: r,i=>if f x=true then i else LW f r (i + 1)
theorem Me {α:Type}(f:α→Bool):∀ (l:List α) (i:Int),0≤i→decide (0≤LW f l i)=l.any f
 | [],i,h=>by simp [LW]
 | x :: r,i,h=>by
  have ih:=Me f r (i + 1) (by omega)
  cases hx:f x <;> simp [LW,hx,h]
  simpa using ih
def Yc (lo hi:Int)(l:List Int):Bool:=!(l.any (Cf lo hi))
def UV (d:ZU):Int :=
 if (!(KZ d))=true then 1
 else if decide (d.Op=1)=true then (if (!(Yc 0 1000000000 [d.A]))=true then 2 else 0)
 else if decide (d.Op=2)=true then (if (!(Yc 0 1000000000 [d.A,d.B] && decide (d.A≤d.B)))=true then 2 else 0)
 else if decide (d.Op=4)=true then (if (!(Yc 1 20 [d.N] && Yc 0 1000000 [d.A,d.B] && decide (d.A≤d.B)))=true then 2 else 0)
 else if decide (d.Op=5)=true then (if (!(Yc 1 1000 [d.A,d.B]))=true then 2 else 0)
 else if decide (d.Op=3)=true then
  (if decide ((d.Values.length:Int)≠(d.Weights.length:Int))=true then 8 else if decide ((d.Values.length:Int)=0)=true then 7 else if decide (20 < (d.Values.length:Int))=true then 6
   else if (!(Yc 0 1000000000 d.Values && Yc 1 1000 d.Weights))=true then 2 else 0)
 else 2
def SA:List Int→List Int→Int
 | x :: r,y :: s=>if (!(btw x 0 1000000000) || !(btw y 1 1000))=true then 2 else SA r s
 | _,_=>0
def RH (d:ZU):Int :=
 if decide ((d.Values.length:Int)≠(d.Weights.length:Int))=true then 8 else if decide ((d.Values.length:Int)=0)=true then 7 else if decide (20 < (d.Values.length:Int))=true then 6 else SA d.Values d.Weights
def PT (d:ZU):Int :=
 if (!(Gf d))=true then 1
 else if decide (d.Op=1)=true then (if (!(btw d.A 0 1000000000))=true then 2 else 0)
 else if decide (d.Op=2)=true then (if (!(btw d.A 0 d.B && decide (d.B≤1000000000)))=true then 2 else 0)
 else if decide (d.Op=3)=true then RH d
 else if decide (d.Op=4)=true then (if (!(btw d.N 1 20 && btw d.A 0 d.B && decide (d.B≤1000000)))=true then 2 else 0)
 else if decide (d.Op=5)=true then (if (!(btw d.A 1 1000 && btw d.B 1 1000))=true then 2 else 0)
 else 0
def PL (op:Int):Bool:=decide (22≤op) && decide (op≤24)
def Vp (op:Int):Int :=
 if (decide (op=1) || decide (op=2) || decide (op=3) || decide (op=4))=true then 0
 else if (decide (5≤op) && decide (op≤8))=true then 1
 else if (decide (9≤op) && decide (op≤21))=true then 2
 else if (decide (22≤op) && decide (op≤26))=true then 0 else -1
def Ko (code:Bool)(op:Int):Bool :=
 if decide (op=3)=true then !code else if decide (op=25)=true then code else if decide (op=26)=true then code else decide (0≤Vp op)
def OB (code:Bool)(op:Int):Bool:=decide (op=3) || (PL op && !code)
def PK (code:Bool)(op:Int):Int×Int×Bool :=
 if decide (op=2)=true then (0,1,true) else if decide (op=25)=true then (0,15,true) else if decide (op=26)=true then (0,31,true) else if (PL op && code)=true then (0,63,true) else (0,0,false)
def VV (code:Bool)(e:Zc):Int :=
 if (!(Ko code e.Op) || decide ((e.Kids.length:Int)≠Vp e.Op) || (decide (e.Name≠[]) && !(OB code e.Op)))=true then 1
 else if decide (e.Op=1)=true then (if (!(inB e.N))=true then 2 else 0)
 else if (!(PK code e.Op).2.2 && decide (e.N≠0))=true then 1
 else if ((PK code e.Op).2.2 && (decide (e.N < (PK code e.Op).1) || decide ((PK code e.Op).2.1 < e.N)))=true then 2
 else if OB code e.Op=true then WM e.Name else 0
theorem VU {x e:Zc}(h:x ∈ e.Kids):SizeOf.sizeOf x < SizeOf.sizeOf e:=by
 cases e
 have:=List.sizeOf_lt_of_mem h
 simp at *
 omega
theorem XG (e:Zc):0 < SizeOf.sizeOf e:=by cases e; simp; omega
theorem Zt.k {e:Zc}(h:Zt e):e.Kids.length≤4611686018427387:=by have:=h.Kids.1; omega
theorem Zt.n {e:Zc}(h:Zt e):e.Name.length≤140737488351232:=h.Name
mutual
def Yo (code:Bool):Zc→Int
 | ⟨o,a,n,ks⟩=>if decide (VV code ⟨o,a,n,ks⟩≠0)=true then VV code ⟨o,a,n,ks⟩ else Kr code ks
def Kr (code:Bool):List Zc→Int
 | []=>0
 | x :: r=>if decide (Yo code x≠0)=true then Yo code x else Kr code r
end
theorem Hm (code:Bool):∀ l:List Zc,Kr code l=Q8 (Yo code) l
 | []=>by rw [Kr]; rfl
 | x :: r=>by rw [Kr,Hm code r]; rfl
theorem Kq (code:Bool)(e:Zc):Yo code e=if decide (VV code e≠0)=true then VV code e else Q8 (Yo code) e.Kids:=by
 cases e; rw [Yo,Hm]
mutual
def Dp:Zc→Int
 | ⟨_,_,_,ks⟩=>Dt ks 1
def Dt:List Zc→Int→Int
 | [],n=>n
 | x :: r,n=>Dt r (IntKind.i64.wrap (n + Dp x))
end
theorem LU:∀ (l:List Zc) (n:Int),Dt l n=sumW Dp l n
 | [],n=>by rw [Dt]; rfl
 | x :: r,n=>by rw [Dt,LU r]; rfl
theorem Dq (e:Zc):Dp e=sumW Dp e.Kids 1:=by cases e; rw [Dp,LU]
mutual
def Du:Zc→Int
 | ⟨_,_,_,ks⟩=>IntKind.i64.wrap (Dw ks 0 + 1)
def Dw:List Zc→Int→Int
 | [],n=>n
 | x :: r,n=>Dw r (if Du x > n then Du x else n)
end
theorem LV:∀ (l:List Zc) (n:Int),Dw l n=Nk Du l n
 | [],n=>by rw [Dw]; rfl
 | x :: r,n=>by rw [Dw,LV r]; rfl
theorem Dv (e:Zc):Du e=IntKind.i64.wrap (Nk Du e.Kids 0 + 1):=by cases e; rw [Du,LV]
def UQ (op:Int):Int :=
 if (decide (op < 1) || decide (26 < op))=true then -1 else if (decide (5≤op) && decide (op≤8))=true then 1 else if (decide (9≤op) && decide (op≤21))=true then 2 else 0
def Nl (op:Int):Int:=if decide (op=25)=true then 15 else if decide (op=26)=true then 31 else 63
def Be (code:Bool)(e:Zc):Int :=
 if (!(decide (0≤UQ e.Op) && ((code && decide (e.Op≠3)) || (!code && decide (e.Op≤24)))) || (!(!code && (decide (e.Op=3) || PL e.Op)) && decide (e.Name≠[])) || (!(decide (e.Op=1) || decide (e.Op=2) || (code && (PL e.Op || decide (e.Op=25) || decide (e.Op=26)))) && decide (e.N≠0)) || decide ((e.Kids.length:Int)≠UQ e.Op))=true then 1
 else if ((decide (e.Op=1) && !(inB e.N)) || ((decide (e.Op=2) && decide (e.N≠0)) && decide (e.N≠1)) || ((code && (PL e.Op || decide (e.Op=25) || decide (e.Op=26))) && (decide (e.N < 0) || decide (Nl e.Op < e.N))))=true then 2
 else if ((!code && (decide (e.Op=3) || PL e.Op)) && decide (WM e.Name≠0))=true then WM e.Name else 0
theorem Za1 (op:Int):1≤op∧op≤26→op=1∨op=2∨op=3∨op=4∨op=5∨op=6∨op=7∨op=8∨op=9∨op=10∨op=11∨op=12∨op=13∨op=14∨op=15∨op=16∨op=17∨op=18∨op=19∨op=20∨op=21∨op=22∨op=23∨op=24∨op=25∨op=26:=by omega
theorem PY (code:Bool)(e:Zc):Be code e=VV code e:=by
 obtain ⟨op,nm,n,ks⟩:=e
 by_cases h:1≤op∧op≤26
 ·rcases Za1 op h with rfl | rfl | rfl | rfl | rfl | rfl | rfl | rfl | rfl | rfl | rfl | rfl | rfl | rfl | rfl | rfl | rfl | rfl | rfl | rfl | rfl | rfl | rfl | rfl | rfl | rfl <;> cases code <;> simp [Be,VV,UQ,Nl,PL,Vp,Ko,OB,PK] <;> grind
 ·have h1:UQ op=-1:=by simp only [UQ]; rw [if_pos]; simp; omega
  have h2:Vp op=-1:=by
   simp only [Vp]
   rw [if_neg (by simp; omega),if_neg (by simp; omega),if_neg (by simp; omega),if_neg (by simp; omega)]
  have h3:Ko code op=false:=by
   simp only [Ko,h2]
   rw [if_neg (by simp; omega),if_neg (by simp; omega),if_neg (by simp; omega)]; rfl
  simp [Be,VV,h1,h2,h3]
theorem DT (code:Bool)(e:Zc):(if decide (Be code e≠0)=true then Be code e else Q8 (Yo code) e.Kids)=Yo code e:=by rw [PY,← Kq]
def Yg (code:Bool)(e:Zc):Int:=if decide (60 < Dp e)=true then 6 else if decide (12 < Du e)=true then 11 else Yo code e
def Vh (op:Int):IU×Bool:=if decide (op=1)=true then (⟨true,false,true,false,false,false,false,false,false⟩,true) else if decide (op=7)=true then (⟨true,false,true,false,false,false,false,false,false⟩,true) else if decide (op=8)=true then (⟨true,false,true,false,false,false,false,false,false⟩,true) else if decide (op=12)=true then (⟨true,false,true,false,false,false,false,false,false⟩,true) else if decide (op=15)=true then (⟨true,false,true,false,false,false,false,false,false⟩,true) else if decide (op=16)=true then (⟨true,false,true,false,false,false,false,false,false⟩,true) else if decide (op=17)=true then (⟨true,false,true,false,false,false,false,false,false⟩,true) else if decide (op=2)=true then (⟨true,true,false,false,false,true,false,false,false⟩,true) else if decide (op=3)=true then (⟨false,false,true,false,false,false,false,true,true⟩,true) else if decide (op=4)=true then (⟨false,false,true,false,false,false,false,true,false⟩,true) else if decide (op=5)=true then (⟨false,false,true,false,false,false,false,false,false⟩,true) else if decide (op=6)=true then (⟨true,false,true,true,false,false,true,false,false⟩,true) else if decide (op=9)=true then (⟨true,true,false,false,false,false,false,false,false⟩,true) else if decide (op=10)=true then (⟨true,false,false,false,false,false,false,false,false⟩,true) else if decide (op=11)=true then (⟨true,false,false,false,false,false,false,false,false⟩,true) else if decide (op=13)=true then (⟨true,true,true,false,true,false,false,false,false⟩,true) else if decide (op=14)=true then (⟨true,false,true,false,true,false,false,false,false⟩,true) else if decide (op=18)=true then (⟨false,false,false,false,false,false,false,false,false⟩,true) else (⟨false,false,false,false,false,false,false,false,false⟩,false)
def BV (e:Zc):Bool:=decide (e.Op=0) && decide (e.Name=[]) && decide (e.N=0) && decide ((e.Kids.length:Int)=0)
def Jm (d:ZU):Bool:=decide (d.Op=0) && decide (d.A=0) && decide (d.B=0) && decide (d.N=0) && decide (d.Values=[]) && decide (d.Weights=[])
def PW (s:Zl)(u:IU):Bool :=
 (u.name || decide (s.Name=[])) && (u.of || decide (s.Of=[])) && (u.e || BV s.E) && (u.f || BV s.F) && (u.args || decide ((s.Args.length:Int)=0)) && (u.dist || Jm s.Dist) && (u.flag || !s.Flag) && (u.body || decide ((s.Body.length:Int)=0)) && (u.other || decide ((s.Else.length:Int)=0))
def Dz (s:Zl):Bool :=
 (Vh s.Op).2 && ((((Vh s.Op).1.name || decide (s.Name=[])) && ((Vh s.Op).1.of || decide (s.Of=[])))) && (((Vh s.Op).1.e || BV s.E) && ((Vh s.Op).1.f || BV s.F) && ((Vh s.Op).1.args || decide ((s.Args.length:Int)=0))) && (((Vh s.Op).1.body || decide ((s.Body.length:Int)=0)) && ((Vh s.Op).1.other || decide ((s.Else.length:Int)=0))) && ((Vh s.Op).1.dist || Jm s.Dist) && ((Vh s.Op).1.flag || !s.Flag)
theorem PU (s:Zl):Dz s=((Vh s.Op).2 && PW s (Vh s.Op).1):=by
 simp only [Dz,PW]
 generalize (Vh s.Op).1=u
 generalize (Vh s.Op).2=b
 ac_rfl
def RV (s:Zl)(u:IU):List Zc→Int
 | []=>if u.dist=true then UV s.Dist else 0
 | x :: r=>if decide (Yg false x≠0)=true then Yg false x else RV s u r
def Pi (s:Zl)(u:IU):Int:=if decide (6 < (s.Args.length:Int))=true then 6 else RV s u s.Args
def Pm (s:Zl)(u:IU):Int:=if (!u.f)=true then Pi s u else if decide (Yg false s.F≠0)=true then Yg false s.F else Pi s u
def Pj (s:Zl)(u:IU):Int:=if (!u.e)=true then Pm s u else if decide (Yg false s.E≠0)=true then Yg false s.E else Pm s u
def Su (s:Zl)(u:IU):Int :=
 if (u.name && decide (WM s.Name≠0))=true then WM s.Name else if (u.of && decide (WM s.Of≠0))=true then WM s.Of else Pj s u
theorem Z8.a {s:Zl}(h:Z8 s):s.Args.length≤4611686018427387:=by have:=h.Args.1; omega
theorem EW (s:Zl):SizeOf.sizeOf s.E < SizeOf.sizeOf s∧SizeOf.sizeOf s.F < SizeOf.sizeOf s∧SizeOf.sizeOf s.Args < SizeOf.sizeOf s∧SizeOf.sizeOf s.Body < SizeOf.sizeOf s∧SizeOf.sizeOf s.Else < SizeOf.sizeOf s:=by
 cases s; simp; omega
theorem Za3 {s:Zl}{x:Zc}(h:x ∈ s.Args):SizeOf.sizeOf x < SizeOf.sizeOf s:=by
 have:=List.sizeOf_lt_of_mem h
 have:=(EW s).2.2.1
 omega
def Jv (s:Zl):List Zc→Int→Int
 | [],e=>e
 | x :: r,e=>if decide (e=0)=true then Jv s r (Yg false x) else e
def UW (s:Zl)(u:IU):Int :=
 Jv s s.Args (if (decide ((if (decide ((if u.e=true then Yg false s.E else 0)=0) && u.f)=true then Yg false s.F else (if u.e=true then Yg false s.E else 0))=0) && decide (6 < (s.Args.length:Int)))=true then 6
  else (if (decide ((if u.e=true then Yg false s.E else 0)=0) && u.f)=true then Yg false s.F else (if u.e=true then Yg false s.E else 0)))
def Zah (s:Zl):Int :=
 if (!(Dz s))=true then 1
 else if (((Vh s.Op).1.name && decide (WM s.Name≠0)) || ((Vh s.Op).1.of && decide (WM s.Of≠0)))=true then 3
 else if (decide (UW s (Vh s.Op).1=0) && (Vh s.Op).1.dist)=true then PT s.Dist else UW s (Vh s.Op).1
theorem Io (s:Zl)(l:List Zc)(e:Int)(h:e≠0):Jv s l e=e:=by
 cases l <;> simp [Jv,h]
theorem Hg (s:Zl)(u:IU):∀ l:List Zc,(if (decide (Jv s l 0=0) && u.dist)=true then UV s.Dist else Jv s l 0)=RV s u l
 | []=>by simp [Jv,RV]
 | x :: r=>by
  by_cases h:Yg false x=0
  ·simp only [Jv,RV,h,decide_true,if_true,ne_eq,not_true_eq_false,decide_false,Bool.false_eq_true,if_false]
   exact Hg s u r
  ·simp [Jv,RV,h,Io]
def Nr (s:Zl):Int:=if (!(Vh s.Op).2 || !(PW s (Vh s.Op).1))=true then 1 else Su s (Vh s.Op).1
theorem EO (lo hi a:Int):Yc lo hi [a]=btw a lo hi:=by
 simp only [Yc,List.any_cons,List.any_nil,Cf,btw,Bool.or_false,Bool.not_or,← decide_not,Int.not_lt]
theorem EP (lo hi a b:Int):Yc lo hi [a,b]=(btw a lo hi && btw b lo hi):=by
 simp only [Yc,List.any_cons,List.any_nil,Cf,btw,Bool.or_false,Bool.not_or,← decide_not,Int.not_lt]
theorem EQ (lo hi a:Int)(l:List Int):Yc lo hi (a :: l)=(btw a lo hi && Yc lo hi l):=by
 simp only [Yc,List.any_cons,Cf,btw,Bool.not_or,← decide_not,Int.not_lt]
theorem SB:∀ (l m:List Int),l.length=m.length→SA l m=if (!(Yc 0 1000000000 l && Yc 1 1000 m))=true then 2 else 0
 | [],[],_=>by simp [SA,Yc]
 | [],y :: m,h=>by simp at h
 | x :: l,[],h=>by simp at h
 | x :: l,y :: m,h=>by
  have ih:=SB l m (by simpa using h)
  simp only [SA,EQ,ih]
  generalize Yc 0 1000000000 l=c1
  generalize Yc 1 1000 m=c2
  cases btw x 0 1000000000 <;> cases btw y 1 1000 <;> cases c1 <;> cases c2 <;> rfl
theorem Zae (a b:Nat):decide ((a:Int) + (b:Int)=0)=(decide ((a:Int)=0) && decide ((b:Int)=0)):=by
 rw [← Bool.decide_and]; congr 1; apply propext; omega
theorem P9 (d:ZU):Gf d=KZ d:=by
 simp only [Gf,KZ,Zae]
 by_cases h1:d.Op=1
 ·simp [h1]; ac_rfl
 by_cases h2:d.Op=2
 ·simp [h2,Bool.and_comm]
 by_cases h5:d.Op=5
 ·simp [h5,Bool.and_comm]
 by_cases h3:d.Op=3
 ·simp [h3]
 by_cases h4:d.Op=4
 ·simp [h4]
 simp [h1,h2,h3,h4,h5]
theorem Iq (d:ZU):PT d=UV d:=by
 simp only [PT,UV,P9,EO,EP,RH]
 by_cases hu:KZ d=true
 ·simp only [hu]
  by_cases h1:d.Op=1
  ·simp [h1]
  by_cases h2:d.Op=2
  ·simp only [h2,btw]; simp; grind
  by_cases h3:d.Op=3
  ·simp only [h3]
   by_cases hl:d.Values.length=d.Weights.length
   ·rw [SB _ _ hl]; simp
   ·have:¬ ((d.Values.length:Int)=d.Weights.length):=by omega
    simp [this]
  by_cases h4:d.Op=4
  ·simp only [h4,btw]; simp; grind
  by_cases h5:d.Op=5
  ·simp [h5]
  ·exfalso
   simp [KZ,h1,h2,h3,h4,h5] at hu
 ·simp [hu]
theorem Es (s:Zl):Zah s=Nr s:=by
 have n1:=OA s.Name
 have n2:=OA s.Of
 unfold Zah Nr Su
 rw [PU,Iq]
 generalize Vh s.Op=w
 obtain ⟨u,b⟩:=w
 simp only
 have key:(if (decide (UW s u=0) && u.dist)=true then UV s.Dist else UW s u)=Pj s u:=by
  have ha:=Hg s u s.Args
  unfold UW Pj Pm Pi
  rcases Bool.eq_false_or_eq_true u.e with h1 | h1 <;> rcases Bool.eq_false_or_eq_true u.f with h3 | h3 <;> rcases Bool.eq_false_or_eq_true (decide (6 < (s.Args.length:Int))) with h5 | h5 <;> by_cases h2:Yg false s.E=0 <;> by_cases h4:Yg false s.F=0 <;>
   simp only [h1,h2,h3,h4,h5,ne_eq,not_true_eq_false,not_false_eq_true,decide_true,decide_false,BL,IFJ,Io,Bool.false_eq_true,if_true,if_false] <;> first | exact ha | (simp [Io,h2,h4]; done) | rfl
 rw [key]
 rcases n1 with h1 | h1 <;> rcases n2 with h2 | h2 <;> cases b <;> cases PW s u <;> cases u.name <;> cases u.of <;> simp [h1,h2]
mutual
def ER:Zl→Int
 | ⟨_,_,_,_,_,_,_,_,b,e⟩=>IntKind.i64.wrap (VP b (b.length:Int) + VP e (e.length:Int))
def VP:List Zl→Int→Int
 | [],n=>n
 | x :: r,n=>VP r (IntKind.i64.wrap (n + ER x))
end
mutual
def ES:Zl→Int→Int
 | ⟨_,_,_,_,_,_,_,_,b,e⟩,n=>IntKind.i64.wrap (IntKind.i64.wrap (IntKind.i64.wrap (n + 1) + WL b 0) + WL e 0)
def WL:List Zl→Int→Int
 | [],n=>n
 | x :: r,n=>WL r (ES x n)
end
theorem Dn (s:Zl)(n:Int):ES s n=IntKind.i64.wrap (IntKind.i64.wrap (IntKind.i64.wrap (n + 1) + WL s.Body 0) + WL s.Else 0):=by cases s; rw [ES]
def mx3 (a b c:Int):Int:=if c > (if b > a then b else a) then c else (if b > a then b else a)
mutual
def CX:Zl→Int→Int
 | ⟨_,_,_,_,_,_,_,_,b,e⟩,n=>mx3 n (IntKind.i64.wrap (1 + UU b 0)) (IntKind.i64.wrap (1 + UU e 0))
def UU:List Zl→Int→Int
 | [],n=>n
 | x :: r,n=>UU r (CX x n)
end
theorem SV (s:Zl)(n:Int):CX s n=mx3 n (IntKind.i64.wrap (1 + UU s.Body 0)) (IntKind.i64.wrap (1 + UU s.Else 0)):=by cases s; rw [CX]
mutual
def Cc:Zl→Int
 | ⟨a,b,c,d,e,f,g,h,i,j⟩=>if decide (Nr ⟨a,b,c,d,e,f,g,h,i,j⟩≠0)=true then Nr ⟨a,b,c,d,e,f,g,h,i,j⟩ else if decide (Xp i≠0)=true then Xp i else Xp j
def Xp:List Zl→Int
 | []=>0
 | x :: r=>if decide (Cc x≠0)=true then Cc x else Xp r
end
theorem SS (s:Zl):Cc s=if decide (Nr s≠0)=true then Nr s else if decide (Xp s.Body≠0)=true then Xp s.Body else Xp s.Else:=by cases s; rw [Cc]
theorem SQ (p B E R:Int):(if decide (p=0)=true then (if decide (B=0)=true then (if decide (E≠0)=true then E else R) else if decide (B≠0)=true then B else R) else if decide (p≠0)=true then p else R) =
  if decide ((if decide (p≠0)=true then p else if decide (B≠0)=true then B else E)≠0)=true then (if decide (p≠0)=true then p else if decide (B≠0)=true then B else E) else R:=by
 by_cases h1:p=0 <;> by_cases h2:B=0 <;> by_cases h3:E=0 <;> simp [h1,h2,h3]
theorem Zam {s:Zl}{l:List Zl}(h:s ∈ l):SizeOf.sizeOf s < SizeOf.sizeOf l∧SizeOf.sizeOf s.Body < SizeOf.sizeOf l∧SizeOf.sizeOf s.Else < SizeOf.sizeOf l:=by
 have:=List.sizeOf_lt_of_mem h
 have:=EW s
 omega
def Dc (l:List Zl):Prop:=l.length≤4611686018427387∧∀ s ∈ l,Z8 s
theorem Z8.b {s:Zl}(h:Z8 s):Dc s.Body∧Dc s.Else:=by
 have h1:=h.Body; have h2:=h.Else
 exact ⟨⟨by omega,h1.2⟩,by omega,h2.2⟩
theorem Zan (l:List Zl):0 < SizeOf.sizeOf l:=by cases l <;> simp <;> omega
def Oz (l:List Zl):Int:=if decide (200 < VP l (l.length:Int))=true then 6 else if decide (12 < UU l 0)=true then 11 else Xp l
def TZ (l:List Zl):Int:=if decide (200 < WL l 0)=true then 6 else if decide (12 < UU l 0)=true then 11 else Xp l
theorem wrK (n:Int):∃ k:Int,IntKind.i64.wrap n=n + 18446744073709551616 * k:=by
 rw [IntKind.wrap_i64]
 exact ⟨-((n + 9223372036854775808) / 18446744073709551616),by omega⟩
theorem wrR (n:Int):-9223372036854775808≤IntKind.i64.wrap n∧IntKind.i64.wrap n≤9223372036854775807:=by
 rw [IntKind.wrap_i64]
 constructor <;> omega
mutual
def trS:Zl→Int
 | ⟨_,_,_,_,_,_,_,_,b,e⟩=>NM b + NM e
def NM:List Zl→Int
 | []=>0
 | x :: r=>1 + trS x + NM r
end
mutual
theorem trR:∀ (s:Zl) (n:Int),∃ k:Int,ES s n=n + 1 + trS s + 18446744073709551616 * k
 | ⟨_,_,_,_,_,_,_,_,b,e⟩,n=>by
  rw [ES,trS]
  obtain ⟨k1,h1⟩:=CB b 0
  obtain ⟨k2,h2⟩:=CB e 0
  obtain ⟨k3,h3⟩:=wrK (n + 1)
  obtain ⟨k4,h4⟩:=wrK (IntKind.i64.wrap (n + 1) + WL b 0)
  obtain ⟨k5,h5⟩:=wrK (IntKind.i64.wrap (IntKind.i64.wrap (n + 1) + WL b 0) + WL e 0)
  exact ⟨k1 + k2 + k3 + k4 + k5,by omega⟩
theorem CB:∀ (l:List Zl) (n:Int),∃ k:Int,WL l n=n + NM l + 18446744073709551616 * k
 | [],n=>⟨0,by rw [WL,NM]; omega⟩
 | x :: r,n=>by
  rw [WL,NM]
  obtain ⟨k1,h1⟩:=trR x n
  obtain ⟨k2,h2⟩:=CB r (ES x n)
  exact ⟨k1 + k2,by omega⟩
end
mutual
theorem trP:∀ (s:Zl),∃ k:Int,ER s=trS s + 18446744073709551616 * k
 | ⟨_,_,_,_,_,_,_,_,b,e⟩=>by
  rw [ER,trS]
  obtain ⟨k1,h1⟩:=C9 b b.length
  obtain ⟨k2,h2⟩:=C9 e e.length
  obtain ⟨k3,h3⟩:=wrK (VP b (b.length:Int) + VP e (e.length:Int))
  exact ⟨k1 + k2 + k3,by omega⟩
theorem C9:∀ (l:List Zl) (n:Int),∃ k:Int,VP l n=n - l.length + NM l + 18446744073709551616 * k
 | [],n=>⟨0,by rw [VP,NM]; simp⟩
 | x :: r,n=>by
  rw [VP,NM]
  obtain ⟨k1,h1⟩:=trP x
  obtain ⟨k3,h3⟩:=wrK (n + ER x)
  obtain ⟨k2,h2⟩:=C9 r (IntKind.i64.wrap (n + ER x))
  refine ⟨k1 + k2 + k3,?_⟩
  simp only [List.length_cons]
  omega
end
theorem rgR:∀ (l:List Zl) (n:Int),-9223372036854775808≤n→n≤9223372036854775807→-9223372036854775808≤WL l n∧WL l n≤9223372036854775807
 | [],n,h1,h2=>by rw [WL]; exact ⟨h1,h2⟩
 | x :: r,n,_,_=>by
  have h:=wrR (IntKind.i64.wrap (IntKind.i64.wrap (n + 1) + WL x.Body 0) + WL x.Else 0)
  rw [← Dn] at h
  rw [WL]
  exact rgR r _ h.1 h.2
theorem rgP:∀ (l:List Zl) (n:Int),-9223372036854775808≤n→n≤9223372036854775807→-9223372036854775808≤VP l n∧VP l n≤9223372036854775807
 | [],n,h1,h2=>by rw [VP]; exact ⟨h1,h2⟩
 | x :: r,n,_,_=>by
  have h:=wrR (n + ER x)
  rw [VP]
  exact rgP r _ h.1 h.2
theorem Ah (l:List Zl)(hl:l.length≤4611686018427387):WL l 0=VP l (l.length:Int):=by
 obtain ⟨k1,h1⟩:=CB l 0
 obtain ⟨k2,h2⟩:=C9 l l.length
 have r1:=rgR l 0 (by omega) (by omega)
 have r2:=rgP l l.length (by omega) (by omega)
 omega
theorem RZ (l:List Zl)(hl:l.length≤4611686018427387):TZ l=Oz l:=by
 unfold TZ Oz
 rw [Ah l hl]
def YC (a b:Int):Int:=if decide (a≠0)=true then a else b
def ZJ (b:Bool)(e:Int):Int:=if b=true then 0 else e
def fitsT (t n:Int):Bool:=if decide (t=1)=true then inB n else if decide (t=2)=true then (decide (n=0) || decide (n=1)) else if decide (t=3)=true then btw n 0 1000000000 else false
def Tz (t:Int):Bool:=decide (t=1) || decide (t=2) || decide (t=3)
theorem RI (t:Int):Tz t=btw t 1 3:=by
 simp only [Tz,btw]
 by_cases h1:t=1
 ·simp [h1]
 by_cases h2:t=2
 ·simp [h2]
 by_cases h3:t=3
 ·simp [h3]
 simp only [h1,h2,h3,decide_false,Bool.or_false]
 by_cases h4:1≤t <;> by_cases h5:t≤3 <;> simp [h4,h5]
 omega
def EU (cyc:Int):Option Int→List YX→Int
 | _,[]=>0
 | p,c :: r=>if (!(btw c.At_ 0 (cyc - 1)) || !(btw c.Units 0 1000))=true then 2 else if (p.isSome && decide (c.At_≤p.getD 0))=true then 12 else EU cyc (some c.At_) r
def EJ (d:Zk):Int :=
 if decide ((d.Shift.length:Int)=0)=true then (if decide (d.Cycle≠0)=true then 1 else 0)
 else if decide (20 < (d.Shift.length:Int))=true then 6 else if (!(btw d.Cycle 1 1000000000))=true then 2 else EU d.Cycle none d.Shift
theorem Yj.s {d:Zk}(h:Yj d):d.Shift.length≤4611686018427387:=by have:=h.Shift.1; omega
theorem Yk.st {d:Zg}(h:Yk d):d.Streams.length≤4611686018427387∧d.Counts.length≤4611686018427387∧d.Stores.length≤4611686018427387∧d.Routines.length≤4611686018427387:=by
 have:=h.Streams.1; have:=h.Counts.1; have:=h.Stores.1; have:=h.Routines.1; omega
def NU (d:Zg)(f:JC):Int :=
 if (decide (f.Stream=[]) && (!(Jm f.Up) || !(Jm f.Down)))=true then 1 else if decide (f.Stream=[])=true then 0 else if (!(d.Streams.contains f.Stream))=true then 5 else if decide (UV f.Up≠0)=true then UV f.Up else UV f.Down
def Zal (s:Zg)(d:Zk):Int :=
 if decide (YC (ZJ (btw d.Units 0 1000) 2) (EJ d)≠0)=true then YC (ZJ (btw d.Units 0 1000) 2) (EJ d)
 else if decide (d.Fault.Stream=[])=true then ZJ (Jm d.Fault.Up && Jm d.Fault.Down) 1
 else if (!(s.Streams.contains d.Fault.Stream))=true then 5 else YC (UV d.Fault.Up) (UV d.Fault.Down)
def Fq (s:Zg)(d:Zk):Int:=if (!(btw d.Units 0 1000))=true then 2 else if decide (EJ d≠0)=true then EJ d else NU s d.Fault
theorem EH (s:Zg)(d:Zk):Zal s d=Fq s d:=by
 unfold Zal Fq NU YC ZJ
 cases btw d.Units 0 1000 <;> by_cases h1:EJ d=0 <;> by_cases h2:d.Fault.Stream=[] <;> cases Jm d.Fault.Up <;> cases Jm d.Fault.Down <;> cases s.Streams.contains d.Fault.Stream <;> simp [h1,h2]
def argsT (tl:Int):List YN→List Int→Int
 | p :: ps,a :: ys=>if (!(fitsT p.Ty a))=true then 2 else argsT tl ps ys
 | _,_=>tl
theorem TM.a {s:VF}(h:TM s):s.Args.length≤4611686018427387:=by have:=h.Args.1; omega
theorem VE.p {r:ZO}(h:VE r):r.Params.length≤4611686018427387∧r.Locals.length≤4611686018427387∧Dc r.Body:=by
 have:=h.Params.1; have:=h.Locals.1; have:=h.Body
 exact ⟨by omega,by omega,by omega,this.2⟩
abbrev Seen:=List (List UInt8)
def Vb (s:List UInt8)(seen:Seen):Int×Seen:=if decide (WM s≠0)=true then (WM s,seen) else if seen.contains s=true then (4,seen) else (0,seen ++ [s])
def QY (s:List UInt8)(rest:Int)(seen:Seen):Int×Seen:=if decide ((Vb s seen).1≠0)=true then Vb s seen else (rest,(Vb s seen).2)
def RQ (v:Xg):Int:=if (!(btw v.Ty 1 3))=true then 1 else if (!(fitsT v.Ty v.N))=true then 2 else 0
def RG (x:ZR):Int:=if (!(btw x.Room 1 1000))=true then 2 else if (decide (x.Policy < 1) || decide (3 < x.Policy))=true then 1 else 0
def PO (x:Yn):Int:=if (!(btw x.Length 1 1000) || !(btw x.Step 1 1000))=true then 2 else 0
def Ea {α σ:Type}(most:Int)(step:α→σ→Int×σ)(l:List α)(s:σ):Int×σ:=if decide (most < (l.length:Int))=true then (6,s) else QC step l s
def O0 (f:YN):Int:=if (!(btw f.Ty 1 3))=true then 1 else 0
def Dx (l:List YN)(s:Seen):Int×Seen:=QC (fun f:YN=>QY f.Name (O0 f)) l s
def Jb (r:ZO):Int :=
 if (decide (6 < (r.Params.length:Int)) || decide (16 < (r.Params.length:Int) + (r.Locals.length:Int)))=true then 6
 else if decide ((Dx (r.Params ++ r.Locals) []).1≠0)=true then (Dx (r.Params ++ r.Locals) []).1 else Oz r.Body
theorem SI.t {l:PM}(h:SI l):l.Terms.length≤4611686018427387:=by have:=h.Terms.1; omega
abbrev Step:=Seen→Int×Seen
theorem BZ.l {m:Uz}(h:BZ m):m.Params.length≤4611686018427387∧m.Sites.length≤4611686018427387∧m.Links.length≤4611686018427387:=by
 have:=h.Params.1; have:=h.Sites.1; have:=h.Links.1; omega
def JO (s:List UInt8)(seen:Seen):Int:=YC (WM s) (ZJ (!(seen.contains s)) 4)
theorem LG (s:List UInt8)(rest:Int)(seen:Seen):(QY s rest seen).1=YC (JO s seen) rest:=by
 by_cases h1:WM s=0 <;> rcases Bool.eq_false_or_eq_true (seen.contains s) with h2 | h2 <;> simp only [QY,Vb,JO,YC,ZJ,h1,h2] <;> simp [h1]
theorem EM {s:List UInt8}{rest:Int}{seen:Seen}(h:YC (JO s seen) rest=0):(QY s rest seen)=(0,seen ++ [s]):=by
 by_cases h1:WM s=0 <;> rcases Bool.eq_false_or_eq_true (seen.contains s) with h2 | h2 <;> simp only [JO,YC,ZJ,h1,h2] at h <;> simp [h1] at h
 simp only [QY,Vb,h1,h2]
 simp [h]
theorem Ai (f:YN):ZJ (Tz f.Ty) 1=O0 f:=by
 rw [RI]; unfold ZJ O0; cases btw f.Ty 1 3 <;> rfl
def YY (d:Zg):List (Int×List (List UInt8×Int)):=[(32,d.Vars.map fun v=>(v.Name,RQ v)),(32,d.Resources.map fun v=>(v.Name,Fq d v)),(32,d.Stores.map fun v=>(v.Name,RG v)),(32,d.Belts.map fun v=>(v.Name,PO v)),(32,d.Queues.map fun v=>(v,0)),(32,d.Streams.map fun v=>(v,0)),(32,d.Tallies.map fun v=>(v,0)),(32,d.Levels.map fun v=>(v,0)),(32,d.Counts.map fun v=>(v,0)),(16,d.Routines.map fun v=>(v.Name,Jb v))]
theorem F5 (x:ZR):YC (ZJ (btw x.Room 1 1000) 2) (ZJ (decide (1≤x.Policy) && decide (x.Policy≤3)) 1)=RG x:=by
 unfold YC ZJ RG
 have e:(decide (x.Policy < 1) || decide (3 < x.Policy))=!(decide (1≤x.Policy) && decide (x.Policy≤3)):=by
  have a1:decide (x.Policy < 1)=!decide (1≤x.Policy):=by rw [← decide_not]; congr 1; apply propext; omega
  have a2:decide (3 < x.Policy)=!decide (x.Policy≤3):=by rw [← decide_not]; congr 1; apply propext; omega
  rw [Bool.not_and,a1,a2]
 rw [e]
 cases btw x.Room 1 1000 <;> cases (decide (1≤x.Policy) && decide (x.Policy≤3)) <;> simp
theorem CS (x:Yn):ZJ (btw x.Length 1 1000 && btw x.Step 1 1000) 2=PO x:=by
 unfold ZJ PO; cases btw x.Length 1 1000 <;> cases btw x.Step 1 1000 <;> rfl
theorem valueR (v:Xg):YC (ZJ (Tz v.Ty) 1) (ZJ (fitsT v.Ty v.N) 2)=RQ v:=by
 rw [RI]; unfold YC ZJ RQ; cases btw v.Ty 1 3 <;> cases fitsT v.Ty v.N <;> rfl
theorem Qy {α β:Type}{f:α→β}{l:List α}{i:Nat}{y:β}(h:(l.map f)[i]? = some y):∃ x,l[i]? = some x∧f x=y:=by
 rw [List.getElem?_map] at h
 exact Option.map_eq_some_iff.1 h
theorem kd (k:Nat):(∀ j:Nat,k=j→decide (((k:Nat):Int)=(j:Int))=true)∧(∀ j:Nat,k≠j→decide (((k:Nat):Int)=(j:Int))=false):=⟨fun j h=>by simp [h],fun j h=>by simp only [decide_eq_false_iff_not]; omega⟩
def J6 (q:List UInt8×Int):Seen→Int×Seen:=QY q.1 q.2
def stepD (p:Int×List (List UInt8×Int)):Seen→Int×Seen:=Ea p.1 J6 p.2
theorem Ba (d:Zg):∀ (k:Nat) (p:Int×List (List UInt8×Int)),(YY d)[k]? = some p→p.1=if k=9 then 16 else 32
 | 0,p,h=>by cases h; rfl
 | 1,p,h=>by cases h; rfl
 | 2,p,h=>by cases h; rfl
 | 3,p,h=>by cases h; rfl
 | 4,p,h=>by cases h; rfl
 | 5,p,h=>by cases h; rfl
 | 6,p,h=>by cases h; rfl
 | 7,p,h=>by cases h; rfl
 | 8,p,h=>by cases h; rfl
 | 9,p,h=>by cases h; rfl
 | k + 10,p,h=>by simp [YY] at h
theorem RF:∀ (l:List (List UInt8×Int)) (s:Seen),(QC J6 l s).2.length≤s.length + l.length
 | [],s=>by simp [QC]
 | x :: r,s=>by
  have ih:=RF r (J6 x s).2
  have h1:(J6 x s).2.length≤s.length + 1:=by
   unfold J6 QY
   split
   ·unfold Vb; split <;> (try split) <;> simp
   ·show (Vb x.1 s).2.length≤_
    unfold Vb; split <;> (try split) <;> simp
  rw [QC]
  split
  ·simp; omega
  ·simp; omega
theorem EN {s:List UInt8}{rest:Int}{seen:Seen}(h:(QY s rest seen).1=0):(QY s rest seen).2=seen ++ [s]∧s ∉ seen∧rest=0:=by
 rw [LG] at h
 have w:=EM h
 refine ⟨by rw [w],?_,?_⟩
 ·intro hm
  have:seen.contains s=true:=by simpa using hm
  simp only [JO,this,YC,ZJ] at h
  by_cases h1:WM s=0 <;> simp [h1] at h
 ·by_cases h1:JO s seen=0
  ·simpa [YC,h1] using h
  ·simp [YC,h1] at h
def OC (p:Int×List (List UInt8×Int)):List (List UInt8):=p.2.map (·.1)
end Go.Proofs.YtbcfddaocfpckaaGreatDoor
end
