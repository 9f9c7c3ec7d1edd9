import Derived.Test.YtgjcjbhhhlelnaaGreatDoorHEv13
set_option linter.all false
section
namespace Go.Proofs.YtgjcjbhhhlelnaaGreatDoor
open Go Go.Proofs.YtgjcjbhhhlelnaaGreatDoor.Abs Go.Proofs.YtgjcjbhhhlelnaaGreatDoor.Tl
set_option maxRecDepth 100000
theorem Zdy {τ ρ:Type}(f:(τ→Option ρ)→τ→Option ρ){L:Nat}(h:2 < L)(x:τ):Zt f L x=f (f (f (Zt f (L - 3)))) x:=by
 obtain ⟨m,rfl⟩:∃ m,L=m + 3:=⟨L - 3,by omega⟩
 rfl
theorem two {α:Type}(a b:α):ZM [a,b] 0=some a∧ZM [a,b] 1=some b∧decide ((0:Int) < (([a,b].length:Nat):Int))=true∧decide ((1:Int) < (([a,b].length:Nat):Int))=true∧decide ((2:Int) < (([a,b].length:Nat):Int))=false :=
 ⟨Zf [a,b] 0,Zf [a,b] 1,by simp,by simp,by simp⟩
theorem ZuK {α β:Type}(c:Bool)(a:α)(b:β){X:Option (α×β×PUnit)}{Y:α×β}(h:X=some (Y.1,Y.2,())):(bif c then some (a,b,()) else X)=some ((if c=true then (a,b) else Y).1,(if c=true then (a,b) else Y).2,()):=by
 cases c
 ·simpa using h
 ·rfl
theorem ZwS (L:Nat)(n:Int):Tz L (n,())=some ((MG n).1,(MG n).2,()):=by
 simp only [ZjK,MG,ZH]
 repeat refine ZuK _ _ _ ?_
 rfl
def F10 (u:KQ):YL:=⟨u.name,u.of,u.e,u.f,u.args,u.dist,u.flag,u.body,u.other⟩
theorem ZpG (c:Bool)(a:KQ)(b:Bool){X:Option (YL×Bool×PUnit)}{Y:KQ×Bool}(h:X=some (F10 Y.1,Y.2,())):(bif c then some (F10 a,b,()) else X)=some (F10 (if c=true then (a,b) else Y).1,(if c=true then (a,b) else Y).2,()):=by
 cases c
 ·simpa using h
 ·rfl
theorem Zze (L:Nat)(n:Int):EC L (n,())=some (F10 (MG n).1,(MG n).2,()):=by
 simp only [ZrA,MG,ZH]
 repeat refine ZpG _ ⟨_,_,_,_,_,_,_,_,_⟩ _ ?_
 rfl
theorem Aw (e:Zr):Ed e ⟨0,[],0,[]⟩=EG e:=by
 obtain ⟨o,a,n,ks⟩:=e
 cases ks with
 | nil =>
  rw [ZaK]; simp only [ZiD,EG,all2]
  by_cases h1:o=0 <;> by_cases h2:a=[] <;> by_cases h3:n=0 <;> simp [h1,h2,h3]
 | cons x r =>
  have:¬ ((r.length:Int) + 1=0):=by omega
  rw [ZaK]; simp only [ZiD,EG]; simp [this]
theorem KJ (d:YT):ZnK d ⟨0,0,0,0,[],[]⟩=DR d:=rfl
theorem Zpf (L:Nat)(e:Zr)(h:Yh e)(hL:SizeOf.sizeOf e≤L):Jf L (e,())=some (EG e):=by
 simp only [Zi,Zd,cond_true,cond_false,Zf,Zz,Za,Zn,condC,Zh,Zg,Zm,ZH,ZT,ZB,ZfN,ZoV L e _ h hL,Aw]
theorem Zgg (s:Z7):SizeOf.sizeOf s.Dist < SizeOf.sizeOf s∧SizeOf.sizeOf s.Name < SizeOf.sizeOf s∧SizeOf.sizeOf s.Of < SizeOf.sizeOf s:=by cases s; simp; omega
theorem ZwK (L:Nat)(s:Z7)(u:KQ)(h:YB s)(hL:SizeOf.sizeOf s≤L):Tv L (s,u,())=some (ZiA s u):=by
 have:=ZsB s; have:=Zgg s
 simp only [Zi,Zd,cond_true,cond_false,Zf,Zz,Za,Zn,condC,Zh,Zg,Zm,ZH,ZT,ZB,ZjJ,Zpf L s.E h.E (by omega),Zpf L s.F h.F (by omega),Zf2 L s.Dist _ h.Dist (by omega),KJ,ZiA]
theorem Zuw (L:Nat)(e:Zr):Oi L (e,())=some (EG e):=by
 simp only [Zi,Zd,cond_true,cond_false,Zf,Zz,Za,Zn,condC,Zh,Zg,Zm,ZH,ZT,ZB,Zm1,EG]
theorem Zrx (L:Nat)(s:Z7)(h:YB s)(hL:SizeOf.sizeOf s≤L):Ia L (s,())=some (ZnS s):=by
 have:=ZsB s; have:=Zgg s
 simp only [Zi,Zd,cond_true,cond_false,Zf,Zz,Za,Zn,condC,Zh,Zg,Zm,ZH,ZT,ZB,Zh9,Zze,Zuw,ZaC L s.Dist _ h.Dist (by omega),KJ,ZnS,F10]
theorem Zuo (L:Nat)(s:Z7)(u:KQ)(h:YB s)(hL:SizeOf.sizeOf s≤L)(h1:100≤L):Ic L (s,u,())=some (Zhr s u):=by
 have:=ZsB s; have:=Zgg s; have ha:=ZG s.Args; have hal:=h.a
 have hn:=Qx L s.Name (by have:=h.Name; unfold Len; omega) (by have:=ZG s.Name; omega)
 have ho:=Qx L s.Of (by have:=h.Of; unfold Len; omega) (by have:=ZG s.Of; omega)
 have hE:=Zf3 L s.E h.E (by omega)
 have hF:=Zf3 L s.F h.F (by omega)
 have hD:=O8 L s.Dist h.Dist (by omega) h1
 have lp:Zt (Ku s u L) L (0,())=some (Zdp s u s.Args):=by
  refine Zap s.Args (fun l=>some (Zdp s u l)) (by omega) (fun self i x r hx hi mem e'=>?_) (fun self=>?_)
  ·have hx':=Zf3 L x (h.Args.2 x mem) (by have:=Zzf mem; omega)
   rw [Ku]; simp only [Zi,Zd,cond_true,cond_false,Zf,Zz,Za,Zn,condC,Zh,Zg,Zm,ZH,ZT,ZB,hi,hx,hx',wrap_succ hi (by omega),e',Zdp]; simp only [Yu,Xa,if_true,if_false,Bool.false_eq_true,ne_eq,decide_not,gt_iff_lt,ge_iff_le]
  ·rw [Ku]; simp only [Zi,Zd,cond_true,cond_false,Zf,Zz,Za,Zn,condC,Zh,Zg,Zm,ZH,ZT,ZB,hD,Zdp]; simp only [Yu,Xa,if_true,if_false,Bool.false_eq_true,ne_eq,decide_not,gt_iff_lt,ge_iff_le]
 rw [ZhH,Zdy _ (by omega)]
 simp only [Eh,two,w01,Zdy (OV _ _ _ _) (show 2 < L by omega),OV]
 simp only [Zi,Zd,cond_true,cond_false,Zf,Zz,Za,Zn,condC,Zh,Zg,Zm,ZH,ZT,ZB,two,w01,hn,ho,hE,hF,lp,Zhr,Zlq,Zlr,Zlp]; simp only [Yu,Xa,if_true,if_false,Bool.false_eq_true,ne_eq,decide_not,gt_iff_lt,ge_iff_le]
theorem lpX (L:Nat)(s:Z7)(h:YB s)(hL:SizeOf.sizeOf s≤L)(h1:100≤L)(n:Int):Zt (Wx s L) L (n,0,())=some (ER s s.Args n):=by
 have:=ZsB s; have ha:=ZG s.Args; have hal:=h.a
 refine Zaq s.Args (fun l n=>some (ER s l n)) (by omega) n (fun self n i x r hx hi mem e'=>?_) (fun self n=>?_)
 ·have hx':=Zf4 L h1 x (h.Args.2 x mem) (by have:=Zzf mem; omega)
  rw [Wx]; simp only [Zi,Zd,cond_true,cond_false,Zf,Zz,Za,Zn,condC,Zh,Zg,Zm,ZH,ZT,ZB,hi,hx,hx',wrap_succ hi (by omega),e',ER,Bool.and_true]; simp only [Yu,Xa,if_true,if_false,Bool.false_eq_true,ne_eq,decide_not,gt_iff_lt,ge_iff_le]
 ·rw [Wx]; simp only [Zi,Zd,cond_true,cond_false,Zf,Zz,Za,Zn,condC,Zh,Zg,Zm,ZH,ZT,ZB,ER,Bool.and_false]
theorem Zul (L:Nat)(s:Z7)(u:KQ)(h:YB s)(hL:SizeOf.sizeOf s≤L)(h1:100≤L):Tf L (s,F10 u,())=some (ZbK s u):=by
 have:=ZsB s
 have hE:=Zf4 L h1 s.E h.E (by omega)
 have hF:=Zf4 L h1 s.F h.F (by omega)
 have lp:=lpX L s h hL h1
 rw [Zj3,show FW=Wx from rfl,show FX=Wx from rfl,show FY=Wx from rfl,show FZ=Wx from rfl,show Cb=Wx from rfl,show Cc=Wx from rfl,show Ce=Wx from rfl]
 simp only [Zi,Zd,cond_true,cond_false,Zf,Zz,Za,Zn,condC,Zh,Zg,Zm,ZH,ZT,ZB,hE,hF,lp,ZbK,F10]
 cases u.e <;> cases u.f <;> simp only [Zi,Zd,cond_true,cond_false,Zf,Zz,Za,Zn,condC,Zh,Zg,Zm,ZH,ZT,ZB,decide_true,Bool.true_and,Bool.and_true,Bool.and_false,if_true,if_false,Bool.false_eq_true] <;> simp only [Yu,Xa,if_true,if_false,Bool.false_eq_true,ne_eq,decide_not,gt_iff_lt,ge_iff_le] <;> (repeat' split) <;> first | rfl | simp_all
theorem Zy9 (L:Nat)(s:Z7)(h:YB s)(hL:SizeOf.sizeOf s≤L)(h1:100≤L):ED L (s,())=some (Zmj s):=by
 have:=ZsB s; have:=Zgg s
 have hn:=JA L s.Name (by have:=h.Name; unfold Len; omega) (by have:=ZG s.Name; omega) h1
 have ho:=JA L s.Of (by have:=h.Of; unfold Len; omega) (by have:=ZG s.Of; omega) h1
 have hD:=Bg L s.Dist h.Dist (by omega)
 rw [← Zua]
 simp only [Zpm,Zze,Zz,show (F10 (MG s.Op).1).1=(MG s.Op).1.name from rfl,show (F10 (MG s.Op).1).2=(MG s.Op).1.of from rfl,show (F10 (MG s.Op).1).6=(MG s.Op).1.dist from rfl]
 simp only [Zi,Zd,cond_true,cond_false,Zf,Zz,Za,Zn,condC,Zh,Zg,Zm,ZH,ZT,ZB,Zrx L s h hL,hn,ho,hD,Zul L s _ h hL h1,Zy6,ZeW]; simp only [Yu,Xa,if_true,if_false,Bool.false_eq_true,ne_eq,decide_not,gt_iff_lt,ge_iff_le]
theorem Ziw.s {l:List Z7}(h:Ziw l){x:Z7}(hx:x ∈ l):YB x∧Ziw x.Body∧Ziw x.Else:=⟨h.2 x hx,(h.2 x hx).b.1,(h.2 x hx).b.2⟩
theorem Zvz (c x:Bool):(if c=true then true else x)=(c || x):=by cases c <;> rfl
theorem Zf6 (L:Nat)(h1:100≤L):∀ (m:Nat) (l:List Z7),Ziw l→SizeOf.sizeOf l≤m→m≤L→Ji L m (l,())=some (XX l)
 | 0,e,h,hs,_=>absurd hs (by have:=Zvh e; omega)
 | m + 1,l,h,hs,hm=>by
  have hk:=ZG l; have hl:=h.1
  rw [ZhG]
  refine Zap l (fun l=>some (XX l)) (by omega) (fun self i x r hx hi mem e'=>?_) (fun self=>?_)
  ·have hz:=Zvg mem
   obtain ⟨o1,o2,o3⟩:=h.s mem
   have ih1:=Zf6 L h1 m x.Body o2 (by omega) (by omega)
   have ih2:=Zf6 L h1 m x.Else o3 (by omega) (by omega)
   rw [OU,XX,ZnA]
   simp only [Zi,Zd,cond_true,cond_false,Zf,Zz,Za,Zn,condC,Zh,Zg,Zm,ZH,ZT,ZB,hi,hx,ZwS,ZwK L x _ o1 (by omega),Zuo L x _ o1 (by omega) h1,ih1,ih2,wrap_succ hi (by omega),e']; simp only [Yu,Xa,if_true,if_false,Bool.false_eq_true,ne_eq,decide_not,gt_iff_lt,ge_iff_le,Zvz]
   have:_=if decide ((if decide (Zmj x≠0)=true then Zmj x else if decide (XX x.Body≠0)=true then XX x.Body else XX x.Else)≠0)=true then (if decide (Zmj x≠0)=true then Zmj x else if decide (XX x.Body≠0)=true then XX x.Body else XX x.Else) else XX r:=Ztb (!(MG x.Op).2 || !(ZiA x (MG x.Op).1)) (Zhr x (MG x.Op).1) (XX x.Body) (XX x.Else) (XX r)
   simp only [ne_eq,decide_not] at this
   rw [this]
  ·rw [OU]; simp only [Zi,Zd,cond_true,cond_false,Zf,Zz,Za,Zn,condC,Zh,Zg,Zm,ZH,ZT,ZB,XX]
theorem Zjh (L:Nat)(h1:100≤L):∀ (m:Nat) (l:List Z7),Ziw l→SizeOf.sizeOf l≤m→m≤L→JI L m (l,())=some (XX l)
 | 0,e,h,hs,_=>absurd hs (by have:=Zvh e; omega)
 | m + 1,l,h,hs,hm=>by
  have hk:=ZG l; have hl:=h.1
  rw [Zm0]
  refine Zap l (fun l=>some (XX l)) (by omega) (fun self i x r hx hi mem e'=>?_) (fun self=>?_)
  ·have hz:=Zvg mem
   obtain ⟨o1,o2,o3⟩:=h.s mem
   have ih1:=Zjh L h1 m x.Body o2 (by omega) (by omega)
   have ih2:=Zjh L h1 m x.Else o3 (by omega) (by omega)
   rw [PQ,XX,ZnA]
   simp only [Zi,Zd,cond_true,cond_false,Zf,Zz,Za,Zn,condC,Zh,Zg,Zm,ZH,ZT,ZB,hi,hx,Zy9 L x o1 (by omega) h1,ih1,ih2,wrap_succ hi (by omega),e']; simp only [Yu,Xa,if_true,if_false,Bool.false_eq_true,ne_eq,decide_not,gt_iff_lt,ge_iff_le]
   have:=Ztc (Zmj x) (XX x.Body) (XX x.Else) (XX r)
   simp only [ne_eq,decide_not] at this
   rw [← this]
   by_cases a:Zmj x=0 <;> by_cases b:XX x.Body=0 <;> by_cases c:XX x.Else=0 <;> simp [a,b,c]
  ·rw [PQ]; simp only [Zi,Zd,cond_true,cond_false,Zf,Zz,Za,Zn,condC,Zh,Zg,Zm,ZH,ZT,ZB,XX]
theorem Zcr (L:Nat):∀ (m:Nat) (l:List Z7),Ziw l→SizeOf.sizeOf l≤m→m≤L→Jh L m (l,())=some (Pq l 0)
 | 0,e,h,hs,_=>absurd hs (by have:=Zvh e; omega)
 | m + 1,l,h,hs,hm=>by
  have hk:=ZG l; have hl:=h.1
  rw [ZhF]
  refine Zaq l (fun l n=>some (Pq l n)) (by omega) 0 (fun self n i x r hx hi mem e'=>?_) (fun self n=>?_)
  ·have hz:=Zvg mem
   obtain ⟨o1,o2,o3⟩:=h.s mem
   have ih1:=Zcr L m x.Body o2 (by omega) (by omega)
   have ih2:=Zcr L m x.Else o3 (by omega) (by omega)
   rw [OT,Pq,ZnH]
   simp only [Zi,Zd,cond_true,cond_false,Zf,Zz,Za,Zn,condC,Zh,Zg,Zm,ZH,ZT,ZB,hi,hx,ih1,ih2,wrap_succ hi (by omega),e',mx3]
  ·rw [OT]; simp only [Zi,Zd,cond_true,cond_false,Zf,Zz,Za,Zn,condC,Zh,Zg,Zm,ZH,ZT,ZB,Pq]
theorem Am (L:Nat):∀ (m:Nat) (l:List Z7),Ziw l→SizeOf.sizeOf l≤m→m≤L→Uw L m (l,())=some (Pq l 0)
 | 0,e,h,hs,_=>absurd hs (by have:=Zvh e; omega)
 | m + 1,l,h,hs,hm=>by
  have hk:=ZG l; have hl:=h.1
  rw [Zj2]
  refine Zaq l (fun l n=>some (Pq l n)) (by omega) 0 (fun self n i x r hx hi mem e'=>?_) (fun self n=>?_)
  ·have hz:=Zvg mem
   obtain ⟨o1,o2,o3⟩:=h.s mem
   have ih1:=Am L m x.Body o2 (by omega) (by omega)
   have ih2:=Am L m x.Else o3 (by omega) (by omega)
   rw [Rf,Pq,ZnH]
   simp only [Zi,Zd,cond_true,cond_false,Zf,Zz,Za,Zn,condC,Zh,Zg,Zm,ZH,ZT,ZB,hi,hx,ih1,ih2,wrap_succ hi (by omega),e',mx3]
  ·rw [Rf]; simp only [Zi,Zd,cond_true,cond_false,Zf,Zz,Za,Zn,condC,Zh,Zg,Zm,ZH,ZT,ZB,Pq]
theorem Zcq (L:Nat):∀ (m:Nat) (l:List Z7),Ziw l→SizeOf.sizeOf l≤m→m≤L→Jg L m (l,())=some (IL l (l.length:Int))
 | 0,e,h,hs,_=>absurd hs (by have:=Zvh e; omega)
 | m + 1,l,h,hs,hm=>by
  have hk:=ZG l; have hl:=h.1
  rw [ZhE]
  refine Zaq l (fun l n=>some (IL l n)) (by omega) _ (fun self n i x r hx hi mem e'=>?_) (fun self n=>?_)
  ·have hz:=Zvg mem
   obtain ⟨o1,o2,o3⟩:=h.s mem
   have ih1:=Zcq L m x.Body o2 (by omega) (by omega)
   have ih2:=Zcq L m x.Else o3 (by omega) (by omega)
   rw [OQ,IL,Zte]
   simp only [Zi,Zd,cond_true,cond_false,Zf,Zz,Za,Zn,condC,Zh,Zg,Zm,ZH,ZT,ZB,hi,hx,ih1,ih2,wrap_succ hi (by omega),e']
  ·rw [OQ]; simp only [Zi,Zd,cond_true,cond_false,Zf,Zz,Za,Zn,condC,Zh,Zg,Zm,ZH,ZT,ZB,IL]
theorem Zcp (L:Nat):∀ (m:Nat) (l:List Z7),Ziw l→SizeOf.sizeOf l≤m→m≤L→Uu L m (l,())=some (Gh l 0)
 | 0,e,h,hs,_=>absurd hs (by have:=Zvh e; omega)
 | m + 1,l,h,hs,hm=>by
  have hk:=ZG l; have hl:=h.1
  rw [Zj1]
  refine Zaq l (fun l n=>some (Gh l n)) (by omega) _ (fun self n i x r hx hi mem e'=>?_) (fun self n=>?_)
  ·have hz:=Zvg mem
   obtain ⟨o1,o2,o3⟩:=h.s mem
   have ih1:=Zcp L m x.Body o2 (by omega) (by omega)
   have ih2:=Zcp L m x.Else o3 (by omega) (by omega)
   rw [LZ,Gh,ZnB]
   simp only [Zi,Zd,cond_true,cond_false,Zf,Zz,Za,Zn,condC,Zh,Zg,Zm,ZH,ZT,ZB,hi,hx,ih1,ih2,wrap_succ hi (by omega),e']
  ·rw [LZ]; simp only [Zi,Zd,cond_true,cond_false,Zf,Zz,Za,Zn,condC,Zh,Zg,Zm,ZH,ZT,ZB,Gh]
theorem Zr1 (L:Nat)(h1:100≤L)(l:List Z7)(h:Ziw l)(hL:SizeOf.sizeOf l≤L):Ib L (l,())=some (FP l):=by
 simp only [Zi,Zd,cond_true,cond_false,Zf,Zz,Za,Zn,condC,Zh,Zg,Zm,ZH,ZT,ZB,ZhD,show RV L (l,())=_ from Zcq L L l h hL (Nat.le_refl _),show RX L (l,())=_ from Zcr L L l h hL (Nat.le_refl _),show RY L (l,())=_ from Zf6 L h1 L l h hL (Nat.le_refl _),FP]; simp only [Yu,Xa,if_true,if_false,Bool.false_eq_true,ne_eq,decide_not,gt_iff_lt,ge_iff_le]
theorem Zpb (L:Nat)(h1:100≤L)(l:List Z7)(h:Ziw l)(hL:SizeOf.sizeOf l≤L):Td L (l,())=some (FP l):=by
 rw [← ZlR l (by have:=h.1; omega)]
 simp only [Zi,Zd,cond_true,cond_false,Zf,Zz,Za,Zn,condC,Zh,Zg,Zm,ZH,ZT,ZB,Zj0,show Ns L (l,())=_ from Zcp L L l h hL (Nat.le_refl _),show Nu L (l,())=_ from Am L L l h hL (Nat.le_refl _),show AX L (l,())=_ from Zjh L h1 L l h hL (Nat.le_refl _),Zi3]; simp only [Yu,Xa,if_true,if_false,Bool.false_eq_true,ne_eq,decide_not,gt_iff_lt,ge_iff_le]
end Go.Proofs.YtgjcjbhhhlelnaaGreatDoor
end
