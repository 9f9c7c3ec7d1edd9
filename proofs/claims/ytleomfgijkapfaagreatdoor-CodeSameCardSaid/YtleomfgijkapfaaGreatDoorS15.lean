import Derived.Test.YtleomfgijkapfaaGreatDoorS14
set_option linter.all false
section
namespace Go.Proofs.YtleomfgijkapfaaGreatDoor
open Go Go.Proofs.YtleomfgijkapfaaGreatDoor.Abs Go.Proofs.YtleomfgijkapfaaGreatDoor.Tl
set_option maxRecDepth 100000
theorem ZeQ {τ ρ:Type}(f:(τ→Option ρ)→τ→Option ρ){L:Nat}(h:2 < L)(x:τ):Zo f L x=f (f (f (Zo f (L - 3)))) x:=by
 obtain ⟨m,rfl⟩:∃ m,L=m + 3:=⟨L - 3,by omega⟩
 rfl
theorem two {α:Type}(a b:α):Z8 [a,b] 0=some a∧Z8 [a,b] 1=some b∧decide ((0:Int) < (([a,b].length:Nat):Int))=true∧decide ((1:Int) < (([a,b].length:Nat):Int))=true∧decide ((2:Int) < (([a,b].length:Nat):Int))=false :=
 ⟨Zd [a,b] 0,Zd [a,b] 1,by simp,by simp,by simp⟩
theorem Zwc {α β:Type}(c:Bool)(a:α)(b:β){X:Option (α×β×PUnit)}{Y:α×β}(h:X=some (Y.1,Y.2,())):(bif c then some (a,b,()) else X)=some ((if c=true then (a,b) else Y).1,(if c=true then (a,b) else Y).2,()):=by
 cases c
 ·simpa using h
 ·rfl
theorem ZxD (L:Nat)(n:Int):LH L (n,())=some ((RS n).1,(RS n).2,()):=by
 simp only [Zl4,RS,Zx]
 repeat refine Zwc _ _ _ ?_
 rfl
def F10 (u:Ie):Wn:=⟨u.name,u.of,u.e,u.f,u.args,u.dist,u.flag,u.body,u.other⟩
theorem Zrn (c:Bool)(a:Ie)(b:Bool){X:Option (Wn×Bool×PUnit)}{Y:Ie×Bool}(h:X=some (F10 Y.1,Y.2,())):(bif c then some (F10 a,b,()) else X)=some (F10 (if c=true then (a,b) else Y).1,(if c=true then (a,b) else Y).2,()):=by
 cases c
 ·simpa using h
 ·rfl
theorem Zz8 (L:Nat)(n:Int):FP L (n,())=some (F10 (RS n).1,(RS n).2,()):=by
 simp only [ZsW,RS,Zx]
 repeat refine Zrn _ ⟨_,_,_,_,_,_,_,_,_⟩ _ ?_
 rfl
theorem Zad (e:Zt):Ba e ⟨0,[],0,[]⟩=FU e:=by
 obtain ⟨o,a,n,ks⟩:=e
 cases ks with
 | nil =>
  rw [Zch]; simp only [Zi9,FU,all2]
  by_cases h1:o=0 <;> by_cases h2:a=[] <;> by_cases h3:n=0 <;> simp [h1,h2,h3]
 | cons x r =>
  have:¬ ((r.length:Int) + 1=0):=by omega
  rw [Zch]; simp only [Zi9,FU]; simp [this]
theorem H7 (d:YP):Ziu d ⟨0,0,0,0,[],[]⟩=NQ d:=rfl
theorem ZqB (L:Nat)(e:Zt)(h:Yk e)(hL:SizeOf.sizeOf e≤L):Ui L (e,())=some (FU e):=by
 simp only [Ze,Zb,cond_true,cond_false,Zd,Zq,Za,Zi,condC,Zk,Zj,Zh,Zx,Z5,Zw,Zht,ZkK L e _ h hL,Zad]
theorem Zaj (s:Zy):SizeOf.sizeOf s.Dist < SizeOf.sizeOf s∧SizeOf.sizeOf s.Name < SizeOf.sizeOf s∧SizeOf.sizeOf s.Of < SizeOf.sizeOf s:=by cases s; simp; omega
theorem Zx6 (L:Nat)(s:Zy)(u:Ie)(h:YB s)(hL:SizeOf.sizeOf s≤L):LG L (s,u,())=some (Zkr s u):=by
 have:=Zrz s; have:=Zaj s
 simp only [Ze,Zb,cond_true,cond_false,Zd,Zq,Za,Zi,condC,Zk,Zj,Zh,Zx,Z5,Zw,Zl2,ZqB L s.E h.E (by omega),ZqB L s.F h.F (by omega),Zd8 L s.Dist _ h.Dist (by omega),H7,Zkr]
theorem ZvD (L:Nat)(e:Zt):TW L (e,())=some (FU e):=by
 simp only [Ze,Zb,cond_true,cond_false,Zd,Zq,Za,Zi,condC,Zk,Zj,Zh,Zx,Z5,Zw,Zom,FU]
theorem ZsL (L:Nat)(s:Zy)(h:YB s)(hL:SizeOf.sizeOf s≤L):OH L (s,())=some (Zp7 s):=by
 have:=Zrz s; have:=Zaj s
 simp only [Ze,Zb,cond_true,cond_false,Zd,Zq,Za,Zi,condC,Zk,Zj,Zh,Zx,Z5,Zw,Zjp,Zz8,ZvD,AO L s.Dist _ h.Dist (by omega),H7,Zp7,F10]
theorem Zv5 (L:Nat)(s:Zy)(u:Ie)(h:YB s)(hL:SizeOf.sizeOf s≤L)(h1:100≤L):OJ L (s,u,())=some (ZiV s u):=by
 have:=Zrz s; have:=Zaj s; have ha:=Zu s.Args; have hal:=h.a
 have hn:=X0 L s.Name (by have:=h.Name; unfold Len; omega) (by have:=Zu s.Name; omega)
 have ho:=X0 L s.Of (by have:=h.Of; unfold Len; omega) (by have:=Zu s.Of; omega)
 have hE:=ZgV L s.E h.E (by omega)
 have hF:=ZgV L s.F h.F (by omega)
 have hD:=ML L s.Dist h.Dist (by omega) h1
 have lp:Zo (Ha s u L) L (0,())=some (ZeH s u s.Args):=by
  refine Zb4 s.Args (fun l=>some (ZeH s u l)) (by omega) (fun self i x r hx hi mem e'=>?_) (fun self=>?_)
  ·have hx':=ZgV L x (h.Args.2 x mem) (by have:=Zzv mem; omega)
   rw [Ha]; simp only [Ze,Zb,cond_true,cond_false,Zd,Zq,Za,Zi,condC,Zk,Zj,Zh,Zx,Z5,Zw,hi,hx,hx',wrap_succ hi (by omega),e',ZeH]; simp only [Y3,XE,if_true,if_false,Bool.false_eq_true,ne_eq,decide_not,gt_iff_lt,ge_iff_le]
  ·rw [Ha]; simp only [Ze,Zb,cond_true,cond_false,Zd,Zq,Za,Zi,condC,Zk,Zj,Zh,Zx,Z5,Zw,hD,ZeH]; simp only [Y3,XE,if_true,if_false,Bool.false_eq_true,ne_eq,decide_not,gt_iff_lt,ge_iff_le]
 rw [Zjx,ZeQ _ (by omega)]
 simp only [Fz,two,w01,ZeQ (Ll _ _ _ _) (show 2 < L by omega),Ll]
 simp only [Ze,Zb,cond_true,cond_false,Zd,Zq,Za,Zi,condC,Zk,Zj,Zh,Zx,Z5,Zw,two,w01,hn,ho,hE,hF,lp,ZiV,ZmW,ZmX,ZmV]; simp only [Y3,XE,if_true,if_false,Bool.false_eq_true,ne_eq,decide_not,gt_iff_lt,ge_iff_le]
theorem lpX (L:Nat)(s:Zy)(h:YB s)(hL:SizeOf.sizeOf s≤L)(h1:100≤L)(n:Int):Zo (WU s L) L (n,0,())=some (Ci s s.Args n):=by
 have:=Zrz s; have ha:=Zu s.Args; have hal:=h.a
 refine Zb5 s.Args (fun l n=>some (Ci s l n)) (by omega) n (fun self n i x r hx hi mem e'=>?_) (fun self n=>?_)
 ·have hx':=ZgX L h1 x (h.Args.2 x mem) (by have:=Zzv mem; omega)
  rw [WU]; simp only [Ze,Zb,cond_true,cond_false,Zd,Zq,Za,Zi,condC,Zk,Zj,Zh,Zx,Z5,Zw,hi,hx,hx',wrap_succ hi (by omega),e',Ci,Bool.and_true]; simp only [Y3,XE,if_true,if_false,Bool.false_eq_true,ne_eq,decide_not,gt_iff_lt,ge_iff_le]
 ·rw [WU]; simp only [Ze,Zb,cond_true,cond_false,Zd,Zq,Za,Zi,condC,Zk,Zj,Zh,Zx,Z5,Zw,Ci,Bool.and_false]
theorem Zv1 (L:Nat)(s:Zy)(u:Ie)(h:YB s)(hL:SizeOf.sizeOf s≤L)(h1:100≤L):Lt L (s,F10 u,())=some (Zdh s u):=by
 have:=Zrz s
 have hE:=ZgX L h1 s.E h.E (by omega)
 have hF:=ZgX L h1 s.F h.F (by omega)
 have lp:=lpX L s h hL h1
 rw [Zll,show ZaO=WU from rfl,show ZaP=WU from rfl,show ZaQ=WU from rfl,show ZaR=WU from rfl,show ZaS=WU from rfl,show ZaT=WU from rfl,show ZaU=WU from rfl]
 simp only [Ze,Zb,cond_true,cond_false,Zd,Zq,Za,Zi,condC,Zk,Zj,Zh,Zx,Z5,Zw,hE,hF,lp,Zdh,F10]
 cases u.e <;> cases u.f <;> simp only [Ze,Zb,cond_true,cond_false,Zd,Zq,Za,Zi,condC,Zk,Zj,Zh,Zx,Z5,Zw,decide_true,Bool.true_and,Bool.and_true,Bool.and_false,if_true,if_false,Bool.false_eq_true] <;> simp only [Y3,XE,if_true,if_false,Bool.false_eq_true,ne_eq,decide_not,gt_iff_lt,ge_iff_le] <;> (repeat' split) <;> first | rfl | simp_all
theorem Zzm (L:Nat)(s:Zy)(h:YB s)(hL:SizeOf.sizeOf s≤L)(h1:100≤L):FQ L (s,())=some (ZnU s):=by
 have:=Zrz s; have:=Zaj s
 have hn:=U4 L s.Name (by have:=h.Name; unfold Len; omega) (by have:=Zu s.Name; omega) h1
 have ho:=U4 L s.Of (by have:=h.Of; unfold Len; omega) (by have:=Zu s.Of; omega) h1
 have hD:=Pn L s.Dist h.Dist (by omega)
 rw [← Zvq]
 simp only [ZqJ,Zz8,Zq,show (F10 (RS s.Op).1).1=(RS s.Op).1.name from rfl,show (F10 (RS s.Op).1).2=(RS s.Op).1.of from rfl,show (F10 (RS s.Op).1).6=(RS s.Op).1.dist from rfl]
 simp only [Ze,Zb,cond_true,cond_false,Zd,Zq,Za,Zi,condC,Zk,Zj,Zh,Zx,Z5,Zw,ZsL L s h hL,hn,ho,hD,Zv1 L s _ h hL h1,Zzj,Zg3]; simp only [Y3,XE,if_true,if_false,Bool.false_eq_true,ne_eq,decide_not,gt_iff_lt,ge_iff_le]
theorem Zkb.s {l:List Zy}(h:Zkb l){x:Zy}(hx:x ∈ l):YB x∧Zkb x.Body∧Zkb x.Else:=⟨h.2 x hx,(h.2 x hx).b.1,(h.2 x hx).b.2⟩
theorem Zw5 (c x:Bool):(if c=true then true else x)=(c || x):=by cases c <;> rfl
theorem ZgZ (L:Nat)(h1:100≤L):∀ (m:Nat) (l:List Zy),Zkb l→SizeOf.sizeOf l≤m→m≤L→Ul L m (l,())=some (VJ l)
 | 0,e,h,hs,_=>absurd hs (by have:=ZvX e; omega)
 | m + 1,l,h,hs,hm=>by
  have hk:=Zu l; have hl:=h.1
  rw [Zjw]
  refine Zb4 l (fun l=>some (VJ l)) (by omega) (fun self i x r hx hi mem e'=>?_) (fun self=>?_)
  ·have hz:=Zwr mem
   obtain ⟨o1,o2,o3⟩:=h.s mem
   have ih1:=ZgZ L h1 m x.Body o2 (by omega) (by omega)
   have ih2:=ZgZ L h1 m x.Else o3 (by omega) (by omega)
   rw [Lj,VJ,Zpr]
   simp only [Ze,Zb,cond_true,cond_false,Zd,Zq,Za,Zi,condC,Zk,Zj,Zh,Zx,Z5,Zw,hi,hx,ZxD,Zx6 L x _ o1 (by omega),Zv5 L x _ o1 (by omega) h1,ih1,ih2,wrap_succ hi (by omega),e']; simp only [Y3,XE,if_true,if_false,Bool.false_eq_true,ne_eq,decide_not,gt_iff_lt,ge_iff_le,Zw5]
   have:_=if decide ((if decide (ZnU x≠0)=true then ZnU x else if decide (VJ x.Body≠0)=true then VJ x.Body else VJ x.Else)≠0)=true then (if decide (ZnU x≠0)=true then ZnU x else if decide (VJ x.Body≠0)=true then VJ x.Body else VJ x.Else) else VJ r:=Zuq (!(RS x.Op).2 || !(Zkr x (RS x.Op).1)) (ZiV x (RS x.Op).1) (VJ x.Body) (VJ x.Else) (VJ r)
   simp only [ne_eq,decide_not] at this
   rw [this]
  ·rw [Lj]; simp only [Ze,Zb,cond_true,cond_false,Zd,Zq,Za,Zi,condC,Zk,Zj,Zh,Zx,Z5,Zw,VJ]
theorem ZkO (L:Nat)(h1:100≤L):∀ (m:Nat) (l:List Zy),Zkb l→SizeOf.sizeOf l≤m→m≤L→UF L m (l,())=some (VJ l)
 | 0,e,h,hs,_=>absurd hs (by have:=ZvX e; omega)
 | m + 1,l,h,hs,hm=>by
  have hk:=Zu l; have hl:=h.1
  rw [Zol]
  refine Zb4 l (fun l=>some (VJ l)) (by omega) (fun self i x r hx hi mem e'=>?_) (fun self=>?_)
  ·have hz:=Zwr mem
   obtain ⟨o1,o2,o3⟩:=h.s mem
   have ih1:=ZkO L h1 m x.Body o2 (by omega) (by omega)
   have ih2:=ZkO L h1 m x.Else o3 (by omega) (by omega)
   rw [Ee,VJ,Zpr]
   simp only [Ze,Zb,cond_true,cond_false,Zd,Zq,Za,Zi,condC,Zk,Zj,Zh,Zx,Z5,Zw,hi,hx,Zzm L x o1 (by omega) h1,ih1,ih2,wrap_succ hi (by omega),e']; simp only [Y3,XE,if_true,if_false,Bool.false_eq_true,ne_eq,decide_not,gt_iff_lt,ge_iff_le]
   have:=Zur (ZnU x) (VJ x.Body) (VJ x.Else) (VJ r)
   simp only [ne_eq,decide_not] at this
   rw [← this]
   by_cases a:ZnU x=0 <;> by_cases b:VJ x.Body=0 <;> by_cases c:VJ x.Else=0 <;> simp [a,b,c]
  ·rw [Ee]; simp only [Ze,Zb,cond_true,cond_false,Zd,Zq,Za,Zi,condC,Zk,Zj,Zh,Zx,Z5,Zw,VJ]
theorem ZdB (L:Nat):∀ (m:Nat) (l:List Zy),Zkb l→SizeOf.sizeOf l≤m→m≤L→Uk L m (l,())=some (Sr l 0)
 | 0,e,h,hs,_=>absurd hs (by have:=ZvX e; omega)
 | m + 1,l,h,hs,hm=>by
  have hk:=Zu l; have hl:=h.1
  rw [Zjv]
  refine Zb5 l (fun l n=>some (Sr l n)) (by omega) 0 (fun self n i x r hx hi mem e'=>?_) (fun self n=>?_)
  ·have hz:=Zwr mem
   obtain ⟨o1,o2,o3⟩:=h.s mem
   have ih1:=ZdB L m x.Body o2 (by omega) (by omega)
   have ih2:=ZdB L m x.Else o3 (by omega) (by omega)
   rw [Lh,Sr,Zpx]
   simp only [Ze,Zb,cond_true,cond_false,Zd,Zq,Za,Zi,condC,Zk,Zj,Zh,Zx,Z5,Zw,hi,hx,ih1,ih2,wrap_succ hi (by omega),e',mx3]
  ·rw [Lh]; simp only [Ze,Zb,cond_true,cond_false,Zd,Zq,Za,Zi,condC,Zk,Zj,Zh,Zx,Z5,Zw,Sr]
theorem CX (L:Nat):∀ (m:Nat) (l:List Zy),Zkb l→SizeOf.sizeOf l≤m→m≤L→KZ L m (l,())=some (Sr l 0)
 | 0,e,h,hs,_=>absurd hs (by have:=ZvX e; omega)
 | m + 1,l,h,hs,hm=>by
  have hk:=Zu l; have hl:=h.1
  rw [Zlk]
  refine Zb5 l (fun l n=>some (Sr l n)) (by omega) 0 (fun self n i x r hx hi mem e'=>?_) (fun self n=>?_)
  ·have hz:=Zwr mem
   obtain ⟨o1,o2,o3⟩:=h.s mem
   have ih1:=CX L m x.Body o2 (by omega) (by omega)
   have ih2:=CX L m x.Else o3 (by omega) (by omega)
   rw [Dh,Sr,Zpx]
   simp only [Ze,Zb,cond_true,cond_false,Zd,Zq,Za,Zi,condC,Zk,Zj,Zh,Zx,Z5,Zw,hi,hx,ih1,ih2,wrap_succ hi (by omega),e',mx3]
  ·rw [Dh]; simp only [Ze,Zb,cond_true,cond_false,Zd,Zq,Za,Zi,condC,Zk,Zj,Zh,Zx,Z5,Zw,Sr]
theorem ZdA (L:Nat):∀ (m:Nat) (l:List Zy),Zkb l→SizeOf.sizeOf l≤m→m≤L→Uj L m (l,())=some (Tt l (l.length:Int))
 | 0,e,h,hs,_=>absurd hs (by have:=ZvX e; omega)
 | m + 1,l,h,hs,hm=>by
  have hk:=Zu l; have hl:=h.1
  rw [Zju]
  refine Zb5 l (fun l n=>some (Tt l n)) (by omega) _ (fun self n i x r hx hi mem e'=>?_) (fun self n=>?_)
  ·have hz:=Zwr mem
   obtain ⟨o1,o2,o3⟩:=h.s mem
   have ih1:=ZdA L m x.Body o2 (by omega) (by omega)
   have ih2:=ZdA L m x.Else o3 (by omega) (by omega)
   rw [Le,Tt,Zut]
   simp only [Ze,Zb,cond_true,cond_false,Zd,Zq,Za,Zi,condC,Zk,Zj,Zh,Zx,Z5,Zw,hi,hx,ih1,ih2,wrap_succ hi (by omega),e']
  ·rw [Le]; simp only [Ze,Zb,cond_true,cond_false,Zd,Zq,Za,Zi,condC,Zk,Zj,Zh,Zx,Z5,Zw,Tt]
theorem AQ (L:Nat):∀ (m:Nat) (l:List Zy),Zkb l→SizeOf.sizeOf l≤m→m≤L→KY L m (l,())=some (Io l 0)
 | 0,e,h,hs,_=>absurd hs (by have:=ZvX e; omega)
 | m + 1,l,h,hs,hm=>by
  have hk:=Zu l; have hl:=h.1
  rw [Zlj]
  refine Zb5 l (fun l n=>some (Io l n)) (by omega) _ (fun self n i x r hx hi mem e'=>?_) (fun self n=>?_)
  ·have hz:=Zwr mem
   obtain ⟨o1,o2,o3⟩:=h.s mem
   have ih1:=AQ L m x.Body o2 (by omega) (by omega)
   have ih2:=AQ L m x.Else o3 (by omega) (by omega)
   rw [Df,Io,Zps]
   simp only [Ze,Zb,cond_true,cond_false,Zd,Zq,Za,Zi,condC,Zk,Zj,Zh,Zx,Z5,Zw,hi,hx,ih1,ih2,wrap_succ hi (by omega),e']
  ·rw [Df]; simp only [Ze,Zb,cond_true,cond_false,Zd,Zq,Za,Zi,condC,Zk,Zj,Zh,Zx,Z5,Zw,Io]
theorem ZsP (L:Nat)(h1:100≤L)(l:List Zy)(h:Zkb l)(hL:SizeOf.sizeOf l≤L):OI L (l,())=some (ZaI l):=by
 simp only [Ze,Zb,cond_true,cond_false,Zd,Zq,Za,Zi,condC,Zk,Zj,Zh,Zx,Z5,Zw,Zjt,show DY L (l,())=_ from ZdA L L l h hL (Nat.le_refl _),show DZ L (l,())=_ from ZdB L L l h hL (Nat.le_refl _),show Pe L (l,())=_ from ZgZ L h1 L l h hL (Nat.le_refl _),ZaI]; simp only [Y3,XE,if_true,if_false,Bool.false_eq_true,ne_eq,decide_not,gt_iff_lt,ge_iff_le]
theorem Zq7 (L:Nat)(h1:100≤L)(l:List Zy)(h:Zkb l)(hL:SizeOf.sizeOf l≤L):Ls L (l,())=some (ZaI l):=by
 rw [← ZnD l (by have:=h.1; omega)]
 simp only [Ze,Zb,cond_true,cond_false,Zd,Zq,Za,Zi,condC,Zk,Zj,Zh,Zx,Z5,Zw,Zli,show UC L (l,())=_ from AQ L L l h hL (Nat.le_refl _),show EE L (l,())=_ from CX L L l h hL (Nat.le_refl _),show Zap L (l,())=_ from ZkO L h1 L l h hL (Nat.le_refl _),Zkl]; simp only [Y3,XE,if_true,if_false,Bool.false_eq_true,ne_eq,decide_not,gt_iff_lt,ge_iff_le]
end Go.Proofs.YtleomfgijkapfaaGreatDoor
end
