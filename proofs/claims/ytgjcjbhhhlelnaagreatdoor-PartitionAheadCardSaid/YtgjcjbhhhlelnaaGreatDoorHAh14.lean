import Derived.Test.YtgjcjbhhhlelnaaGreatDoorHAh13
set_option linter.all false
section
namespace Go.Proofs.YtgjcjbhhhlelnaaGreatDoor
open Go Go.Proofs.YtgjcjbhhhlelnaaGreatDoor.Abs Go.Proofs.YtgjcjbhhhlelnaaGreatDoor.Tl
set_option maxRecDepth 100000
theorem Zf3 {τ ρ:Type}(f:(τ→Option ρ)→τ→Option ρ){L:Nat}(h:2 < L)(x:τ):Zx f L x=f (f (f (Zx f (L - 3)))) x:=by
 obtain ⟨m,rfl⟩:∃ m,L=m + 3:=⟨L - 3,by omega⟩
 rfl
theorem two {α:Type}(a b:α):ZT [a,b] 0=some a∧ZT [a,b] 1=some b∧decide ((0:Int) < (([a,b].length:Nat):Int))=true∧decide ((1:Int) < (([a,b].length:Nat):Int))=true∧decide ((2:Int) < (([a,b].length:Nat):Int))=false :=
 ⟨Zg [a,b] 0,Zg [a,b] 1,by simp,by simp,by simp⟩
theorem ZxB {α β:Type}(c:Bool)(a:α)(b:β){X:Option (α×β×PUnit)}{Y:α×β}(h:X=some (Y.1,Y.2,())):(bif c then some (a,b,()) else X)=some ((if c=true then (a,b) else Y).1,(if c=true then (a,b) else Y).2,()):=by
 cases c
 ·simpa using h
 ·rfl
theorem ZzP (L:Nat)(n:Int):LK L (n,())=some ((Ry n).1,(Ry n).2,()):=by
 simp only [Zmv,Ry,ZO]
 repeat refine ZxB _ _ _ ?_
 rfl
def F10 (u:Hl):YT:=⟨u.name,u.of,u.e,u.f,u.args,u.dist,u.flag,u.body,u.other⟩
theorem Zs9 (c:Bool)(a:Hl)(b:Bool){X:Option (YT×Bool×PUnit)}{Y:Hl×Bool}(h:X=some (F10 Y.1,Y.2,())):(bif c then some (F10 a,b,()) else X)=some (F10 (if c=true then (a,b) else Y).1,(if c=true then (a,b) else Y).2,()):=by
 cases c
 ·simpa using h
 ·rfl
theorem Z2o (L:Nat)(n:Int):CX L (n,())=some (F10 (Ry n).1,(Ry n).2,()):=by
 simp only [Zu0,Ry,ZO]
 repeat refine Zs9 _ ⟨_,_,_,_,_,_,_,_,_⟩ _ ?_
 rfl
theorem ZaP (e:Zw):FV e ⟨0,[],0,[]⟩=Zab e:=by
 obtain ⟨o,a,n,ks⟩:=e
 cases ks with
 | nil =>
  rw [ZcF]; simp only [Zlp,Zab,all2]
  by_cases h1:o=0 <;> by_cases h2:a=[] <;> by_cases h3:n=0 <;> simp [h1,h2,h3]
 | cons x r =>
  have:¬ ((r.length:Int) + 1=0):=by omega
  rw [ZcF]; simp only [Zlp,Zab]; simp [this]
theorem GY (d:Wj):ZqC d ⟨0,0,0,0,[],[]⟩=NZ d:=rfl
theorem ZrY (L:Nat)(e:Zw)(h:Yj e)(hL:SizeOf.sizeOf e≤L):JI L (e,())=some (Zab e):=by
 simp only [Zk,Zc,cond_true,cond_false,Zg,ZA,Za,Zp,condC,Zj,Zi,Zm,ZO,ZY,ZH,Zik,ZrM L e _ h hL,ZaP]
theorem Zi6 (s:ZF):SizeOf.sizeOf s.Dist < SizeOf.sizeOf s∧SizeOf.sizeOf s.Name < SizeOf.sizeOf s∧SizeOf.sizeOf s.Of < SizeOf.sizeOf s:=by cases s; simp; omega
theorem ZzH (L:Nat)(s:ZF)(u:Hl)(h:YH s)(hL:SizeOf.sizeOf s≤L):LJ L (s,u,())=some (Zll s u):=by
 have:=Zv3 s; have:=Zi6 s
 simp only [Zk,Zc,cond_true,cond_false,Zg,ZA,Za,Zp,condC,Zj,Zi,Zm,ZO,ZY,ZH,Zmu,ZrY L s.E h.E (by omega),ZrY L s.F h.F (by omega),ZhP L s.Dist _ h.Dist (by omega),GY,Zll]
theorem Zxm (L:Nat)(e:Zw):Tm L (e,())=some (Zab e):=by
 simp only [Zk,Zc,cond_true,cond_false,Zg,ZA,Za,Zp,condC,Zj,Zi,Zm,ZO,ZY,ZH,Zpo,Zab]
theorem Zun (L:Nat)(s:ZF)(h:YH s)(hL:SizeOf.sizeOf s≤L):Ol L (s,())=some (ZqM s):=by
 have:=Zv3 s; have:=Zi6 s
 simp only [Zk,Zc,cond_true,cond_false,Zg,ZA,Za,Zp,condC,Zj,Zi,Zm,ZO,ZY,ZH,Zkb,Z2o,Zxm,Zc7 L s.Dist _ h.Dist (by omega),GY,ZqM,F10]
theorem Zxe (L:Nat)(s:ZF)(u:Hl)(h:YH s)(hL:SizeOf.sizeOf s≤L)(h1:100≤L):Oo L (s,u,())=some (ZjI s u):=by
 have:=Zv3 s; have:=Zi6 s; have ha:=ZM s.Args; have hal:=h.a
 have hn:=Xc L s.Name (by have:=h.Name; unfold Len; omega) (by have:=ZM s.Name; omega)
 have ho:=Xc L s.Of (by have:=h.Of; unfold Len; omega) (by have:=ZM s.Of; omega)
 have hE:=ZhQ L s.E h.E (by omega)
 have hF:=ZhQ L s.F h.F (by omega)
 have hD:=MG L s.Dist h.Dist (by omega) h1
 have lp:Zx (Gz s u L) L (0,())=some (Zfs s u s.Args):=by
  refine Fh s.Args (fun l=>some (Zfs s u l)) (by omega) (fun self i x r hx hi mem e'=>?_) (fun self=>?_)
  ·have hx':=ZhQ L x (h.Args.2 x mem) (by have:=Z2p mem; omega)
   rw [Gz]; simp only [Zk,Zc,cond_true,cond_false,Zg,ZA,Za,Zp,condC,Zj,Zi,Zm,ZO,ZY,ZH,hi,hx,hx',wrap_succ hi (by omega),e',Zfs]; simp only [Yt,X4,if_true,if_false,Bool.false_eq_true,ne_eq,decide_not,gt_iff_lt,ge_iff_le]
  ·rw [Gz]; simp only [Zk,Zc,cond_true,cond_false,Zg,ZA,Za,Zp,condC,Zj,Zi,Zm,ZO,ZY,ZH,hD,Zfs]; simp only [Yt,X4,if_true,if_false,Bool.false_eq_true,ne_eq,decide_not,gt_iff_lt,ge_iff_le]
 rw [Zkj,Zf3 _ (by omega)]
 simp only [Cb,two,w01,Zf3 (La _ _ _ _) (show 2 < L by omega),La]
 simp only [Zk,Zc,cond_true,cond_false,Zg,ZA,Za,Zp,condC,Zj,Zi,Zm,ZO,ZY,ZH,two,w01,hn,ho,hE,hF,lp,ZjI,ZnY,ZnZ,ZnX]; simp only [Yt,X4,if_true,if_false,Bool.false_eq_true,ne_eq,decide_not,gt_iff_lt,ge_iff_le]
theorem lpX (L:Nat)(s:ZF)(h:YH s)(hL:SizeOf.sizeOf s≤L)(h1:100≤L)(n:Int):Zx (WE s L) L (n,0,())=some (Zam s s.Args n):=by
 have:=Zv3 s; have ha:=ZM s.Args; have hal:=h.a
 refine Zcl s.Args (fun l n=>some (Zam s l n)) (by omega) n (fun self n i x r hx hi mem e'=>?_) (fun self n=>?_)
 ·have hx':=ZhR L h1 x (h.Args.2 x mem) (by have:=Z2p mem; omega)
  rw [WE]; simp only [Zk,Zc,cond_true,cond_false,Zg,ZA,Za,Zp,condC,Zj,Zi,Zm,ZO,ZY,ZH,hi,hx,hx',wrap_succ hi (by omega),e',Zam,Bool.and_true]; simp only [Yt,X4,if_true,if_false,Bool.false_eq_true,ne_eq,decide_not,gt_iff_lt,ge_iff_le]
 ·rw [WE]; simp only [Zk,Zc,cond_true,cond_false,Zg,ZA,Za,Zp,condC,Zj,Zi,Zm,ZO,ZY,ZH,Zam,Bool.and_false]
theorem Zxb (L:Nat)(s:ZF)(u:Hl)(h:YH s)(hL:SizeOf.sizeOf s≤L)(h1:100≤L):Lu L (s,F10 u,())=some (ZdA s u):=by
 have:=Zv3 s
 have hE:=ZhR L h1 s.E h.E (by omega)
 have hF:=ZhR L h1 s.F h.F (by omega)
 have lp:=lpX L s h hL h1
 rw [Zme,show Zb7=WE from rfl,show Zb8=WE from rfl,show Zb9=WE from rfl,show ZbA=WE from rfl,show ZbB=WE from rfl,show ZbC=WE from rfl,show ZbD=WE from rfl]
 simp only [Zk,Zc,cond_true,cond_false,Zg,ZA,Za,Zp,condC,Zj,Zi,Zm,ZO,ZY,ZH,hE,hF,lp,ZdA,F10]
 cases u.e <;> cases u.f <;> simp only [Zk,Zc,cond_true,cond_false,Zg,ZA,Za,Zp,condC,Zj,Zi,Zm,ZO,ZY,ZH,decide_true,Bool.true_and,Bool.and_true,Bool.and_false,if_true,if_false,Bool.false_eq_true] <;> simp only [Yt,X4,if_true,if_false,Bool.false_eq_true,ne_eq,decide_not,gt_iff_lt,ge_iff_le] <;> (repeat' split) <;> first | rfl | simp_all
theorem Z1J (L:Nat)(s:ZF)(h:YH s)(hL:SizeOf.sizeOf s≤L)(h1:100≤L):CY L (s,())=some (ZoU s):=by
 have:=Zv3 s; have:=Zi6 s
 have hn:=Ui L s.Name (by have:=h.Name; unfold Len; omega) (by have:=ZM s.Name; omega) h1
 have ho:=Ui L s.Of (by have:=h.Of; unfold Len; omega) (by have:=ZM s.Of; omega) h1
 have hD:=Pm L s.Dist h.Dist (by omega)
 rw [← ZwQ]
 simp only [Zsg,Z2o,ZA,show (F10 (Ry s.Op).1).1=(Ry s.Op).1.name from rfl,show (F10 (Ry s.Op).1).2=(Ry s.Op).1.of from rfl,show (F10 (Ry s.Op).1).6=(Ry s.Op).1.dist from rfl]
 simp only [Zk,Zc,cond_true,cond_false,Zg,ZA,Za,Zp,condC,Zj,Zi,Zm,ZO,ZY,ZH,Zun L s h hL,hn,ho,hD,Zxb L s _ h hL h1,Z1G,Zht]; simp only [Yt,X4,if_true,if_false,Bool.false_eq_true,ne_eq,decide_not,gt_iff_lt,ge_iff_le]
theorem ZkS.s {l:List ZF}(h:ZkS l){x:ZF}(hx:x ∈ l):YH x∧ZkS x.Body∧ZkS x.Else:=⟨h.2 x hx,(h.2 x hx).b.1,(h.2 x hx).b.2⟩
theorem Zys (c x:Bool):(if c=true then true else x)=(c || x):=by cases c <;> rfl
theorem ZhT (L:Nat)(h1:100≤L):∀ (m:Nat) (l:List ZF),ZkS l→SizeOf.sizeOf l≤m→m≤L→JL L m (l,())=some (VD l)
 | 0,e,h,hs,_=>absurd hs (by have:=ZxY e; omega)
 | m + 1,l,h,hs,hm=>by
  have hk:=ZM l; have hl:=h.1
  rw [Zki]
  refine Fh l (fun l=>some (VD l)) (by omega) (fun self i x r hx hi mem e'=>?_) (fun self=>?_)
  ·have hz:=ZxX mem
   obtain ⟨o1,o2,o3⟩:=h.s mem
   have ih1:=ZhT L h1 m x.Body o2 (by omega) (by omega)
   have ih2:=ZhT L h1 m x.Else o3 (by omega) (by omega)
   rw [MZ,VD,Zq3]
   simp only [Zk,Zc,cond_true,cond_false,Zg,ZA,Za,Zp,condC,Zj,Zi,Zm,ZO,ZY,ZH,hi,hx,ZzP,ZzH L x _ o1 (by omega),Zxe L x _ o1 (by omega) h1,ih1,ih2,wrap_succ hi (by omega),e']; simp only [Yt,X4,if_true,if_false,Bool.false_eq_true,ne_eq,decide_not,gt_iff_lt,ge_iff_le,Zys]
   have:_=if decide ((if decide (ZoU x≠0)=true then ZoU x else if decide (VD x.Body≠0)=true then VD x.Body else VD x.Else)≠0)=true then (if decide (ZoU x≠0)=true then ZoU x else if decide (VD x.Body≠0)=true then VD x.Body else VD x.Else) else VD r:=ZvT (!(Ry x.Op).2 || !(Zll x (Ry x.Op).1)) (ZjI x (Ry x.Op).1) (VD x.Body) (VD x.Else) (VD r)
   simp only [ne_eq,decide_not] at this
   rw [this]
  ·rw [MZ]; simp only [Zk,Zc,cond_true,cond_false,Zg,ZA,Za,Zp,condC,Zj,Zi,Zm,ZO,ZY,ZH,VD]
theorem ZlI (L:Nat)(h1:100≤L):∀ (m:Nat) (l:List ZF),ZkS l→SizeOf.sizeOf l≤m→m≤L→Us L m (l,())=some (VD l)
 | 0,e,h,hs,_=>absurd hs (by have:=ZxY e; omega)
 | m + 1,l,h,hs,hm=>by
  have hk:=ZM l; have hl:=h.1
  rw [Zpn]
  refine Fh l (fun l=>some (VD l)) (by omega) (fun self i x r hx hi mem e'=>?_) (fun self=>?_)
  ·have hz:=ZxX mem
   obtain ⟨o1,o2,o3⟩:=h.s mem
   have ih1:=ZlI L h1 m x.Body o2 (by omega) (by omega)
   have ih2:=ZlI L h1 m x.Else o3 (by omega) (by omega)
   rw [E8,VD,Zq3]
   simp only [Zk,Zc,cond_true,cond_false,Zg,ZA,Za,Zp,condC,Zj,Zi,Zm,ZO,ZY,ZH,hi,hx,Z1J L x o1 (by omega) h1,ih1,ih2,wrap_succ hi (by omega),e']; simp only [Yt,X4,if_true,if_false,Bool.false_eq_true,ne_eq,decide_not,gt_iff_lt,ge_iff_le]
   have:=ZvU (ZoU x) (VD x.Body) (VD x.Else) (VD r)
   simp only [ne_eq,decide_not] at this
   rw [← this]
   by_cases a:ZoU x=0 <;> by_cases b:VD x.Body=0 <;> by_cases c:VD x.Else=0 <;> simp [a,b,c]
  ·rw [E8]; simp only [Zk,Zc,cond_true,cond_false,Zg,ZA,Za,Zp,condC,Zj,Zi,Zm,ZO,ZY,ZH,VD]
theorem Zef (L:Nat):∀ (m:Nat) (l:List ZF),ZkS l→SizeOf.sizeOf l≤m→m≤L→JK L m (l,())=some (SN l 0)
 | 0,e,h,hs,_=>absurd hs (by have:=ZxY e; omega)
 | m + 1,l,h,hs,hm=>by
  have hk:=ZM l; have hl:=h.1
  rw [Zkh]
  refine Zcl l (fun l n=>some (SN l n)) (by omega) 0 (fun self n i x r hx hi mem e'=>?_) (fun self n=>?_)
  ·have hz:=ZxX mem
   obtain ⟨o1,o2,o3⟩:=h.s mem
   have ih1:=Zef L m x.Body o2 (by omega) (by omega)
   have ih2:=Zef L m x.Else o3 (by omega) (by omega)
   rw [MX,SN,Zq9]
   simp only [Zk,Zc,cond_true,cond_false,Zg,ZA,Za,Zp,condC,Zj,Zi,Zm,ZO,ZY,ZH,hi,hx,ih1,ih2,wrap_succ hi (by omega),e',mx3]
  ·rw [MX]; simp only [Zk,Zc,cond_true,cond_false,Zg,ZA,Za,Zp,condC,Zj,Zi,Zm,ZO,ZY,ZH,SN]
theorem ZaI (L:Nat):∀ (m:Nat) (l:List ZF),ZkS l→SizeOf.sizeOf l≤m→m≤L→Kt L m (l,())=some (SN l 0)
 | 0,e,h,hs,_=>absurd hs (by have:=ZxY e; omega)
 | m + 1,l,h,hs,hm=>by
  have hk:=ZM l; have hl:=h.1
  rw [Zmd]
  refine Zcl l (fun l n=>some (SN l n)) (by omega) 0 (fun self n i x r hx hi mem e'=>?_) (fun self n=>?_)
  ·have hz:=ZxX mem
   obtain ⟨o1,o2,o3⟩:=h.s mem
   have ih1:=ZaI L m x.Body o2 (by omega) (by omega)
   have ih2:=ZaI L m x.Else o3 (by omega) (by omega)
   rw [BR,SN,Zq9]
   simp only [Zk,Zc,cond_true,cond_false,Zg,ZA,Za,Zp,condC,Zj,Zi,Zm,ZO,ZY,ZH,hi,hx,ih1,ih2,wrap_succ hi (by omega),e',mx3]
  ·rw [BR]; simp only [Zk,Zc,cond_true,cond_false,Zg,ZA,Za,Zp,condC,Zj,Zi,Zm,ZO,ZY,ZH,SN]
theorem Zee (L:Nat):∀ (m:Nat) (l:List ZF),ZkS l→SizeOf.sizeOf l≤m→m≤L→JJ L m (l,())=some (OO l (l.length:Int))
 | 0,e,h,hs,_=>absurd hs (by have:=ZxY e; omega)
 | m + 1,l,h,hs,hm=>by
  have hk:=ZM l; have hl:=h.1
  rw [Zkg]
  refine Zcl l (fun l n=>some (OO l n)) (by omega) _ (fun self n i x r hx hi mem e'=>?_) (fun self n=>?_)
  ·have hz:=ZxX mem
   obtain ⟨o1,o2,o3⟩:=h.s mem
   have ih1:=Zee L m x.Body o2 (by omega) (by omega)
   have ih2:=Zee L m x.Else o3 (by omega) (by omega)
   rw [MW,OO,ZvW]
   simp only [Zk,Zc,cond_true,cond_false,Zg,ZA,Za,Zp,condC,Zj,Zi,Zm,ZO,ZY,ZH,hi,hx,ih1,ih2,wrap_succ hi (by omega),e']
  ·rw [MW]; simp only [Zk,Zc,cond_true,cond_false,Zg,ZA,Za,Zp,condC,Zj,Zi,Zm,ZO,ZY,ZH,OO]
theorem Zed (L:Nat):∀ (m:Nat) (l:List ZF),ZkS l→SizeOf.sizeOf l≤m→m≤L→Kr L m (l,())=some (Hz l 0)
 | 0,e,h,hs,_=>absurd hs (by have:=ZxY e; omega)
 | m + 1,l,h,hs,hm=>by
  have hk:=ZM l; have hl:=h.1
  rw [Zmc]
  refine Zcl l (fun l n=>some (Hz l n)) (by omega) _ (fun self n i x r hx hi mem e'=>?_) (fun self n=>?_)
  ·have hz:=ZxX mem
   obtain ⟨o1,o2,o3⟩:=h.s mem
   have ih1:=Zed L m x.Body o2 (by omega) (by omega)
   have ih2:=Zed L m x.Else o3 (by omega) (by omega)
   rw [BQ,Hz,Zq4]
   simp only [Zk,Zc,cond_true,cond_false,Zg,ZA,Za,Zp,condC,Zj,Zi,Zm,ZO,ZY,ZH,hi,hx,ih1,ih2,wrap_succ hi (by omega),e']
  ·rw [BQ]; simp only [Zk,Zc,cond_true,cond_false,Zg,ZA,Za,Zp,condC,Zj,Zi,Zm,ZO,ZY,ZH,Hz]
theorem Zur (L:Nat)(h1:100≤L)(l:List ZF)(h:ZkS l)(hL:SizeOf.sizeOf l≤L):Om L (l,())=some (Zb0 l):=by
 simp only [Zk,Zc,cond_true,cond_false,Zg,ZA,Za,Zp,condC,Zj,Zi,Zm,ZO,ZY,ZH,Zkf,show DT L (l,())=_ from Zee L L l h hL (Nat.le_refl _),show DU L (l,())=_ from Zef L L l h hL (Nat.le_refl _),show DV L (l,())=_ from ZhT L h1 L l h hL (Nat.le_refl _),Zb0]; simp only [Yt,X4,if_true,if_false,Bool.false_eq_true,ne_eq,decide_not,gt_iff_lt,ge_iff_le]
theorem ZrU (L:Nat)(h1:100≤L)(l:List ZF)(h:ZkS l)(hL:SizeOf.sizeOf l≤L):Lt L (l,())=some (Zb0 l):=by
 rw [← ZoE l (by have:=h.1; omega)]
 simp only [Zk,Zc,cond_true,cond_false,Zg,ZA,Za,Zp,condC,Zj,Zi,Zm,ZO,ZY,ZH,Zmb,show Af L (l,())=_ from Zed L L l h hL (Nat.le_refl _),show Ag L (l,())=_ from ZaI L L l h hL (Nat.le_refl _),show ZaX L (l,())=_ from ZlI L h1 L l h hL (Nat.le_refl _),Zle]; simp only [Yt,X4,if_true,if_false,Bool.false_eq_true,ne_eq,decide_not,gt_iff_lt,ge_iff_le]
end Go.Proofs.YtgjcjbhhhlelnaaGreatDoor
end
