import Derived.Test.YtgjcjbhhhlelnaaGreatDoorHCh13
set_option linter.all false
section
namespace Go.Proofs.YtgjcjbhhhlelnaaGreatDoor
open Go Go.Proofs.YtgjcjbhhhlelnaaGreatDoor.Abs Go.Proofs.YtgjcjbhhhlelnaaGreatDoor.Tl
set_option maxRecDepth 100000
theorem ZeN {τ ρ:Type}(f:(τ→Option ρ)→τ→Option ρ){L:Nat}(h:2 < L)(x:τ):Zt f L x=f (f (f (Zt f (L - 3)))) x:=by
 obtain ⟨m,rfl⟩:∃ m,L=m + 3:=⟨L - 3,by omega⟩
 rfl
theorem two {α:Type}(a b:α):ZL [a,b] 0=some a∧ZL [a,b] 1=some b∧decide ((0:Int) < (([a,b].length:Nat):Int))=true∧decide ((1:Int) < (([a,b].length:Nat):Int))=true∧decide ((2:Int) < (([a,b].length:Nat):Int))=false :=
 ⟨Zg [a,b] 0,Zg [a,b] 1,by simp,by simp,by simp⟩
theorem ZwJ {α β:Type}(c:Bool)(a:α)(b:β){X:Option (α×β×PUnit)}{Y:α×β}(h:X=some (Y.1,Y.2,())):(bif c then some (a,b,()) else X)=some ((if c=true then (a,b) else Y).1,(if c=true then (a,b) else Y).2,()):=by
 cases c
 ·simpa using h
 ·rfl
theorem ZyQ (L:Nat)(n:Int):MQ L (n,())=some ((L9 n).1,(L9 n).2,()):=by
 simp only [Zl9,L9,ZI]
 repeat refine ZwJ _ _ _ ?_
 rfl
def F10 (u:Gu):YO:=⟨u.name,u.of,u.e,u.f,u.args,u.dist,u.flag,u.body,u.other⟩
theorem ZrH (c:Bool)(a:Gu)(b:Bool){X:Option (YO×Bool×PUnit)}{Y:Gu×Bool}(h:X=some (F10 Y.1,Y.2,())):(bif c then some (F10 a,b,()) else X)=some (F10 (if c=true then (a,b) else Y).1,(if c=true then (a,b) else Y).2,()):=by
 cases c
 ·simpa using h
 ·rfl
theorem Z1a (L:Nat)(n:Int):F5 L (n,())=some (F10 (L9 n).1,(L9 n).2,()):=by
 simp only [ZtF,L9,ZI]
 repeat refine ZrH _ ⟨_,_,_,_,_,_,_,_,_⟩ _ ?_
 rfl
theorem Zab (e:Zu):A8 e ⟨0,[],0,[]⟩=F9 e:=by
 obtain ⟨o,a,n,ks⟩:=e
 cases ks with
 | nil =>
  rw [ZbQ]; simp only [Zk1,F9,all2]
  by_cases h1:o=0 <;> by_cases h2:a=[] <;> by_cases h3:n=0 <;> simp [h1,h2,h3]
 | cons x r =>
  have:¬ ((r.length:Int) + 1=0):=by omega
  rw [ZbQ]; simp only [Zk1,F9]; simp [this]
theorem Gm (d:YX):ZpK d ⟨0,0,0,0,[],[]⟩=Nk d:=rfl
theorem Zrf (L:Nat)(e:Zu)(h:Yi e)(hL:SizeOf.sizeOf e≤L):Jw L (e,())=some (F9 e):=by
 simp only [Zj,Zd,cond_true,cond_false,Zg,Zz,Za,Zm,condC,Zi,Zh,Zl,ZI,ZR,ZA,Zhy,ZqV L e _ h hL,Zab]
theorem ZhN (s:Z8):SizeOf.sizeOf s.Dist < SizeOf.sizeOf s∧SizeOf.sizeOf s.Name < SizeOf.sizeOf s∧SizeOf.sizeOf s.Of < SizeOf.sizeOf s:=by cases s; simp; omega
theorem ZyI (L:Nat)(s:Z8)(u:Gu)(h:YE s)(hL:SizeOf.sizeOf s≤L):MP L (s,u,())=some (Zky s u):=by
 have:=ZuD s; have:=ZhN s
 simp only [Zj,Zd,cond_true,cond_false,Zg,Zz,Za,Zm,condC,Zi,Zh,Zl,ZI,ZR,ZA,Zl8,Zrf L s.E h.E (by omega),Zrf L s.F h.F (by omega),Zhd L s.Dist _ h.Dist (by omega),Gm,Zky]
theorem Zwv (L:Nat)(e:Zu):OC L (e,())=some (F9 e):=by
 simp only [Zj,Zd,cond_true,cond_false,Zg,Zz,Za,Zm,condC,Zi,Zh,Zl,ZI,ZR,ZA,Zoy,F9]
theorem Zt1 (L:Nat)(s:Z8)(h:YE s)(hL:SizeOf.sizeOf s≤L):I5 L (s,())=some (ZpR s):=by
 have:=ZuD s; have:=ZhN s
 simp only [Zj,Zd,cond_true,cond_false,Zg,Zz,Za,Zm,condC,Zi,Zh,Zl,ZI,ZR,ZA,Zjr,Z1a,Zwv,ZbI L s.Dist _ h.Dist (by omega),Gm,ZpR,F10]
theorem Zwn (L:Nat)(s:Z8)(u:Gu)(h:YE s)(hL:SizeOf.sizeOf s≤L)(h1:100≤L):I8 L (s,u,())=some (ZiZ s u):=by
 have:=ZuD s; have:=ZhN s; have ha:=ZH s.Args; have hal:=h.a
 have hn:=QD L s.Name (by have:=h.Name; unfold Len; omega) (by have:=ZH s.Name; omega)
 have ho:=QD L s.Of (by have:=h.Of; unfold Len; omega) (by have:=ZH s.Of; omega)
 have hE:=Zhe L s.E h.E (by omega)
 have hF:=Zhe L s.F h.F (by omega)
 have hD:=Tj L s.Dist h.Dist (by omega) h1
 have lp:Zt (KP s u L) L (0,())=some (ZeE s u s.Args):=by
  refine CB s.Args (fun l=>some (ZeE s u l)) (by omega) (fun self i x r hx hi mem e'=>?_) (fun self=>?_)
  ·have hx':=Zhe L x (h.Args.2 x mem) (by have:=Z1d mem; omega)
   rw [KP]; simp only [Zj,Zd,cond_true,cond_false,Zg,Zz,Za,Zm,condC,Zi,Zh,Zl,ZI,ZR,ZA,hi,hx,hx',wrap_succ hi (by omega),e',ZeE]; simp only [Yu,Xp,if_true,if_false,Bool.false_eq_true,ne_eq,decide_not,gt_iff_lt,ge_iff_le]
  ·rw [KP]; simp only [Zj,Zd,cond_true,cond_false,Zg,Zz,Za,Zm,condC,Zi,Zh,Zl,ZI,ZR,ZA,hD,ZeE]; simp only [Yu,Xp,if_true,if_false,Bool.false_eq_true,ne_eq,decide_not,gt_iff_lt,ge_iff_le]
 rw [Zjz,ZeN _ (by omega)]
 simp only [AL,two,w01,ZeN (TQ _ _ _ _) (show 2 < L by omega),TQ]
 simp only [Zj,Zd,cond_true,cond_false,Zg,Zz,Za,Zm,condC,Zi,Zh,Zl,ZI,ZR,ZA,two,w01,hn,ho,hE,hF,lp,ZiZ,Znk,Znl,Znj]; simp only [Yu,Xp,if_true,if_false,Bool.false_eq_true,ne_eq,decide_not,gt_iff_lt,ge_iff_le]
theorem lpX (L:Nat)(s:Z8)(h:YE s)(hL:SizeOf.sizeOf s≤L)(h1:100≤L)(n:Int):Zt (WC s L) L (n,0,())=some (FO s s.Args n):=by
 have:=ZuD s; have ha:=ZH s.Args; have hal:=h.a
 refine CE s.Args (fun l n=>some (FO s l n)) (by omega) n (fun self n i x r hx hi mem e'=>?_) (fun self n=>?_)
 ·have hx':=Zhf L h1 x (h.Args.2 x mem) (by have:=Z1d mem; omega)
  rw [WC]; simp only [Zj,Zd,cond_true,cond_false,Zg,Zz,Za,Zm,condC,Zi,Zh,Zl,ZI,ZR,ZA,hi,hx,hx',wrap_succ hi (by omega),e',FO,Bool.and_true]; simp only [Yu,Xp,if_true,if_false,Bool.false_eq_true,ne_eq,decide_not,gt_iff_lt,ge_iff_le]
 ·rw [WC]; simp only [Zj,Zd,cond_true,cond_false,Zg,Zz,Za,Zm,condC,Zi,Zh,Zl,ZI,ZR,ZA,FO,Bool.and_false]
theorem Zwk (L:Nat)(s:Z8)(u:Gu)(h:YE s)(hL:SizeOf.sizeOf s≤L)(h1:100≤L):MG L (s,F10 u,())=some (ZcQ s u):=by
 have:=ZuD s
 have hE:=Zhf L h1 s.E h.E (by omega)
 have hF:=Zhf L h1 s.F h.F (by omega)
 have lp:=lpX L s h hL h1
 rw [Zlr,show ZaK=WC from rfl,show ZaL=WC from rfl,show ZaM=WC from rfl,show ZaN=WC from rfl,show ZaO=WC from rfl,show ZaP=WC from rfl,show ZaQ=WC from rfl]
 simp only [Zj,Zd,cond_true,cond_false,Zg,Zz,Za,Zm,condC,Zi,Zh,Zl,ZI,ZR,ZA,hE,hF,lp,ZcQ,F10]
 cases u.e <;> cases u.f <;> simp only [Zj,Zd,cond_true,cond_false,Zg,Zz,Za,Zm,condC,Zi,Zh,Zl,ZI,ZR,ZA,decide_true,Bool.true_and,Bool.and_true,Bool.and_false,if_true,if_false,Bool.false_eq_true] <;> simp only [Yu,Xp,if_true,if_false,Bool.false_eq_true,ne_eq,decide_not,gt_iff_lt,ge_iff_le] <;> (repeat' split) <;> first | rfl | simp_all
theorem Z06 (L:Nat)(s:Z8)(h:YE s)(hL:SizeOf.sizeOf s≤L)(h1:100≤L):F6 L (s,())=some (Zoe s):=by
 have:=ZuD s; have:=ZhN s
 have hn:=JQ L s.Name (by have:=h.Name; unfold Len; omega) (by have:=ZH s.Name; omega) h1
 have ho:=JQ L s.Of (by have:=h.Of; unfold Len; omega) (by have:=ZH s.Of; omega) h1
 have hD:=Dq L s.Dist h.Dist (by omega)
 rw [← ZvZ]
 simp only [Zrm,Z1a,Zz,show (F10 (L9 s.Op).1).1=(L9 s.Op).1.name from rfl,show (F10 (L9 s.Op).1).2=(L9 s.Op).1.of from rfl,show (F10 (L9 s.Op).1).6=(L9 s.Op).1.dist from rfl]
 simp only [Zj,Zd,cond_true,cond_false,Zg,Zz,Za,Zm,condC,Zi,Zh,Zl,ZI,ZR,ZA,Zt1 L s h hL,hn,ho,hD,Zwk L s _ h hL h1,Z03,Zg8]; simp only [Yu,Xp,if_true,if_false,Bool.false_eq_true,ne_eq,decide_not,gt_iff_lt,ge_iff_le]
theorem Zki.s {l:List Z8}(h:Zki l){x:Z8}(hx:x ∈ l):YE x∧Zki x.Body∧Zki x.Else:=⟨h.2 x hx,(h.2 x hx).b.1,(h.2 x hx).b.2⟩
theorem Zxy (c x:Bool):(if c=true then true else x)=(c || x):=by cases c <;> rfl
theorem Zhh (L:Nat)(h1:100≤L):∀ (m:Nat) (l:List Z8),Zki l→SizeOf.sizeOf l≤m→m≤L→J3 L m (l,())=some (Vp l)
 | 0,e,h,hs,_=>absurd hs (by have:=Zxg e; omega)
 | m + 1,l,h,hs,hm=>by
  have hk:=ZH l; have hl:=h.1
  rw [Zjy]
  refine CB l (fun l=>some (Vp l)) (by omega) (fun self i x r hx hi mem e'=>?_) (fun self=>?_)
  ·have hz:=Zxf mem
   obtain ⟨o1,o2,o3⟩:=h.s mem
   have ih1:=Zhh L h1 m x.Body o2 (by omega) (by omega)
   have ih2:=Zhh L h1 m x.Else o3 (by omega) (by omega)
   rw [TP,Vp,Zp8]
   simp only [Zj,Zd,cond_true,cond_false,Zg,Zz,Za,Zm,condC,Zi,Zh,Zl,ZI,ZR,ZA,hi,hx,ZyQ,ZyI L x _ o1 (by omega),Zwn L x _ o1 (by omega) h1,ih1,ih2,wrap_succ hi (by omega),e']; simp only [Yu,Xp,if_true,if_false,Bool.false_eq_true,ne_eq,decide_not,gt_iff_lt,ge_iff_le,Zxy]
   have:_=if decide ((if decide (Zoe x≠0)=true then Zoe x else if decide (Vp x.Body≠0)=true then Vp x.Body else Vp x.Else)≠0)=true then (if decide (Zoe x≠0)=true then Zoe x else if decide (Vp x.Body≠0)=true then Vp x.Body else Vp x.Else) else Vp r:=Zvb (!(L9 x.Op).2 || !(Zky x (L9 x.Op).1)) (ZiZ x (L9 x.Op).1) (Vp x.Body) (Vp x.Else) (Vp r)
   simp only [ne_eq,decide_not] at this
   rw [this]
  ·rw [TP]; simp only [Zj,Zd,cond_true,cond_false,Zg,Zz,Za,Zm,condC,Zi,Zh,Zl,ZI,ZR,ZA,Vp]
theorem ZkV (L:Nat)(h1:100≤L):∀ (m:Nat) (l:List Z8),Zki l→SizeOf.sizeOf l≤m→m≤L→Ub L m (l,())=some (Vp l)
 | 0,e,h,hs,_=>absurd hs (by have:=Zxg e; omega)
 | m + 1,l,h,hs,hm=>by
  have hk:=ZH l; have hl:=h.1
  rw [Zox]
  refine CB l (fun l=>some (Vp l)) (by omega) (fun self i x r hx hi mem e'=>?_) (fun self=>?_)
  ·have hz:=Zxf mem
   obtain ⟨o1,o2,o3⟩:=h.s mem
   have ih1:=ZkV L h1 m x.Body o2 (by omega) (by omega)
   have ih2:=ZkV L h1 m x.Else o3 (by omega) (by omega)
   rw [Sm,Vp,Zp8]
   simp only [Zj,Zd,cond_true,cond_false,Zg,Zz,Za,Zm,condC,Zi,Zh,Zl,ZI,ZR,ZA,hi,hx,Z06 L x o1 (by omega) h1,ih1,ih2,wrap_succ hi (by omega),e']; simp only [Yu,Xp,if_true,if_false,Bool.false_eq_true,ne_eq,decide_not,gt_iff_lt,ge_iff_le]
   have:=Zvc (Zoe x) (Vp x.Body) (Vp x.Else) (Vp r)
   simp only [ne_eq,decide_not] at this
   rw [← this]
   by_cases a:Zoe x=0 <;> by_cases b:Vp x.Body=0 <;> by_cases c:Vp x.Else=0 <;> simp [a,b,c]
  ·rw [Sm]; simp only [Zj,Zd,cond_true,cond_false,Zg,Zz,Za,Zm,condC,Zi,Zh,Zl,ZI,ZR,ZA,Vp]
theorem Zdy (L:Nat):∀ (m:Nat) (l:List Z8),Zki l→SizeOf.sizeOf l≤m→m≤L→Jz L m (l,())=some (NE l 0)
 | 0,e,h,hs,_=>absurd hs (by have:=Zxg e; omega)
 | m + 1,l,h,hs,hm=>by
  have hk:=ZH l; have hl:=h.1
  rw [Zjx]
  refine CE l (fun l n=>some (NE l n)) (by omega) 0 (fun self n i x r hx hi mem e'=>?_) (fun self n=>?_)
  ·have hz:=Zxf mem
   obtain ⟨o1,o2,o3⟩:=h.s mem
   have ih1:=Zdy L m x.Body o2 (by omega) (by omega)
   have ih2:=Zdy L m x.Else o3 (by omega) (by omega)
   rw [TN,NE,ZpH]
   simp only [Zj,Zd,cond_true,cond_false,Zg,Zz,Za,Zm,condC,Zi,Zh,Zl,ZI,ZR,ZA,hi,hx,ih1,ih2,wrap_succ hi (by omega),e',mx3]
  ·rw [TN]; simp only [Zj,Zd,cond_true,cond_false,Zg,Zz,Za,Zm,condC,Zi,Zh,Zl,ZI,ZR,ZA,NE]
theorem CQ (L:Nat):∀ (m:Nat) (l:List Z8),Zki l→SizeOf.sizeOf l≤m→m≤L→UE L m (l,())=some (NE l 0)
 | 0,e,h,hs,_=>absurd hs (by have:=Zxg e; omega)
 | m + 1,l,h,hs,hm=>by
  have hk:=ZH l; have hl:=h.1
  rw [Zlq]
  refine CE l (fun l n=>some (NE l n)) (by omega) 0 (fun self n i x r hx hi mem e'=>?_) (fun self n=>?_)
  ·have hz:=Zxf mem
   obtain ⟨o1,o2,o3⟩:=h.s mem
   have ih1:=CQ L m x.Body o2 (by omega) (by omega)
   have ih2:=CQ L m x.Else o3 (by omega) (by omega)
   rw [RX,NE,ZpH]
   simp only [Zj,Zd,cond_true,cond_false,Zg,Zz,Za,Zm,condC,Zi,Zh,Zl,ZI,ZR,ZA,hi,hx,ih1,ih2,wrap_succ hi (by omega),e',mx3]
  ·rw [RX]; simp only [Zj,Zd,cond_true,cond_false,Zg,Zz,Za,Zm,condC,Zi,Zh,Zl,ZI,ZR,ZA,NE]
theorem Zdx (L:Nat):∀ (m:Nat) (l:List Z8),Zki l→SizeOf.sizeOf l≤m→m≤L→Jy L m (l,())=some (Oo l (l.length:Int))
 | 0,e,h,hs,_=>absurd hs (by have:=Zxg e; omega)
 | m + 1,l,h,hs,hm=>by
  have hk:=ZH l; have hl:=h.1
  rw [Zjw]
  refine CE l (fun l n=>some (Oo l n)) (by omega) _ (fun self n i x r hx hi mem e'=>?_) (fun self n=>?_)
  ·have hz:=Zxf mem
   obtain ⟨o1,o2,o3⟩:=h.s mem
   have ih1:=Zdx L m x.Body o2 (by omega) (by omega)
   have ih2:=Zdx L m x.Else o3 (by omega) (by omega)
   rw [TM,Oo,Zve]
   simp only [Zj,Zd,cond_true,cond_false,Zg,Zz,Za,Zm,condC,Zi,Zh,Zl,ZI,ZR,ZA,hi,hx,ih1,ih2,wrap_succ hi (by omega),e']
  ·rw [TM]; simp only [Zj,Zd,cond_true,cond_false,Zg,Zz,Za,Zm,condC,Zi,Zh,Zl,ZI,ZR,ZA,Oo]
theorem Zdw (L:Nat):∀ (m:Nat) (l:List Z8),Zki l→SizeOf.sizeOf l≤m→m≤L→UD L m (l,())=some (G7 l 0)
 | 0,e,h,hs,_=>absurd hs (by have:=Zxg e; omega)
 | m + 1,l,h,hs,hm=>by
  have hk:=ZH l; have hl:=h.1
  rw [Zlp]
  refine CE l (fun l n=>some (G7 l n)) (by omega) _ (fun self n i x r hx hi mem e'=>?_) (fun self n=>?_)
  ·have hz:=Zxf mem
   obtain ⟨o1,o2,o3⟩:=h.s mem
   have ih1:=Zdw L m x.Body o2 (by omega) (by omega)
   have ih2:=Zdw L m x.Else o3 (by omega) (by omega)
   rw [RV,G7,Zp9]
   simp only [Zj,Zd,cond_true,cond_false,Zg,Zz,Za,Zm,condC,Zi,Zh,Zl,ZI,ZR,ZA,hi,hx,ih1,ih2,wrap_succ hi (by omega),e']
  ·rw [RV]; simp only [Zj,Zd,cond_true,cond_false,Zg,Zz,Za,Zm,condC,Zi,Zh,Zl,ZI,ZR,ZA,G7]
theorem Zt5 (L:Nat)(h1:100≤L)(l:List Z8)(h:Zki l)(hL:SizeOf.sizeOf l≤L):I7 L (l,())=some (ZaF l):=by
 simp only [Zj,Zd,cond_true,cond_false,Zg,Zz,Za,Zm,condC,Zi,Zh,Zl,ZI,ZR,ZA,Zjv,show BZ L (l,())=_ from Zdx L L l h hL (Nat.le_refl _),show Dc L (l,())=_ from Zdy L L l h hL (Nat.le_refl _),show Df L (l,())=_ from Zhh L h1 L l h hL (Nat.le_refl _),ZaF]; simp only [Yu,Xp,if_true,if_false,Bool.false_eq_true,ne_eq,decide_not,gt_iff_lt,ge_iff_le]
theorem Zrb (L:Nat)(h1:100≤L)(l:List Z8)(h:Zki l)(hL:SizeOf.sizeOf l≤L):MF L (l,())=some (ZaF l):=by
 rw [← ZnM l (by have:=h.1; omega)]
 simp only [Zj,Zd,cond_true,cond_false,Zg,Zz,Za,Zm,condC,Zi,Zh,Zl,ZI,ZR,ZA,Zlo,show Eg L (l,())=_ from Zdw L L l h hL (Nat.le_refl _),show Eh L (l,())=_ from CQ L L l h hL (Nat.le_refl _),show Zan L (l,())=_ from ZkV L h1 L l h hL (Nat.le_refl _),Zkr]; simp only [Yu,Xp,if_true,if_false,Bool.false_eq_true,ne_eq,decide_not,gt_iff_lt,ge_iff_le]
end Go.Proofs.YtgjcjbhhhlelnaaGreatDoor
end
