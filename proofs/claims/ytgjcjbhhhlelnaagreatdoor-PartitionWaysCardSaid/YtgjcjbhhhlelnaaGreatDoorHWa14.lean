import Derived.Test.YtgjcjbhhhlelnaaGreatDoorHWa13
set_option linter.all false
section
namespace Go.Proofs.YtgjcjbhhhlelnaaGreatDoor
open Go Go.Proofs.YtgjcjbhhhlelnaaGreatDoor.Abs Go.Proofs.YtgjcjbhhhlelnaaGreatDoor.Tl
set_option maxRecDepth 100000
theorem ZdI {τ ρ:Type}(f:(τ→Option ρ)→τ→Option ρ){L:Nat}(h:2 < L)(x:τ):Zt f L x=f (f (f (Zt f (L - 3)))) x:=by
 obtain ⟨m,rfl⟩:∃ m,L=m + 3:=⟨L - 3,by omega⟩
 rfl
theorem two {α:Type}(a b:α):ZK [a,b] 0=some a∧ZK [a,b] 1=some b∧decide ((0:Int) < (([a,b].length:Nat):Int))=true∧decide ((1:Int) < (([a,b].length:Nat):Int))=true∧decide ((2:Int) < (([a,b].length:Nat):Int))=false :=
 ⟨Zf [a,b] 0,Zf [a,b] 1,by simp,by simp,by simp⟩
theorem Zv0 {α β:Type}(c:Bool)(a:α)(b:β){X:Option (α×β×PUnit)}{Y:α×β}(h:X=some (Y.1,Y.2,())):(bif c then some (a,b,()) else X)=some ((if c=true then (a,b) else Y).1,(if c=true then (a,b) else Y).2,()):=by
 cases c
 ·simpa using h
 ·rfl
theorem ZxG (L:Nat)(n:Int):MH L (n,())=some ((Lp n).1,(Lp n).2,()):=by
 simp only [Zkp,Lp,ZL]
 repeat refine Zv0 _ _ _ ?_
 rfl
def F10 (u:Gs):YK:=⟨u.name,u.of,u.e,u.f,u.args,u.dist,u.flag,u.body,u.other⟩
theorem Zqv (c:Bool)(a:Gs)(b:Bool){X:Option (YK×Bool×PUnit)}{Y:Gs×Bool}(h:X=some (F10 Y.1,Y.2,())):(bif c then some (F10 a,b,()) else X)=some (F10 (if c=true then (a,b) else Y).1,(if c=true then (a,b) else Y).2,()):=by
 cases c
 ·simpa using h
 ·rfl
theorem Z0d (L:Nat)(n:Int):Ah L (n,())=some (F10 (Lp n).1,(Lp n).2,()):=by
 simp only [Zso,Lp,ZL]
 repeat refine Zqv _ ⟨_,_,_,_,_,_,_,_,_⟩ _ ?_
 rfl
theorem F7 (e:Zu):EL e ⟨0,[],0,[]⟩=Am e:=by
 obtain ⟨o,a,n,ks⟩:=e
 cases ks with
 | nil =>
  rw [Zbi]; simp only [Zjl,Am,all2]
  by_cases h1:o=0 <;> by_cases h2:a=[] <;> by_cases h3:n=0 <;> simp [h1,h2,h3]
 | cons x r =>
  have:¬ ((r.length:Int) + 1=0):=by omega
  rw [Zbi]; simp only [Zjl,Am]; simp [this]
theorem Gm (d:YT):Zoy d ⟨0,0,0,0,[],[]⟩=P7 d:=rfl
theorem ZpJ (L:Nat)(e:Zu)(h:Yf e)(hL:SizeOf.sizeOf e≤L):Jy L (e,())=some (Am e):=by
 simp only [Zj,Zd,cond_true,cond_false,Zf,Z5,Za,Zq,condC,Zi,Zh,Zn,ZL,ZU,ZE,Zgk,Zp8 L e _ h hL,F7]
theorem Zg1 (s:ZA):SizeOf.sizeOf s.Dist < SizeOf.sizeOf s∧SizeOf.sizeOf s.Name < SizeOf.sizeOf s∧SizeOf.sizeOf s.Of < SizeOf.sizeOf s:=by cases s; simp; omega
theorem Zx8 (L:Nat)(s:ZA)(u:Gs)(h:YA s)(hL:SizeOf.sizeOf s≤L):MG L (s,u,())=some (Zjh s u):=by
 have:=Ztq s; have:=Zg1 s
 simp only [Zj,Zd,cond_true,cond_false,Zf,Z5,Za,Zq,condC,Zi,Zh,Zn,ZL,ZU,ZE,Zko,ZpJ L s.E h.E (by omega),ZpJ L s.F h.F (by omega),ZfP L s.Dist _ h.Dist (by omega),Gm,Zjh]
theorem Zva (L:Nat)(e:Zu):O5 L (e,())=some (Am e):=by
 simp only [Zj,Zd,cond_true,cond_false,Zf,Z5,Za,Zq,condC,Zi,Zh,Zn,ZL,ZU,ZE,Znb,Am]
theorem Zsa (L:Nat)(s:ZA)(h:YA s)(hL:SizeOf.sizeOf s≤L):I9 L (s,())=some (Zo7 s):=by
 have:=Ztq s; have:=Zg1 s
 simp only [Zj,Zd,cond_true,cond_false,Zf,Z5,Za,Zq,condC,Zi,Zh,Zn,ZL,ZU,ZE,Zia,Z0d,Zva,Zbb L s.Dist _ h.Dist (by omega),Gm,Zo7,F10]
theorem ZuS (L:Nat)(s:ZA)(u:Gs)(h:YA s)(hL:SizeOf.sizeOf s≤L)(h1:100≤L):IB L (s,u,())=some (ZhH s u):=by
 have:=Ztq s; have:=Zg1 s; have ha:=ZI s.Args; have hal:=h.a
 have hn:=QH L s.Name (by have:=h.Name; unfold Len; omega) (by have:=ZI s.Name; omega)
 have ho:=QH L s.Of (by have:=h.Of; unfold Len; omega) (by have:=ZI s.Of; omega)
 have hE:=ZfQ L s.E h.E (by omega)
 have hF:=ZfQ L s.F h.F (by omega)
 have hD:=Ti L s.Dist h.Dist (by omega) h1
 have lp:Zt (KO s u L) L (0,())=some (Zd6 s u s.Args):=by
  refine Fj s.Args (fun l=>some (Zd6 s u l)) (by omega) (fun self i x r hx hi mem e'=>?_) (fun self=>?_)
  ·have hx':=ZfQ L x (h.Args.2 x mem) (by have:=Z0e mem; omega)
   rw [KO]; simp only [Zj,Zd,cond_true,cond_false,Zf,Z5,Za,Zq,condC,Zi,Zh,Zn,ZL,ZU,ZE,hi,hx,hx',wrap_succ hi (by omega),e',Zd6]; simp only [Yo,Xh,if_true,if_false,Bool.false_eq_true,ne_eq,decide_not,gt_iff_lt,ge_iff_le]
  ·rw [KO]; simp only [Zj,Zd,cond_true,cond_false,Zf,Z5,Za,Zq,condC,Zi,Zh,Zn,ZL,ZU,ZE,hD,Zd6]; simp only [Yo,Xh,if_true,if_false,Bool.false_eq_true,ne_eq,decide_not,gt_iff_lt,ge_iff_le]
 rw [Zii,ZdI _ (by omega)]
 simp only [ER,two,w01,ZdI (TN _ _ _ _) (show 2 < L by omega),TN]
 simp only [Zj,Zd,cond_true,cond_false,Zf,Z5,Za,Zq,condC,Zi,Zh,Zn,ZL,ZU,ZE,two,w01,hn,ho,hE,hF,lp,ZhH,ZlN,ZlO,ZlM]; simp only [Yo,Xh,if_true,if_false,Bool.false_eq_true,ne_eq,decide_not,gt_iff_lt,ge_iff_le]
theorem lpX (L:Nat)(s:ZA)(h:YA s)(hL:SizeOf.sizeOf s≤L)(h1:100≤L)(n:Int):Zt (Wv s L) L (n,0,())=some (AB s s.Args n):=by
 have:=Ztq s; have ha:=ZI s.Args; have hal:=h.a
 refine ZaF s.Args (fun l n=>some (AB s l n)) (by omega) n (fun self n i x r hx hi mem e'=>?_) (fun self n=>?_)
 ·have hx':=ZfR L h1 x (h.Args.2 x mem) (by have:=Z0e mem; omega)
  rw [Wv]; simp only [Zj,Zd,cond_true,cond_false,Zf,Z5,Za,Zq,condC,Zi,Zh,Zn,ZL,ZU,ZE,hi,hx,hx',wrap_succ hi (by omega),e',AB,Bool.and_true]; simp only [Yo,Xh,if_true,if_false,Bool.false_eq_true,ne_eq,decide_not,gt_iff_lt,ge_iff_le]
 ·rw [Wv]; simp only [Zj,Zd,cond_true,cond_false,Zf,Z5,Za,Zq,condC,Zi,Zh,Zn,ZL,ZU,ZE,AB,Bool.and_false]
theorem ZuP (L:Nat)(s:ZA)(u:Gs)(h:YA s)(hL:SizeOf.sizeOf s≤L)(h1:100≤L):TY L (s,F10 u,())=some (Zca s u):=by
 have:=Ztq s
 have hE:=ZfR L h1 s.E h.E (by omega)
 have hF:=ZfR L h1 s.F h.F (by omega)
 have lp:=lpX L s h hL h1
 rw [ZjY,show Zac=Wv from rfl,show Zad=Wv from rfl,show Zae=Wv from rfl,show Zaf=Wv from rfl,show Zag=Wv from rfl,show Zah=Wv from rfl,show Zai=Wv from rfl]
 simp only [Zj,Zd,cond_true,cond_false,Zf,Z5,Za,Zq,condC,Zi,Zh,Zn,ZL,ZU,ZE,hE,hF,lp,Zca,F10]
 cases u.e <;> cases u.f <;> simp only [Zj,Zd,cond_true,cond_false,Zf,Z5,Za,Zq,condC,Zi,Zh,Zn,ZL,ZU,ZE,decide_true,Bool.true_and,Bool.and_true,Bool.and_false,if_true,if_false,Bool.false_eq_true] <;> simp only [Yo,Xh,if_true,if_false,Bool.false_eq_true,ne_eq,decide_not,gt_iff_lt,ge_iff_le] <;> (repeat' split) <;> first | rfl | simp_all
theorem Zz9 (L:Nat)(s:ZA)(h:YA s)(hL:SizeOf.sizeOf s≤L)(h1:100≤L):Ai L (s,())=some (ZmJ s):=by
 have:=Ztq s; have:=Zg1 s
 have hn:=JP L s.Name (by have:=h.Name; unfold Len; omega) (by have:=ZI s.Name; omega) h1
 have ho:=JP L s.Of (by have:=h.Of; unfold Len; omega) (by have:=ZI s.Of; omega) h1
 have hD:=BR L s.Dist h.Dist (by omega)
 rw [← ZuE]
 simp only [ZpS,Z0d,Z5,show (F10 (Lp s.Op).1).1=(Lp s.Op).1.name from rfl,show (F10 (Lp s.Op).1).2=(Lp s.Op).1.of from rfl,show (F10 (Lp s.Op).1).6=(Lp s.Op).1.dist from rfl]
 simp only [Zj,Zd,cond_true,cond_false,Zf,Z5,Za,Zq,condC,Zi,Zh,Zn,ZL,ZU,ZE,Zsa L s h hL,hn,ho,hD,ZuP L s _ h hL h1,Zz6,Zft]; simp only [Yo,Xh,if_true,if_false,Bool.false_eq_true,ne_eq,decide_not,gt_iff_lt,ge_iff_le]
theorem ZiP.s {l:List ZA}(h:ZiP l){x:ZA}(hx:x ∈ l):YA x∧ZiP x.Body∧ZiP x.Else:=⟨h.2 x hx,(h.2 x hx).b.1,(h.2 x hx).b.2⟩
theorem Zwk (c x:Bool):(if c=true then true else x)=(c || x):=by cases c <;> rfl
theorem ZfT (L:Nat)(h1:100≤L):∀ (m:Nat) (l:List ZA),ZiP l→SizeOf.sizeOf l≤m→m≤L→J4 L m (l,())=some (Vq l)
 | 0,e,h,hs,_=>absurd hs (by have:=ZvQ e; omega)
 | m + 1,l,h,hs,hm=>by
  have hk:=ZI l; have hl:=h.1
  rw [Zih]
  refine Fj l (fun l=>some (Vq l)) (by omega) (fun self i x r hx hi mem e'=>?_) (fun self=>?_)
  ·have hz:=ZvP mem
   obtain ⟨o1,o2,o3⟩:=h.s mem
   have ih1:=ZfT L h1 m x.Body o2 (by omega) (by omega)
   have ih2:=ZfT L h1 m x.Else o3 (by omega) (by omega)
   rw [TM,Vq,Zop]
   simp only [Zj,Zd,cond_true,cond_false,Zf,Z5,Za,Zq,condC,Zi,Zh,Zn,ZL,ZU,ZE,hi,hx,ZxG,Zx8 L x _ o1 (by omega),ZuS L x _ o1 (by omega) h1,ih1,ih2,wrap_succ hi (by omega),e']; simp only [Yo,Xh,if_true,if_false,Bool.false_eq_true,ne_eq,decide_not,gt_iff_lt,ge_iff_le,Zwk]
   have:_=if decide ((if decide (ZmJ x≠0)=true then ZmJ x else if decide (Vq x.Body≠0)=true then Vq x.Body else Vq x.Else)≠0)=true then (if decide (ZmJ x≠0)=true then ZmJ x else if decide (Vq x.Body≠0)=true then Vq x.Body else Vq x.Else) else Vq r:=ZtH (!(Lp x.Op).2 || !(Zjh x (Lp x.Op).1)) (ZhH x (Lp x.Op).1) (Vq x.Body) (Vq x.Else) (Vq r)
   simp only [ne_eq,decide_not] at this
   rw [this]
  ·rw [TM]; simp only [Zj,Zd,cond_true,cond_false,Zf,Z5,Za,Zq,condC,Zi,Zh,Zn,ZL,ZU,ZE,Vq]
theorem ZjC (L:Nat)(h1:100≤L):∀ (m:Nat) (l:List ZA),ZiP l→SizeOf.sizeOf l≤m→m≤L→JX L m (l,())=some (Vq l)
 | 0,e,h,hs,_=>absurd hs (by have:=ZvQ e; omega)
 | m + 1,l,h,hs,hm=>by
  have hk:=ZI l; have hl:=h.1
  rw [Zna]
  refine Fj l (fun l=>some (Vq l)) (by omega) (fun self i x r hx hi mem e'=>?_) (fun self=>?_)
  ·have hz:=ZvP mem
   obtain ⟨o1,o2,o3⟩:=h.s mem
   have ih1:=ZjC L h1 m x.Body o2 (by omega) (by omega)
   have ih2:=ZjC L h1 m x.Else o3 (by omega) (by omega)
   rw [NE,Vq,Zop]
   simp only [Zj,Zd,cond_true,cond_false,Zf,Z5,Za,Zq,condC,Zi,Zh,Zn,ZL,ZU,ZE,hi,hx,Zz9 L x o1 (by omega) h1,ih1,ih2,wrap_succ hi (by omega),e']; simp only [Yo,Xh,if_true,if_false,Bool.false_eq_true,ne_eq,decide_not,gt_iff_lt,ge_iff_le]
   have:=ZtI (ZmJ x) (Vq x.Body) (Vq x.Else) (Vq r)
   simp only [ne_eq,decide_not] at this
   rw [← this]
   by_cases a:ZmJ x=0 <;> by_cases b:Vq x.Body=0 <;> by_cases c:Vq x.Else=0 <;> simp [a,b,c]
  ·rw [NE]; simp only [Zj,Zd,cond_true,cond_false,Zf,Z5,Za,Zq,condC,Zi,Zh,Zn,ZL,ZU,ZE,Vq]
theorem Zc7 (L:Nat):∀ (m:Nat) (l:List ZA),ZiP l→SizeOf.sizeOf l≤m→m≤L→J3 L m (l,())=some (PU l 0)
 | 0,e,h,hs,_=>absurd hs (by have:=ZvQ e; omega)
 | m + 1,l,h,hs,hm=>by
  have hk:=ZI l; have hl:=h.1
  rw [Zig]
  refine ZaF l (fun l n=>some (PU l n)) (by omega) 0 (fun self n i x r hx hi mem e'=>?_) (fun self n=>?_)
  ·have hz:=ZvP mem
   obtain ⟨o1,o2,o3⟩:=h.s mem
   have ih1:=Zc7 L m x.Body o2 (by omega) (by omega)
   have ih2:=Zc7 L m x.Else o3 (by omega) (by omega)
   rw [TL,PU,Zov]
   simp only [Zj,Zd,cond_true,cond_false,Zf,Z5,Za,Zq,condC,Zi,Zh,Zn,ZL,ZU,ZE,hi,hx,ih1,ih2,wrap_succ hi (by omega),e',mx3]
  ·rw [TL]; simp only [Zj,Zd,cond_true,cond_false,Zf,Z5,Za,Zq,condC,Zi,Zh,Zn,ZL,ZU,ZE,PU]
theorem Fq (L:Nat):∀ (m:Nat) (l:List ZA),ZiP l→SizeOf.sizeOf l≤m→m≤L→UD L m (l,())=some (PU l 0)
 | 0,e,h,hs,_=>absurd hs (by have:=ZvQ e; omega)
 | m + 1,l,h,hs,hm=>by
  have hk:=ZI l; have hl:=h.1
  rw [ZjX]
  refine ZaF l (fun l n=>some (PU l n)) (by omega) 0 (fun self n i x r hx hi mem e'=>?_) (fun self n=>?_)
  ·have hz:=ZvP mem
   obtain ⟨o1,o2,o3⟩:=h.s mem
   have ih1:=Fq L m x.Body o2 (by omega) (by omega)
   have ih2:=Fq L m x.Else o3 (by omega) (by omega)
   rw [RN,PU,Zov]
   simp only [Zj,Zd,cond_true,cond_false,Zf,Z5,Za,Zq,condC,Zi,Zh,Zn,ZL,ZU,ZE,hi,hx,ih1,ih2,wrap_succ hi (by omega),e',mx3]
  ·rw [RN]; simp only [Zj,Zd,cond_true,cond_false,Zf,Z5,Za,Zq,condC,Zi,Zh,Zn,ZL,ZU,ZE,PU]
theorem Zc6 (L:Nat):∀ (m:Nat) (l:List ZA),ZiP l→SizeOf.sizeOf l≤m→m≤L→Jz L m (l,())=some (Oj l (l.length:Int))
 | 0,e,h,hs,_=>absurd hs (by have:=ZvQ e; omega)
 | m + 1,l,h,hs,hm=>by
  have hk:=ZI l; have hl:=h.1
  rw [Zif]
  refine ZaF l (fun l n=>some (Oj l n)) (by omega) _ (fun self n i x r hx hi mem e'=>?_) (fun self n=>?_)
  ·have hz:=ZvP mem
   obtain ⟨o1,o2,o3⟩:=h.s mem
   have ih1:=Zc6 L m x.Body o2 (by omega) (by omega)
   have ih2:=Zc6 L m x.Else o3 (by omega) (by omega)
   rw [TK,Oj,ZtK]
   simp only [Zj,Zd,cond_true,cond_false,Zf,Z5,Za,Zq,condC,Zi,Zh,Zn,ZL,ZU,ZE,hi,hx,ih1,ih2,wrap_succ hi (by omega),e']
  ·rw [TK]; simp only [Zj,Zd,cond_true,cond_false,Zf,Z5,Za,Zq,condC,Zi,Zh,Zn,ZL,ZU,ZE,Oj]
theorem Zc5 (L:Nat):∀ (m:Nat) (l:List ZA),ZiP l→SizeOf.sizeOf l≤m→m≤L→UC L m (l,())=some (G5 l 0)
 | 0,e,h,hs,_=>absurd hs (by have:=ZvQ e; omega)
 | m + 1,l,h,hs,hm=>by
  have hk:=ZI l; have hl:=h.1
  rw [ZjW]
  refine ZaF l (fun l n=>some (G5 l n)) (by omega) _ (fun self n i x r hx hi mem e'=>?_) (fun self n=>?_)
  ·have hz:=ZvP mem
   obtain ⟨o1,o2,o3⟩:=h.s mem
   have ih1:=Zc5 L m x.Body o2 (by omega) (by omega)
   have ih2:=Zc5 L m x.Else o3 (by omega) (by omega)
   rw [RJ,G5,Zoq]
   simp only [Zj,Zd,cond_true,cond_false,Zf,Z5,Za,Zq,condC,Zi,Zh,Zn,ZL,ZU,ZE,hi,hx,ih1,ih2,wrap_succ hi (by omega),e']
  ·rw [RJ]; simp only [Zj,Zd,cond_true,cond_false,Zf,Z5,Za,Zq,condC,Zi,Zh,Zn,ZL,ZU,ZE,G5]
theorem Zse (L:Nat)(h1:100≤L)(l:List ZA)(h:ZiP l)(hL:SizeOf.sizeOf l≤L):IA L (l,())=some (CV l):=by
 simp only [Zj,Zd,cond_true,cond_false,Zf,Z5,Za,Zq,condC,Zi,Zh,Zn,ZL,ZU,ZE,Zie,show BF L (l,())=_ from Zc6 L L l h hL (Nat.le_refl _),show BG L (l,())=_ from Zc7 L L l h hL (Nat.le_refl _),show BH L (l,())=_ from ZfT L h1 L l h hL (Nat.le_refl _),CV]; simp only [Yo,Xh,if_true,if_false,Bool.false_eq_true,ne_eq,decide_not,gt_iff_lt,ge_iff_le]
theorem ZpF (L:Nat)(h1:100≤L)(l:List ZA)(h:ZiP l)(hL:SizeOf.sizeOf l≤L):TW L (l,())=some (CV l):=by
 rw [← Zm2 l (by have:=h.1; omega)]
 simp only [Zj,Zd,cond_true,cond_false,Zf,Z5,Za,Zq,condC,Zi,Zh,Zn,ZL,ZU,ZE,ZjV,show Sj L (l,())=_ from Zc5 L L l h hL (Nat.le_refl _),show Sl L (l,())=_ from Fq L L l h hL (Nat.le_refl _),show FM L (l,())=_ from ZjC L h1 L l h hL (Nat.le_refl _),Zja]; simp only [Yo,Xh,if_true,if_false,Bool.false_eq_true,ne_eq,decide_not,gt_iff_lt,ge_iff_le]
end Go.Proofs.YtgjcjbhhhlelnaaGreatDoor
end
