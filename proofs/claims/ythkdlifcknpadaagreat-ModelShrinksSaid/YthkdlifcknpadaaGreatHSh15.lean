import Derived.Test.YthkdlifcknpadaaGreatHSh14
set_option linter.all false
section
namespace Go.Proofs.YthkdlifcknpadaaGreat
open Go Go.Proofs.YthkdlifcknpadaaGreat.Abs Go.Proofs.YthkdlifcknpadaaGreat.Tl
set_option maxRecDepth 100000
theorem Zm7 {τ ρ:Type}(f:(τ→Option ρ)→τ→Option ρ){L:Nat}(h:2 < L)(x:τ):Z9 f L x=f (f (f (Z9 f (L - 3)))) x:=by
 obtain ⟨m,rfl⟩:∃ m,L=m + 3:=⟨L - 3,by omega⟩
 rfl
theorem two {α:Type}(a b:α):YH [a,b] 0=some a∧YH [a,b] 1=some b∧decide ((0:Int) < (([a,b].length:Nat):Int))=true∧decide ((1:Int) < (([a,b].length:Nat):Int))=true∧decide ((2:Int) < (([a,b].length:Nat):Int))=false :=
 ⟨Zg [a,b] 0,Zg [a,b] 1,by simp,by simp,by simp⟩
theorem Zqw {α β:Type}(c:Bool)(a:α)(b:β){X:Option (α×β×PUnit)}{Y:α×β}(h:X=some (Y.1,Y.2,())):(bif c then some (a,b,()) else X)=some ((if c=true then (a,b) else Y).1,(if c=true then (a,b) else Y).2,()):=by
 cases c
 ·simpa using h
 ·rfl
theorem Zsu (L:Nat)(n:Int):Ih L (n,())=some ((IB n).1,(IB n).2,()):=by
 simp only [Zgb,IB,Yr]
 repeat refine Zqw _ _ _ ?_
 rfl
def F10 (u:U5):YI:=⟨u.name,u.of,u.e,u.f,u.args,u.dist,u.flag,u.body,u.other⟩
theorem Zlt (c:Bool)(a:U5)(b:Bool){X:Option (YI×Bool×PUnit)}{Y:U5×Bool}(h:X=some (F10 Y.1,Y.2,())):(bif c then some (F10 a,b,()) else X)=some (F10 (if c=true then (a,b) else Y).1,(if c=true then (a,b) else Y).2,()):=by
 cases c
 ·simpa using h
 ·rfl
theorem Zu8 (L:Nat)(n:Int):DN L (n,())=some (F10 (IB n).1,(IB n).2,()):=by
 simp only [Znq,IB,Yr]
 repeat refine Zlt _ ⟨_,_,_,_,_,_,_,_,_⟩ _ ?_
 rfl
theorem Zi7 (e:ZC):Zaz e ⟨0,[],0,[]⟩=Za4 e:=by
 obtain ⟨o,a,n,ks⟩:=e
 cases ks with
 | nil =>
  rw [ZcL]; simp only [ZhX,Za4,all2]
  by_cases h1:o=0 <;> by_cases h2:a=[] <;> by_cases h3:n=0 <;> simp [h1,h2,h3]
 | cons x r =>
  have:¬ ((r.length:Int) + 1=0):=by omega
  rw [ZcL]; simp only [ZhX,Za4]; simp [this]
theorem Tj (d:YV):Zj5 d ⟨0,0,0,0,[],[]⟩=DT d:=rfl
theorem ZkN (L:Nat)(e:ZC)(h:YE e)(hL:SizeOf.sizeOf e≤L):VI L (e,())=some (Za4 e):=by
 simp only [Zi,Ze,cond_true,cond_false,Zg,ZR,Zd,Zw,condC,Zj,Zk,Zx,Yr,Yt,ZZ,Zc7,ZpN L e _ h hL,Zi7]
theorem ZcR (s:Z5):SizeOf.sizeOf s.Dist < SizeOf.sizeOf s∧SizeOf.sizeOf s.Name < SizeOf.sizeOf s∧SizeOf.sizeOf s.Of < SizeOf.sizeOf s:=by cases s; simp; omega
theorem Zsn (L:Nat)(s:Z5)(u:U5)(h:Y7 s)(hL:SizeOf.sizeOf s≤L):Ig L (s,u,())=some (Zfj s u):=by
 have:=Zol s; have:=ZcR s
 simp only [Zi,Ze,cond_true,cond_false,Zg,ZR,Zd,Zw,condC,Zj,Zk,Zx,Yr,Yt,ZZ,Zga,ZkN L s.E h.E (by omega),ZkN L s.F h.F (by omega),Zf9 L s.Dist _ h.Dist (by omega),Tj,Zfj]
theorem ZpV (L:Nat)(e:ZC):G8 L (e,())=some (Za4 e):=by
 simp only [Zi,Ze,cond_true,cond_false,Zg,ZR,Zd,Zw,condC,Zj,Zk,Zx,Yr,Yt,ZZ,Zix,Za4]
theorem Znd (L:Nat)(s:Z5)(h:Y7 s)(hL:SizeOf.sizeOf s≤L):KH L (s,())=some (ZjB s):=by
 have:=Zol s; have:=ZcR s
 simp only [Zi,Ze,cond_true,cond_false,Zg,ZR,Zd,Zw,condC,Zj,Zk,Zx,Yr,Yt,ZZ,Zeo,Zu8,ZpV,Zcp L s.Dist _ h.Dist (by omega),Tj,ZjB,F10]
theorem ZpS (L:Nat)(s:Z5)(u:U5)(h:Y7 s)(hL:SizeOf.sizeOf s≤L)(h1:100≤L):KJ L (s,u,())=some (ZdX s u):=by
 have:=Zol s; have:=ZcR s; have ha:=ZO s.Args; have hal:=h.a
 have hn:=Xg L s.Name (by have:=h.Name; unfold Len; omega) (by have:=ZO s.Name; omega)
 have ho:=Xg L s.Of (by have:=h.Of; unfold Len; omega) (by have:=ZO s.Of; omega)
 have hE:=Zcm L s.E h.E (by omega)
 have hF:=Zcm L s.F h.F (by omega)
 have hD:=LW L s.Dist h.Dist (by omega) h1
 have lp:Z9 (Um s u L) L (0,())=some (Zaj s u s.Args):=by
  refine Zft s.Args (fun l=>some (Zaj s u l)) (by omega) (fun self i x r hx hi mem e'=>?_) (fun self=>?_)
  ·have hx':=Zcm L x (h.Args.2 x mem) (by have:=Zu9 mem; omega)
   rw [Um]; simp only [Zi,Ze,cond_true,cond_false,Zg,ZR,Zd,Zw,condC,Zj,Zk,Zx,Yr,Yt,ZZ,hi,hx,hx',wrap_succ hi (by omega),e',Zaj]; simp only [Wj,Ja,if_true,if_false,Bool.false_eq_true,ne_eq,decide_not,gt_iff_lt,ge_iff_le]
  ·rw [Um]; simp only [Zi,Ze,cond_true,cond_false,Zg,ZR,Zd,Zw,condC,Zj,Zk,Zx,Yr,Yt,ZZ,hD,Zaj]; simp only [Wj,Ja,if_true,if_false,Bool.false_eq_true,ne_eq,decide_not,gt_iff_lt,ge_iff_le]
 rw [Zev,Zm7 _ (by omega)]
 simp only [Dy,two,w01,Zm7 (Hw _ _ _ _) (show 2 < L by omega),Hw]
 simp only [Zi,Ze,cond_true,cond_false,Zg,ZR,Zd,Zw,condC,Zj,Zk,Zx,Yr,Yt,ZZ,two,w01,hn,ho,hE,hF,lp,ZdX,Zht,Zhu,Zhs]; simp only [Wj,Ja,if_true,if_false,Bool.false_eq_true,ne_eq,decide_not,gt_iff_lt,ge_iff_le]
theorem lpX (L:Nat)(s:Z5)(h:Y7 s)(hL:SizeOf.sizeOf s≤L)(h1:100≤L)(n:Int):Z9 (Wv s L) L (n,0,())=some (Pe s s.Args n):=by
 have:=Zol s; have ha:=ZO s.Args; have hal:=h.a
 refine ZbX s.Args (fun l n=>some (Pe s l n)) (by omega) n (fun self n i x r hx hi mem e'=>?_) (fun self n=>?_)
 ·have hx':=Zco L h1 x (h.Args.2 x mem) (by have:=Zu9 mem; omega)
  rw [Wv]; simp only [Zi,Ze,cond_true,cond_false,Zg,ZR,Zd,Zw,condC,Zj,Zk,Zx,Yr,Yt,ZZ,hi,hx,hx',wrap_succ hi (by omega),e',Pe,Bool.and_true]; simp only [Wj,Ja,if_true,if_false,Bool.false_eq_true,ne_eq,decide_not,gt_iff_lt,ge_iff_le]
 ·rw [Wv]; simp only [Zi,Ze,cond_true,cond_false,Zg,ZR,Zd,Zw,condC,Zj,Zk,Zx,Yr,Yt,ZZ,Pe,Bool.and_false]
theorem ZpO (L:Nat)(s:Z5)(u:U5)(h:Y7 s)(hL:SizeOf.sizeOf s≤L)(h1:100≤L):Ic L (s,F10 u,())=some (Ak s u):=by
 have:=Zol s
 have hE:=Zco L h1 s.E h.E (by omega)
 have hF:=Zco L h1 s.F h.F (by omega)
 have lp:=lpX L s h hL h1
 rw [ZfV,show Nz=Wv from rfl,show N7=Wv from rfl,show N8=Wv from rfl,show N9=Wv from rfl,show NC=Wv from rfl,show ND=Wv from rfl,show NE=Wv from rfl]
 simp only [Zi,Ze,cond_true,cond_false,Zg,ZR,Zd,Zw,condC,Zj,Zk,Zx,Yr,Yt,ZZ,hE,hF,lp,Ak,F10]
 cases u.e <;> cases u.f <;> simp only [Zi,Ze,cond_true,cond_false,Zg,ZR,Zd,Zw,condC,Zj,Zk,Zx,Yr,Yt,ZZ,decide_true,Bool.true_and,Bool.and_true,Bool.and_false,if_true,if_false,Bool.false_eq_true] <;> simp only [Wj,Ja,if_true,if_false,Bool.false_eq_true,ne_eq,decide_not,gt_iff_lt,ge_iff_le] <;> (repeat' split) <;> first | rfl | simp_all
theorem Zug (L:Nat)(s:Z5)(h:Y7 s)(hL:SizeOf.sizeOf s≤L)(h1:100≤L):DR L (s,())=some (Zij s):=by
 have:=Zol s; have:=ZcR s
 have hn:=Tt L s.Name (by have:=h.Name; unfold Len; omega) (by have:=ZO s.Name; omega) h1
 have ho:=Tt L s.Of (by have:=h.Of; unfold Len; omega) (by have:=ZO s.Of; omega) h1
 have hD:=P5 L s.Dist h.Dist (by omega)
 rw [← ZpC]
 simp only [ZkS,Zu8,ZR,show (F10 (IB s.Op).1).1=(IB s.Op).1.name from rfl,show (F10 (IB s.Op).1).2=(IB s.Op).1.of from rfl,show (F10 (IB s.Op).1).6=(IB s.Op).1.dist from rfl]
 simp only [Zi,Ze,cond_true,cond_false,Zg,ZR,Zd,Zw,condC,Zj,Zk,Zx,Yr,Yt,ZZ,Znd L s h hL,hn,ho,hD,ZpO L s _ h hL h1,Zue,ZbC]; simp only [Wj,Ja,if_true,if_false,Bool.false_eq_true,ne_eq,decide_not,gt_iff_lt,ge_iff_le]
theorem ZeW.s {l:List Z5}(h:ZeW l){x:Z5}(hx:x ∈ l):Y7 x∧ZeW x.Body∧ZeW x.Else:=⟨h.2 x hx,(h.2 x hx).b.1,(h.2 x hx).b.2⟩
theorem ZqT (c x:Bool):(if c=true then true else x)=(c || x):=by cases c <;> rfl
theorem Zcr (L:Nat)(h1:100≤L):∀ (m:Nat) (l:List Z5),ZeW l→SizeOf.sizeOf l≤m→m≤L→VL L m (l,())=some (XQ l)
 | 0,e,h,hs,_=>absurd hs (by have:=ZqF e; omega)
 | m + 1,l,h,hs,hm=>by
  have hk:=ZO l; have hl:=h.1
  rw [Zeu]
  refine Zft l (fun l=>some (XQ l)) (by omega) (fun self i x r hx hi mem e'=>?_) (fun self=>?_)
  ·have hz:=ZqE mem
   obtain ⟨o1,o2,o3⟩:=h.s mem
   have ih1:=Zcr L h1 m x.Body o2 (by omega) (by omega)
   have ih2:=Zcr L h1 m x.Else o3 (by omega) (by omega)
   rw [Hu,XQ,Zjq]
   simp only [Zi,Ze,cond_true,cond_false,Zg,ZR,Zd,Zw,condC,Zj,Zk,Zx,Yr,Yt,ZZ,hi,hx,Zsu,Zsn L x _ o1 (by omega),ZpS L x _ o1 (by omega) h1,ih1,ih2,wrap_succ hi (by omega),e']; simp only [Wj,Ja,if_true,if_false,Bool.false_eq_true,ne_eq,decide_not,gt_iff_lt,ge_iff_le,ZqT]
   have:_=if decide ((if decide (Zij x≠0)=true then Zij x else if decide (XQ x.Body≠0)=true then XQ x.Body else XQ x.Else)≠0)=true then (if decide (Zij x≠0)=true then Zij x else if decide (XQ x.Body≠0)=true then XQ x.Body else XQ x.Else) else XQ r:=ZoD (!(IB x.Op).2 || !(Zfj x (IB x.Op).1)) (ZdX x (IB x.Op).1) (XQ x.Body) (XQ x.Else) (XQ r)
   simp only [ne_eq,decide_not] at this
   rw [this]
  ·rw [Hu]; simp only [Zi,Ze,cond_true,cond_false,Zg,ZR,Zd,Zw,condC,Zj,Zk,Zx,Yr,Yt,ZZ,XQ]
theorem ZfD (L:Nat)(h1:100≤L):∀ (m:Nat) (l:List Z5),ZeW l→SizeOf.sizeOf l≤m→m≤L→Jl L m (l,())=some (XQ l)
 | 0,e,h,hs,_=>absurd hs (by have:=ZqF e; omega)
 | m + 1,l,h,hs,hm=>by
  have hk:=ZO l; have hl:=h.1
  rw [Ziw]
  refine Zft l (fun l=>some (XQ l)) (by omega) (fun self i x r hx hi mem e'=>?_) (fun self=>?_)
  ·have hz:=ZqE mem
   obtain ⟨o1,o2,o3⟩:=h.s mem
   have ih1:=ZfD L h1 m x.Body o2 (by omega) (by omega)
   have ih2:=ZfD L h1 m x.Else o3 (by omega) (by omega)
   rw [Rj,XQ,Zjq]
   simp only [Zi,Ze,cond_true,cond_false,Zg,ZR,Zd,Zw,condC,Zj,Zk,Zx,Yr,Yt,ZZ,hi,hx,Zug L x o1 (by omega) h1,ih1,ih2,wrap_succ hi (by omega),e']; simp only [Wj,Ja,if_true,if_false,Bool.false_eq_true,ne_eq,decide_not,gt_iff_lt,ge_iff_le]
   have:=ZoE (Zij x) (XQ x.Body) (XQ x.Else) (XQ r)
   simp only [ne_eq,decide_not] at this
   rw [← this]
   by_cases a:Zij x=0 <;> by_cases b:XQ x.Body=0 <;> by_cases c:XQ x.Else=0 <;> simp [a,b,c]
  ·rw [Rj]; simp only [Zi,Ze,cond_true,cond_false,Zg,ZR,Zd,Zw,condC,Zj,Zk,Zx,Yr,Yt,ZZ,XQ]
theorem FC (L:Nat):∀ (m:Nat) (l:List Z5),ZeW l→SizeOf.sizeOf l≤m→m≤L→VK L m (l,())=some (L8 l 0)
 | 0,e,h,hs,_=>absurd hs (by have:=ZqF e; omega)
 | m + 1,l,h,hs,hm=>by
  have hk:=ZO l; have hl:=h.1
  rw [Zet]
  refine ZbX l (fun l n=>some (L8 l n)) (by omega) 0 (fun self n i x r hx hi mem e'=>?_) (fun self n=>?_)
  ·have hz:=ZqE mem
   obtain ⟨o1,o2,o3⟩:=h.s mem
   have ih1:=FC L m x.Body o2 (by omega) (by omega)
   have ih2:=FC L m x.Else o3 (by omega) (by omega)
   rw [Ht,L8,Zj1]
   simp only [Zi,Ze,cond_true,cond_false,Zg,ZR,Zd,Zw,condC,Zj,Zk,Zx,Yr,Yt,ZZ,hi,hx,ih1,ih2,wrap_succ hi (by omega),e',mx3]
  ·rw [Ht]; simp only [Zi,Ze,cond_true,cond_false,Zg,ZR,Zd,Zw,condC,Zj,Zk,Zx,Yr,Yt,ZZ,L8]
theorem P6 (L:Nat):∀ (m:Nat) (l:List Z5),ZeW l→SizeOf.sizeOf l≤m→m≤L→JL L m (l,())=some (L8 l 0)
 | 0,e,h,hs,_=>absurd hs (by have:=ZqF e; omega)
 | m + 1,l,h,hs,hm=>by
  have hk:=ZO l; have hl:=h.1
  rw [ZfU]
  refine ZbX l (fun l n=>some (L8 l n)) (by omega) 0 (fun self n i x r hx hi mem e'=>?_) (fun self n=>?_)
  ·have hz:=ZqE mem
   obtain ⟨o1,o2,o3⟩:=h.s mem
   have ih1:=P6 L m x.Body o2 (by omega) (by omega)
   have ih2:=P6 L m x.Else o3 (by omega) (by omega)
   rw [O4,L8,Zj1]
   simp only [Zi,Ze,cond_true,cond_false,Zg,ZR,Zd,Zw,condC,Zj,Zk,Zx,Yr,Yt,ZZ,hi,hx,ih1,ih2,wrap_succ hi (by omega),e',mx3]
  ·rw [O4]; simp only [Zi,Ze,cond_true,cond_false,Zg,ZR,Zd,Zw,condC,Zj,Zk,Zx,Yr,Yt,ZZ,L8]
theorem FB (L:Nat):∀ (m:Nat) (l:List Z5),ZeW l→SizeOf.sizeOf l≤m→m≤L→VJ L m (l,())=some (Gn l (l.length:Int))
 | 0,e,h,hs,_=>absurd hs (by have:=ZqF e; omega)
 | m + 1,l,h,hs,hm=>by
  have hk:=ZO l; have hl:=h.1
  rw [Zes]
  refine ZbX l (fun l n=>some (Gn l n)) (by omega) _ (fun self n i x r hx hi mem e'=>?_) (fun self n=>?_)
  ·have hz:=ZqE mem
   obtain ⟨o1,o2,o3⟩:=h.s mem
   have ih1:=FB L m x.Body o2 (by omega) (by omega)
   have ih2:=FB L m x.Else o3 (by omega) (by omega)
   rw [Hr,Gn,ZoG]
   simp only [Zi,Ze,cond_true,cond_false,Zg,ZR,Zd,Zw,condC,Zj,Zk,Zx,Yr,Yt,ZZ,hi,hx,ih1,ih2,wrap_succ hi (by omega),e']
  ·rw [Hr]; simp only [Zi,Ze,cond_true,cond_false,Zg,ZR,Zd,Zw,condC,Zj,Zk,Zx,Yr,Yt,ZZ,Gn]
theorem F9 (L:Nat):∀ (m:Nat) (l:List Z5),ZeW l→SizeOf.sizeOf l≤m→m≤L→JK L m (l,())=some (UB l 0)
 | 0,e,h,hs,_=>absurd hs (by have:=ZqF e; omega)
 | m + 1,l,h,hs,hm=>by
  have hk:=ZO l; have hl:=h.1
  rw [ZfT]
  refine ZbX l (fun l n=>some (UB l n)) (by omega) _ (fun self n i x r hx hi mem e'=>?_) (fun self n=>?_)
  ·have hz:=ZqE mem
   obtain ⟨o1,o2,o3⟩:=h.s mem
   have ih1:=F9 L m x.Body o2 (by omega) (by omega)
   have ih2:=F9 L m x.Else o3 (by omega) (by omega)
   rw [O3,UB,Zjr]
   simp only [Zi,Ze,cond_true,cond_false,Zg,ZR,Zd,Zw,condC,Zj,Zk,Zx,Yr,Yt,ZZ,hi,hx,ih1,ih2,wrap_succ hi (by omega),e']
  ·rw [O3]; simp only [Zi,Ze,cond_true,cond_false,Zg,ZR,Zd,Zw,condC,Zj,Zk,Zx,Yr,Yt,ZZ,UB]
theorem Znh (L:Nat)(h1:100≤L)(l:List Z5)(h:ZeW l)(hL:SizeOf.sizeOf l≤L):KI L (l,())=some (Ns l):=by
 simp only [Zi,Ze,cond_true,cond_false,Zg,ZR,Zd,Zw,condC,Zj,Zk,Zx,Yr,Yt,ZZ,Zer,show OY L (l,())=_ from FB L L l h hL (Nat.le_refl _),show OZ L (l,())=_ from FC L L l h hL (Nat.le_refl _),show Tc L (l,())=_ from Zcr L h1 L l h hL (Nat.le_refl _),Ns]; simp only [Wj,Ja,if_true,if_false,Bool.false_eq_true,ne_eq,decide_not,gt_iff_lt,ge_iff_le]
theorem ZkK (L:Nat)(h1:100≤L)(l:List Z5)(h:ZeW l)(hL:SizeOf.sizeOf l≤L):Ib L (l,())=some (Ns l):=by
 rw [← ZhO l (by have:=h.1; omega)]
 simp only [Zi,Ze,cond_true,cond_false,Zg,ZR,Zd,Zw,condC,Zj,Zk,Zx,Yr,Yt,ZZ,ZfS,show RH L (l,())=_ from F9 L L l h hL (Nat.le_refl _),show RI L (l,())=_ from P6 L L l h hL (Nat.le_refl _),show PM L (l,())=_ from ZfD L h1 L l h hL (Nat.le_refl _),Zfd]; simp only [Wj,Ja,if_true,if_false,Bool.false_eq_true,ne_eq,decide_not,gt_iff_lt,ge_iff_le]
end Go.Proofs.YthkdlifcknpadaaGreat
end
