import Derived.Test.YtleomfgijkapfaaGreatDoorJ17
set_option linter.all false
section
namespace Go.Proofs.YtleomfgijkapfaaGreatDoor
open Go Go.Proofs.YtleomfgijkapfaaGreatDoor.Abs Go.Proofs.YtleomfgijkapfaaGreatDoor.Tl
set_option maxRecDepth 100000
theorem Zcx {τ ρ:Type}(f:(τ→Option ρ)→τ→Option ρ){L:Nat}(h:2 < L)(x:τ):Zq f L x=f (f (f (Zq f (L - 3)))) x:=by
 obtain ⟨m,rfl⟩:∃ m,L=m + 3:=⟨L - 3,by omega⟩
 rfl
theorem two {α:Type}(a b:α):ZG [a,b] 0=some a∧ZG [a,b] 1=some b∧decide ((0:Int) < (([a,b].length:Nat):Int))=true∧decide ((1:Int) < (([a,b].length:Nat):Int))=true∧decide ((2:Int) < (([a,b].length:Nat):Int))=false :=
 ⟨Zf [a,b] 0,Zf [a,b] 1,by simp,by simp,by simp⟩
theorem ZsP {α β:Type}(c:Bool)(a:α)(b:β){X:Option (α×β×PUnit)}{Y:α×β}(h:X=some (Y.1,Y.2,())):(bif c then some (a,b,()) else X)=some ((if c=true then (a,b) else Y).1,(if c=true then (a,b) else Y).2,()):=by
 cases c
 ·simpa using h
 ·rfl
theorem Zuw (L:Nat)(n:Int):IQ L (n,())=some ((Oy n).1,(Oy n).2,()):=by
 simp only [ZiN,Oy,ZE]
 repeat refine ZsP _ _ _ ?_
 rfl
def F10 (u:U4):YA:=⟨u.name,u.of,u.e,u.f,u.args,u.dist,u.flag,u.body,u.other⟩
theorem Zov (c:Bool)(a:U4)(b:Bool){X:Option (YA×Bool×PUnit)}{Y:U4×Bool}(h:X=some (F10 Y.1,Y.2,())):(bif c then some (F10 a,b,()) else X)=some (F10 (if c=true then (a,b) else Y).1,(if c=true then (a,b) else Y).2,()):=by
 cases c
 ·simpa using h
 ·rfl
theorem Zwh (L:Nat)(n:Int):NJ L (n,())=some (F10 (Oy n).1,(Oy n).2,()):=by
 simp only [Zqb,Oy,ZE]
 repeat refine Zov _ ⟨_,_,_,_,_,_,_,_,_⟩ _ ?_
 rfl
theorem SS (e:Zt):Nc e ⟨0,[],0,[]⟩=NP e:=by
 obtain ⟨o,a,n,ks⟩:=e
 cases ks with
 | nil =>
  rw [FZ]; simp only [ZhG,NP,all2]
  by_cases h1:o=0 <;> by_cases h2:a=[] <;> by_cases h3:n=0 <;> simp [h1,h2,h3]
 | cons x r =>
  have:¬ ((r.length:Int) + 1=0):=by omega
  rw [FZ]; simp only [ZhG,NP]; simp [this]
theorem Ux (d:Y9):ZmB d ⟨0,0,0,0,[],[]⟩=RU d:=rfl
theorem ZnN (L:Nat)(e:Zt)(h:ZZ e)(hL:SizeOf.sizeOf e≤L):Vx L (e,())=some (NP e):=by
 simp only [Zg,Zc,cond_true,cond_false,Zf,Zv,Za,Zn,condC,Zi,Zh,Zl,ZE,ZK,Z7,ZeL,ZnD L e _ h hL,SS]
theorem Zfl (s:Zy):SizeOf.sizeOf s.Dist < SizeOf.sizeOf s∧SizeOf.sizeOf s.Name < SizeOf.sizeOf s∧SizeOf.sizeOf s.Of < SizeOf.sizeOf s:=by cases s; simp; omega
theorem Zuo (L:Nat)(s:Zy)(u:U4)(h:Yx s)(hL:SizeOf.sizeOf s≤L):IP L (s,u,())=some (ZhD s u):=by
 have:=ZqZ s; have:=Zfl s
 simp only [Zg,Zc,cond_true,cond_false,Zf,Zv,Za,Zn,condC,Zi,Zh,Zl,ZE,ZK,Z7,ZiM,ZnN L s.E h.E (by omega),ZnN L s.F h.F (by omega),Zez L s.Dist _ h.Dist (by omega),Ux,ZhD]
theorem Zs6 (L:Nat)(e:Zt):Hl L (e,())=some (NP e):=by
 simp only [Zg,Zc,cond_true,cond_false,Zf,Zv,Za,Zn,condC,Zi,Zh,Zl,ZE,ZK,Z7,Zlv,NP]
theorem ZpQ (L:Nat)(s:Zy)(h:Yx s)(hL:SizeOf.sizeOf s≤L):KY L (s,())=some (ZmK s):=by
 have:=ZqZ s; have:=Zfl s
 simp only [Zg,Zc,cond_true,cond_false,Zf,Zv,Za,Zn,condC,Zi,Zh,Zl,ZE,ZK,Z7,ZgB,Zwh,Zs6,FO L s.Dist _ h.Dist (by omega),Ux,ZmK,F10]
theorem Zsy (L:Nat)(s:Zy)(u:U4)(h:Yx s)(hL:SizeOf.sizeOf s≤L)(h1:100≤L):Gf L (s,u,())=some (Zgt s u):=by
 have:=ZqZ s; have:=Zfl s; have ha:=Z4 s.Args; have hal:=h.a
 have hn:=Qb L s.Name (by have:=h.Name; unfold Len; omega) (by have:=Z4 s.Name; omega)
 have ho:=Qb L s.Of (by have:=h.Of; unfold Len; omega) (by have:=Z4 s.Of; omega)
 have hE:=Ze0 L s.E h.E (by omega)
 have hF:=Ze0 L s.F h.F (by omega)
 have hD:=H8 L s.Dist h.Dist (by omega) h1
 have lp:Zq (Uf s u L) L (0,())=some (Zcn s u s.Args):=by
  refine SB s.Args (fun l=>some (Zcn s u l)) (by omega) (fun self i x r hx hi mem e'=>?_) (fun self=>?_)
  ·have hx':=Ze0 L x (h.Args.2 x mem) (by have:=Zwi mem; omega)
   rw [Uf]; simp only [Zg,Zc,cond_true,cond_false,Zf,Zv,Za,Zn,condC,Zi,Zh,Zl,ZE,ZK,Z7,hi,hx,hx',wrap_succ hi (by omega),e',Zcn]; simp only [Ye,Q4,if_true,if_false,Bool.false_eq_true,ne_eq,decide_not,gt_iff_lt,ge_iff_le]
  ·rw [Uf]; simp only [Zg,Zc,cond_true,cond_false,Zf,Zv,Za,Zn,condC,Zi,Zh,Zl,ZE,ZK,Z7,hD,Zcn]; simp only [Ye,Q4,if_true,if_false,Bool.false_eq_true,ne_eq,decide_not,gt_iff_lt,ge_iff_le]
 rw [ZgJ,Zcx _ (by omega)]
 simp only [Nl,two,w01,Zcx (Ir _ _ _ _) (show 2 < L by omega),Ir]
 simp only [Zg,Zc,cond_true,cond_false,Zf,Zv,Za,Zn,condC,Zi,Zh,Zl,ZE,ZK,Z7,two,w01,hn,ho,hE,hF,lp,Zgt,Zkk,Zkl,Zkj]; simp only [Ye,Q4,if_true,if_false,Bool.false_eq_true,ne_eq,decide_not,gt_iff_lt,ge_iff_le]
theorem lpX (L:Nat)(s:Zy)(h:Yx s)(hL:SizeOf.sizeOf s≤L)(h1:100≤L)(n:Int):Zq (YT s L) L (n,0,())=some (NZ s s.Args n):=by
 have:=ZqZ s; have ha:=Z4 s.Args; have hal:=h.a
 refine SC s.Args (fun l n=>some (NZ s l n)) (by omega) n (fun self n i x r hx hi mem e'=>?_) (fun self n=>?_)
 ·have hx':=Ze1 L h1 x (h.Args.2 x mem) (by have:=Zwi mem; omega)
  rw [YT]; simp only [Zg,Zc,cond_true,cond_false,Zf,Zv,Za,Zn,condC,Zi,Zh,Zl,ZE,ZK,Z7,hi,hx,hx',wrap_succ hi (by omega),e',NZ,Bool.and_true]; simp only [Ye,Q4,if_true,if_false,Bool.false_eq_true,ne_eq,decide_not,gt_iff_lt,ge_iff_le]
 ·rw [YT]; simp only [Zg,Zc,cond_true,cond_false,Zf,Zv,Za,Zn,condC,Zi,Zh,Zl,ZE,ZK,Z7,NZ,Bool.and_false]
theorem Zsu (L:Nat)(s:Zy)(u:U4)(h:Yx s)(hL:SizeOf.sizeOf s≤L)(h1:100≤L):IC L (s,F10 u,())=some (ZaA s u):=by
 have:=ZqZ s
 have hE:=Ze1 L h1 s.E h.E (by omega)
 have hF:=Ze1 L h1 s.F h.F (by omega)
 have lp:=lpX L s h hL h1
 rw [Zi6,show EX=YT from rfl,show EY=YT from rfl,show EZ=YT from rfl,show Aa=YT from rfl,show Ac=YT from rfl,show Ad=YT from rfl,show Ae=YT from rfl]
 simp only [Zg,Zc,cond_true,cond_false,Zf,Zv,Za,Zn,condC,Zi,Zh,Zl,ZE,ZK,Z7,hE,hF,lp,ZaA,F10]
 cases u.e <;> cases u.f <;> simp only [Zg,Zc,cond_true,cond_false,Zf,Zv,Za,Zn,condC,Zi,Zh,Zl,ZE,ZK,Z7,decide_true,Bool.true_and,Bool.and_true,Bool.and_false,if_true,if_false,Bool.false_eq_true] <;> simp only [Ye,Q4,if_true,if_false,Bool.false_eq_true,ne_eq,decide_not,gt_iff_lt,ge_iff_le] <;> (repeat' split) <;> first | rfl | simp_all
theorem ZvL (L:Nat)(s:Zy)(h:Yx s)(hL:SizeOf.sizeOf s≤L)(h1:100≤L):NK L (s,())=some (Zle s):=by
 have:=ZqZ s; have:=Zfl s
 have hn:=VJ L s.Name (by have:=h.Name; unfold Len; omega) (by have:=Z4 s.Name; omega) h1
 have ho:=VJ L s.Of (by have:=h.Of; unfold Len; omega) (by have:=Z4 s.Of; omega) h1
 have hD:=MV L s.Dist h.Dist (by omega)
 rw [← Zsk]
 simp only [ZnU,Zwh,Zv,show (F10 (Oy s.Op).1).1=(Oy s.Op).1.name from rfl,show (F10 (Oy s.Op).1).2=(Oy s.Op).1.of from rfl,show (F10 (Oy s.Op).1).6=(Oy s.Op).1.dist from rfl]
 simp only [Zg,Zc,cond_true,cond_false,Zf,Zv,Za,Zn,condC,Zi,Zh,Zl,ZE,ZK,Z7,ZpQ L s h hL,hn,ho,hD,Zsu L s _ h hL h1,ZvI,ZdZ]; simp only [Ye,Q4,if_true,if_false,Bool.false_eq_true,ne_eq,decide_not,gt_iff_lt,ge_iff_le]
theorem Zhv.s {l:List Zy}(h:Zhv l){x:Zy}(hx:x ∈ l):Yx x∧Zhv x.Body∧Zhv x.Else:=⟨h.2 x hx,(h.2 x hx).b.1,(h.2 x hx).b.2⟩
theorem Ztv (c x:Bool):(if c=true then true else x)=(c || x):=by cases c <;> rfl
theorem Ze3 (L:Nat)(h1:100≤L):∀ (m:Nat) (l:List Zy),Zhv l→SizeOf.sizeOf l≤m→m≤L→V3 L m (l,())=some (Xv l)
 | 0,e,h,hs,_=>absurd hs (by have:=Zte e; omega)
 | m + 1,l,h,hs,hm=>by
  have hk:=Z4 l; have hl:=h.1
  rw [ZgI]
  refine SB l (fun l=>some (Xv l)) (by omega) (fun self i x r hx hi mem e'=>?_) (fun self=>?_)
  ·have hz:=Ztd mem
   obtain ⟨o1,o2,o3⟩:=h.s mem
   have ih1:=Ze3 L h1 m x.Body o2 (by omega) (by omega)
   have ih2:=Ze3 L h1 m x.Else o3 (by omega) (by omega)
   rw [Iq,Xv,Zm2]
   simp only [Zg,Zc,cond_true,cond_false,Zf,Zv,Za,Zn,condC,Zi,Zh,Zl,ZE,ZK,Z7,hi,hx,Zuw,Zuo L x _ o1 (by omega),Zsy L x _ o1 (by omega) h1,ih1,ih2,wrap_succ hi (by omega),e']; simp only [Ye,Q4,if_true,if_false,Bool.false_eq_true,ne_eq,decide_not,gt_iff_lt,ge_iff_le,Ztv]
   have:_=if decide ((if decide (Zle x≠0)=true then Zle x else if decide (Xv x.Body≠0)=true then Xv x.Body else Xv x.Else)≠0)=true then (if decide (Zle x≠0)=true then Zle x else if decide (Xv x.Body≠0)=true then Xv x.Body else Xv x.Else) else Xv r:=Zru (!(Oy x.Op).2 || !(ZhD x (Oy x.Op).1)) (Zgt x (Oy x.Op).1) (Xv x.Body) (Xv x.Else) (Xv r)
   simp only [ne_eq,decide_not] at this
   rw [this]
  ·rw [Iq]; simp only [Zg,Zc,cond_true,cond_false,Zf,Zv,Za,Zn,condC,Zi,Zh,Zl,ZE,ZK,Z7,Xv]
theorem Zik (L:Nat)(h1:100≤L):∀ (m:Nat) (l:List Zy),Zhv l→SizeOf.sizeOf l≤m→m≤L→VV L m (l,())=some (Xv l)
 | 0,e,h,hs,_=>absurd hs (by have:=Zte e; omega)
 | m + 1,l,h,hs,hm=>by
  have hk:=Z4 l; have hl:=h.1
  rw [Zlu]
  refine SB l (fun l=>some (Xv l)) (by omega) (fun self i x r hx hi mem e'=>?_) (fun self=>?_)
  ·have hz:=Ztd mem
   obtain ⟨o1,o2,o3⟩:=h.s mem
   have ih1:=Zik L h1 m x.Body o2 (by omega) (by omega)
   have ih2:=Zik L h1 m x.Else o3 (by omega) (by omega)
   rw [BR,Xv,Zm2]
   simp only [Zg,Zc,cond_true,cond_false,Zf,Zv,Za,Zn,condC,Zi,Zh,Zl,ZE,ZK,Z7,hi,hx,ZvL L x o1 (by omega) h1,ih1,ih2,wrap_succ hi (by omega),e']; simp only [Ye,Q4,if_true,if_false,Bool.false_eq_true,ne_eq,decide_not,gt_iff_lt,ge_iff_le]
   have:=Zrv (Zle x) (Xv x.Body) (Xv x.Else) (Xv r)
   simp only [ne_eq,decide_not] at this
   rw [← this]
   by_cases a:Zle x=0 <;> by_cases b:Xv x.Body=0 <;> by_cases c:Xv x.Else=0 <;> simp [a,b,c]
  ·rw [BR]; simp only [Zg,Zc,cond_true,cond_false,Zf,Zv,Za,Zn,condC,Zi,Zh,Zl,ZE,ZK,Z7,Xv]
theorem Zbc (L:Nat):∀ (m:Nat) (l:List Zy),Zhv l→SizeOf.sizeOf l≤m→m≤L→Vz L m (l,())=some (Bi l 0)
 | 0,e,h,hs,_=>absurd hs (by have:=Zte e; omega)
 | m + 1,l,h,hs,hm=>by
  have hk:=Z4 l; have hl:=h.1
  rw [ZgH]
  refine SC l (fun l n=>some (Bi l n)) (by omega) 0 (fun self n i x r hx hi mem e'=>?_) (fun self n=>?_)
  ·have hz:=Ztd mem
   obtain ⟨o1,o2,o3⟩:=h.s mem
   have ih1:=Zbc L m x.Body o2 (by omega) (by omega)
   have ih2:=Zbc L m x.Else o3 (by omega) (by omega)
   rw [Ip,Bi,Zm8]
   simp only [Zg,Zc,cond_true,cond_false,Zf,Zv,Za,Zn,condC,Zi,Zh,Zl,ZE,ZK,Z7,hi,hx,ih1,ih2,wrap_succ hi (by omega),e',mx3]
  ·rw [Ip]; simp only [Zg,Zc,cond_true,cond_false,Zf,Zv,Za,Zn,condC,Zi,Zh,Zl,ZE,ZK,Z7,Bi]
theorem SE (L:Nat):∀ (m:Nat) (l:List Zy),Zhv l→SizeOf.sizeOf l≤m→m≤L→JB L m (l,())=some (Bi l 0)
 | 0,e,h,hs,_=>absurd hs (by have:=Zte e; omega)
 | m + 1,l,h,hs,hm=>by
  have hk:=Z4 l; have hl:=h.1
  rw [Zi5]
  refine SC l (fun l n=>some (Bi l n)) (by omega) 0 (fun self n i x r hx hi mem e'=>?_) (fun self n=>?_)
  ·have hz:=Ztd mem
   obtain ⟨o1,o2,o3⟩:=h.s mem
   have ih1:=SE L m x.Body o2 (by omega) (by omega)
   have ih2:=SE L m x.Else o3 (by omega) (by omega)
   rw [Tm,Bi,Zm8]
   simp only [Zg,Zc,cond_true,cond_false,Zf,Zv,Za,Zn,condC,Zi,Zh,Zl,ZE,ZK,Z7,hi,hx,ih1,ih2,wrap_succ hi (by omega),e',mx3]
  ·rw [Tm]; simp only [Zg,Zc,cond_true,cond_false,Zf,Zv,Za,Zn,condC,Zi,Zh,Zl,ZE,ZK,Z7,Bi]
theorem Zbb (L:Nat):∀ (m:Nat) (l:List Zy),Zhv l→SizeOf.sizeOf l≤m→m≤L→Vy L m (l,())=some (G9 l (l.length:Int))
 | 0,e,h,hs,_=>absurd hs (by have:=Zte e; omega)
 | m + 1,l,h,hs,hm=>by
  have hk:=Z4 l; have hl:=h.1
  rw [ZgG]
  refine SC l (fun l n=>some (G9 l n)) (by omega) _ (fun self n i x r hx hi mem e'=>?_) (fun self n=>?_)
  ·have hz:=Ztd mem
   obtain ⟨o1,o2,o3⟩:=h.s mem
   have ih1:=Zbb L m x.Body o2 (by omega) (by omega)
   have ih2:=Zbb L m x.Else o3 (by omega) (by omega)
   rw [Io,G9,Zrx]
   simp only [Zg,Zc,cond_true,cond_false,Zf,Zv,Za,Zn,condC,Zi,Zh,Zl,ZE,ZK,Z7,hi,hx,ih1,ih2,wrap_succ hi (by omega),e']
  ·rw [Io]; simp only [Zg,Zc,cond_true,cond_false,Zf,Zv,Za,Zn,condC,Zi,Zh,Zl,ZE,ZK,Z7,G9]
theorem PO (L:Nat):∀ (m:Nat) (l:List Zy),Zhv l→SizeOf.sizeOf l≤m→m≤L→JA L m (l,())=some (UA l 0)
 | 0,e,h,hs,_=>absurd hs (by have:=Zte e; omega)
 | m + 1,l,h,hs,hm=>by
  have hk:=Z4 l; have hl:=h.1
  rw [Zi4]
  refine SC l (fun l n=>some (UA l n)) (by omega) _ (fun self n i x r hx hi mem e'=>?_) (fun self n=>?_)
  ·have hz:=Ztd mem
   obtain ⟨o1,o2,o3⟩:=h.s mem
   have ih1:=PO L m x.Body o2 (by omega) (by omega)
   have ih2:=PO L m x.Else o3 (by omega) (by omega)
   rw [Tj,UA,Zm3]
   simp only [Zg,Zc,cond_true,cond_false,Zf,Zv,Za,Zn,condC,Zi,Zh,Zl,ZE,ZK,Z7,hi,hx,ih1,ih2,wrap_succ hi (by omega),e']
  ·rw [Tj]; simp only [Zg,Zc,cond_true,cond_false,Zf,Zv,Za,Zn,condC,Zi,Zh,Zl,ZE,ZK,Z7,UA]
theorem ZpU (L:Nat)(h1:100≤L)(l:List Zy)(h:Zhv l)(hL:SizeOf.sizeOf l≤L):KZ L (l,())=some (EQ l):=by
 simp only [Zg,Zc,cond_true,cond_false,Zf,Zv,Za,Zn,condC,Zi,Zh,Zl,ZE,ZK,Z7,ZgF,show MN L (l,())=_ from Zbb L L l h hL (Nat.le_refl _),show MO L (l,())=_ from Zbc L L l h hL (Nat.le_refl _),show MP L (l,())=_ from Ze3 L h1 L l h hL (Nat.le_refl _),EQ]; simp only [Ye,Q4,if_true,if_false,Bool.false_eq_true,ne_eq,decide_not,gt_iff_lt,ge_iff_le]
theorem ZnJ (L:Nat)(h1:100≤L)(l:List Zy)(h:Zhv l)(hL:SizeOf.sizeOf l≤L):IB L (l,())=some (EQ l):=by
 rw [← ZkN l (by have:=h.1; omega)]
 simp only [Zg,Zc,cond_true,cond_false,Zf,Zv,Za,Zn,condC,Zi,Zh,Zl,ZE,ZK,Z7,Zi3,show VS L (l,())=_ from PO L L l h hL (Nat.le_refl _),show D9 L (l,())=_ from SE L L l h hL (Nat.le_refl _),show Ei L (l,())=_ from Zik L h1 L l h hL (Nat.le_refl _),Zh5]; simp only [Ye,Q4,if_true,if_false,Bool.false_eq_true,ne_eq,decide_not,gt_iff_lt,ge_iff_le]
end Go.Proofs.YtleomfgijkapfaaGreatDoor
end
