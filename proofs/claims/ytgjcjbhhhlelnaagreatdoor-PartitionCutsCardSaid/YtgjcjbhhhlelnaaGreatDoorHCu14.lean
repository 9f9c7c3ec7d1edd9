import Derived.Test.YtgjcjbhhhlelnaaGreatDoorHCu13
set_option linter.all false
section
namespace Go.Proofs.YtgjcjbhhhlelnaaGreatDoor
open Go Go.Proofs.YtgjcjbhhhlelnaaGreatDoor.Abs Go.Proofs.YtgjcjbhhhlelnaaGreatDoor.Tl
set_option maxRecDepth 100000
theorem ZeU {τ ρ:Type}(f:(τ→Option ρ)→τ→Option ρ){L:Nat}(h:2 < L)(x:τ):Zp f L x=f (f (f (Zp f (L - 3)))) x:=by
 obtain ⟨m,rfl⟩:∃ m,L=m + 3:=⟨L - 3,by omega⟩
 rfl
theorem two {α:Type}(a b:α):ZJ [a,b] 0=some a∧ZJ [a,b] 1=some b∧decide ((0:Int) < (([a,b].length:Nat):Int))=true∧decide ((1:Int) < (([a,b].length:Nat):Int))=true∧decide ((2:Int) < (([a,b].length:Nat):Int))=false :=
 ⟨Zg [a,b] 0,Zg [a,b] 1,by simp,by simp,by simp⟩
theorem ZwV {α β:Type}(c:Bool)(a:α)(b:β){X:Option (α×β×PUnit)}{Y:α×β}(h:X=some (Y.1,Y.2,())):(bif c then some (a,b,()) else X)=some ((if c=true then (a,b) else Y).1,(if c=true then (a,b) else Y).2,()):=by
 cases c
 ·simpa using h
 ·rfl
theorem Zzc (L:Nat)(n:Int):MV L (n,())=some ((LG n).1,(LG n).2,()):=by
 simp only [ZlG,LG,ZH]
 repeat refine ZwV _ _ _ ?_
 rfl
def F10 (u:G6):YR:=⟨u.name,u.of,u.e,u.f,u.args,u.dist,u.flag,u.body,u.other⟩
theorem ZrS (c:Bool)(a:G6)(b:Bool){X:Option (YR×Bool×PUnit)}{Y:G6×Bool}(h:X=some (F10 Y.1,Y.2,())):(bif c then some (F10 a,b,()) else X)=some (F10 (if c=true then (a,b) else Y).1,(if c=true then (a,b) else Y).2,()):=by
 cases c
 ·simpa using h
 ·rfl
theorem Z1o (L:Nat)(n:Int):FC L (n,())=some (F10 (LG n).1,(LG n).2,()):=by
 simp only [ZtO,LG,ZH]
 repeat refine ZrS _ ⟨_,_,_,_,_,_,_,_,_⟩ _ ?_
 rfl
theorem Zai (e:Zu):AP e ⟨0,[],0,[]⟩=FK e:=by
 obtain ⟨o,a,n,ks⟩:=e
 cases ks with
 | nil =>
  rw [ZbX]; simp only [Zk9,FK,all2]
  by_cases h1:o=0 <;> by_cases h2:a=[] <;> by_cases h3:n=0 <;> simp [h1,h2,h3]
 | cons x r =>
  have:¬ ((r.length:Int) + 1=0):=by omega
  rw [ZbX]; simp only [Zk9,FK]; simp [this]
theorem Gw (d:We):ZpS d ⟨0,0,0,0,[],[]⟩=Nr d:=rfl
theorem Zrp (L:Nat)(e:Zu)(h:Yi e)(hL:SizeOf.sizeOf e≤L):J6 L (e,())=some (FK e):=by
 simp only [Zj,Zc,cond_true,cond_false,Zg,Zx,Za,Zm,condC,Zi,Zh,Zl,ZH,ZP,Z5,Zh7,Zrf L e _ h hL,Zai]
theorem ZhW (s:Z9):SizeOf.sizeOf s.Dist < SizeOf.sizeOf s∧SizeOf.sizeOf s.Name < SizeOf.sizeOf s∧SizeOf.sizeOf s.Of < SizeOf.sizeOf s:=by cases s; simp; omega
theorem ZyU (L:Nat)(s:Z9)(u:G6)(h:YH s)(hL:SizeOf.sizeOf s≤L):MS L (s,u,())=some (Zk6 s u):=by
 have:=ZuM s; have:=ZhW s
 simp only [Zj,Zc,cond_true,cond_false,Zg,Zx,Za,Zm,condC,Zi,Zh,Zl,ZH,ZP,Z5,ZlF,Zrp L s.E h.E (by omega),Zrp L s.F h.F (by omega),Zhm L s.Dist _ h.Dist (by omega),Gw,Zk6]
theorem Zw7 (L:Nat)(e:Zu):OL L (e,())=some (FK e):=by
 simp only [Zj,Zc,cond_true,cond_false,Zg,Zx,Za,Zm,condC,Zi,Zh,Zl,ZH,ZP,Z5,Zo9,FK]
theorem ZtB (L:Nat)(s:Z9)(h:YH s)(hL:SizeOf.sizeOf s≤L):IE L (s,())=some (ZpZ s):=by
 have:=ZuM s; have:=ZhW s
 simp only [Zj,Zc,cond_true,cond_false,Zg,Zx,Za,Zm,condC,Zi,Zh,Zl,ZH,ZP,Z5,Zj1,Z1o,Zw7,ZbP L s.Dist _ h.Dist (by omega),Gw,ZpZ,F10]
theorem Zwz (L:Nat)(s:Z9)(u:G6)(h:YH s)(hL:SizeOf.sizeOf s≤L)(h1:100≤L):II L (s,u,())=some (Zjj s u):=by
 have:=ZuM s; have:=ZhW s; have ha:=ZI s.Args; have hal:=h.a
 have hn:=QK L s.Name (by have:=h.Name; unfold Len; omega) (by have:=ZI s.Name; omega)
 have ho:=QK L s.Of (by have:=h.Of; unfold Len; omega) (by have:=ZI s.Of; omega)
 have hE:=Zhn L s.E h.E (by omega)
 have hF:=Zhn L s.F h.F (by omega)
 have hD:=Tv L s.Dist h.Dist (by omega) h1
 have lp:Zp (Gg s u L) L (0,())=some (ZeL s u s.Args):=by
  refine CU s.Args (fun l=>some (ZeL s u l)) (by omega) (fun self i x r hx hi mem e'=>?_) (fun self=>?_)
  ·have hx':=Zhn L x (h.Args.2 x mem) (by have:=Z1q mem; omega)
   rw [Gg]; simp only [Zj,Zc,cond_true,cond_false,Zg,Zx,Za,Zm,condC,Zi,Zh,Zl,ZH,ZP,Z5,hi,hx,hx',wrap_succ hi (by omega),e',ZeL]; simp only [Yu,Xu,if_true,if_false,Bool.false_eq_true,ne_eq,decide_not,gt_iff_lt,ge_iff_le]
  ·rw [Gg]; simp only [Zj,Zc,cond_true,cond_false,Zg,Zx,Za,Zm,condC,Zi,Zh,Zl,ZH,ZP,Z5,hD,ZeL]; simp only [Yu,Xu,if_true,if_false,Bool.false_eq_true,ne_eq,decide_not,gt_iff_lt,ge_iff_le]
 rw [Zj9,ZeU _ (by omega)]
 simp only [AY,two,w01,ZeU (TW _ _ _ _) (show 2 < L by omega),TW]
 simp only [Zj,Zc,cond_true,cond_false,Zg,Zx,Za,Zm,condC,Zi,Zh,Zl,ZH,ZP,Z5,two,w01,hn,ho,hE,hF,lp,Zjj,Znu,Znv,Znt]; simp only [Yu,Xu,if_true,if_false,Bool.false_eq_true,ne_eq,decide_not,gt_iff_lt,ge_iff_le]
theorem lpX (L:Nat)(s:Z9)(h:YH s)(hL:SizeOf.sizeOf s≤L)(h1:100≤L)(n:Int):Zp (WJ s L) L (n,0,())=some (FW s s.Args n):=by
 have:=ZuM s; have ha:=ZI s.Args; have hal:=h.a
 refine NS s.Args (fun l n=>some (FW s l n)) (by omega) n (fun self n i x r hx hi mem e'=>?_) (fun self n=>?_)
 ·have hx':=Zho L h1 x (h.Args.2 x mem) (by have:=Z1q mem; omega)
  rw [WJ]; simp only [Zj,Zc,cond_true,cond_false,Zg,Zx,Za,Zm,condC,Zi,Zh,Zl,ZH,ZP,Z5,hi,hx,hx',wrap_succ hi (by omega),e',FW,Bool.and_true]; simp only [Yu,Xu,if_true,if_false,Bool.false_eq_true,ne_eq,decide_not,gt_iff_lt,ge_iff_le]
 ·rw [WJ]; simp only [Zj,Zc,cond_true,cond_false,Zg,Zx,Za,Zm,condC,Zi,Zh,Zl,ZH,ZP,Z5,FW,Bool.and_false]
theorem Zww (L:Nat)(s:Z9)(u:G6)(h:YH s)(hL:SizeOf.sizeOf s≤L)(h1:100≤L):ML L (s,F10 u,())=some (ZcY s u):=by
 have:=ZuM s
 have hE:=Zho L h1 s.E h.E (by omega)
 have hF:=Zho L h1 s.F h.F (by omega)
 have lp:=lpX L s h hL h1
 rw [Zly,show ZaR=WJ from rfl,show ZaS=WJ from rfl,show ZaT=WJ from rfl,show ZaU=WJ from rfl,show ZaV=WJ from rfl,show ZaW=WJ from rfl,show ZaX=WJ from rfl]
 simp only [Zj,Zc,cond_true,cond_false,Zg,Zx,Za,Zm,condC,Zi,Zh,Zl,ZH,ZP,Z5,hE,hF,lp,ZcY,F10]
 cases u.e <;> cases u.f <;> simp only [Zj,Zc,cond_true,cond_false,Zg,Zx,Za,Zm,condC,Zi,Zh,Zl,ZH,ZP,Z5,decide_true,Bool.true_and,Bool.and_true,Bool.and_false,if_true,if_false,Bool.false_eq_true] <;> simp only [Yu,Xu,if_true,if_false,Bool.false_eq_true,ne_eq,decide_not,gt_iff_lt,ge_iff_le] <;> (repeat' split) <;> first | rfl | simp_all
theorem Z0J (L:Nat)(s:Z9)(h:YH s)(hL:SizeOf.sizeOf s≤L)(h1:100≤L):FD L (s,())=some (Zop s):=by
 have:=ZuM s; have:=ZhW s
 have hn:=JX L s.Name (by have:=h.Name; unfold Len; omega) (by have:=ZI s.Name; omega) h1
 have ho:=JX L s.Of (by have:=h.Of; unfold Len; omega) (by have:=ZI s.Of; omega) h1
 have hD:=Dw L s.Dist h.Dist (by omega)
 rw [← Zwl]
 simp only [Zrw,Z1o,Zx,show (F10 (LG s.Op).1).1=(LG s.Op).1.name from rfl,show (F10 (LG s.Op).1).2=(LG s.Op).1.of from rfl,show (F10 (LG s.Op).1).6=(LG s.Op).1.dist from rfl]
 simp only [Zj,Zc,cond_true,cond_false,Zg,Zx,Za,Zm,condC,Zi,Zh,Zl,ZH,ZP,Z5,ZtB L s h hL,hn,ho,hD,Zww L s _ h hL h1,Z0G,ZgH]; simp only [Yu,Xu,if_true,if_false,Bool.false_eq_true,ne_eq,decide_not,gt_iff_lt,ge_iff_le]
theorem Zkr.s {l:List Z9}(h:Zkr l){x:Z9}(hx:x ∈ l):YH x∧Zkr x.Body∧Zkr x.Else:=⟨h.2 x hx,(h.2 x hx).b.1,(h.2 x hx).b.2⟩
theorem ZxA (c x:Bool):(if c=true then true else x)=(c || x):=by cases c <;> rfl
theorem Zhq (L:Nat)(h1:100≤L):∀ (m:Nat) (l:List Z9),Zkr l→SizeOf.sizeOf l≤m→m≤L→J9 L m (l,())=some (Vu l)
 | 0,e,h,hs,_=>absurd hs (by have:=Zxs e; omega)
 | m + 1,l,h,hs,hm=>by
  have hk:=ZI l; have hl:=h.1
  rw [Zj8]
  refine CU l (fun l=>some (Vu l)) (by omega) (fun self i x r hx hi mem e'=>?_) (fun self=>?_)
  ·have hz:=Zxr mem
   obtain ⟨o1,o2,o3⟩:=h.s mem
   have ih1:=Zhq L h1 m x.Body o2 (by omega) (by omega)
   have ih2:=Zhq L h1 m x.Else o3 (by omega) (by omega)
   rw [TU,Vu,ZpI]
   simp only [Zj,Zc,cond_true,cond_false,Zg,Zx,Za,Zm,condC,Zi,Zh,Zl,ZH,ZP,Z5,hi,hx,Zzc,ZyU L x _ o1 (by omega),Zwz L x _ o1 (by omega) h1,ih1,ih2,wrap_succ hi (by omega),e']; simp only [Yu,Xu,if_true,if_false,Bool.false_eq_true,ne_eq,decide_not,gt_iff_lt,ge_iff_le,ZxA]
   have:_=if decide ((if decide (Zop x≠0)=true then Zop x else if decide (Vu x.Body≠0)=true then Vu x.Body else Vu x.Else)≠0)=true then (if decide (Zop x≠0)=true then Zop x else if decide (Vu x.Body≠0)=true then Vu x.Body else Vu x.Else) else Vu r:=Zvl (!(LG x.Op).2 || !(Zk6 x (LG x.Op).1)) (Zjj x (LG x.Op).1) (Vu x.Body) (Vu x.Else) (Vu r)
   simp only [ne_eq,decide_not] at this
   rw [this]
  ·rw [TU]; simp only [Zj,Zc,cond_true,cond_false,Zg,Zx,Za,Zm,condC,Zi,Zh,Zl,ZH,ZP,Z5,Vu]
theorem Zld (L:Nat)(h1:100≤L):∀ (m:Nat) (l:List Z9),Zkr l→SizeOf.sizeOf l≤m→m≤L→Uh L m (l,())=some (Vu l)
 | 0,e,h,hs,_=>absurd hs (by have:=Zxs e; omega)
 | m + 1,l,h,hs,hm=>by
  have hk:=ZI l; have hl:=h.1
  rw [Zo8]
  refine CU l (fun l=>some (Vu l)) (by omega) (fun self i x r hx hi mem e'=>?_) (fun self=>?_)
  ·have hz:=Zxr mem
   obtain ⟨o1,o2,o3⟩:=h.s mem
   have ih1:=Zld L h1 m x.Body o2 (by omega) (by omega)
   have ih2:=Zld L h1 m x.Else o3 (by omega) (by omega)
   rw [SA,Vu,ZpI]
   simp only [Zj,Zc,cond_true,cond_false,Zg,Zx,Za,Zm,condC,Zi,Zh,Zl,ZH,ZP,Z5,hi,hx,Z0J L x o1 (by omega) h1,ih1,ih2,wrap_succ hi (by omega),e']; simp only [Yu,Xu,if_true,if_false,Bool.false_eq_true,ne_eq,decide_not,gt_iff_lt,ge_iff_le]
   have:=Zvm (Zop x) (Vu x.Body) (Vu x.Else) (Vu r)
   simp only [ne_eq,decide_not] at this
   rw [← this]
   by_cases a:Zop x=0 <;> by_cases b:Vu x.Body=0 <;> by_cases c:Vu x.Else=0 <;> simp [a,b,c]
  ·rw [SA]; simp only [Zj,Zc,cond_true,cond_false,Zg,Zx,Za,Zm,condC,Zi,Zh,Zl,ZH,ZP,Z5,Vu]
theorem Zd6 (L:Nat):∀ (m:Nat) (l:List Z9),Zkr l→SizeOf.sizeOf l≤m→m≤L→J8 L m (l,())=some (NI l 0)
 | 0,e,h,hs,_=>absurd hs (by have:=Zxs e; omega)
 | m + 1,l,h,hs,hm=>by
  have hk:=ZI l; have hl:=h.1
  rw [Zj7]
  refine NS l (fun l n=>some (NI l n)) (by omega) 0 (fun self n i x r hx hi mem e'=>?_) (fun self n=>?_)
  ·have hz:=Zxr mem
   obtain ⟨o1,o2,o3⟩:=h.s mem
   have ih1:=Zd6 L m x.Body o2 (by omega) (by omega)
   have ih2:=Zd6 L m x.Else o3 (by omega) (by omega)
   rw [TS,NI,ZpP]
   simp only [Zj,Zc,cond_true,cond_false,Zg,Zx,Za,Zm,condC,Zi,Zh,Zl,ZH,ZP,Z5,hi,hx,ih1,ih2,wrap_succ hi (by omega),e',mx3]
  ·rw [TS]; simp only [Zj,Zc,cond_true,cond_false,Zg,Zx,Za,Zm,condC,Zi,Zh,Zl,ZH,ZP,Z5,NI]
theorem Zaa (L:Nat):∀ (m:Nat) (l:List Z9),Zkr l→SizeOf.sizeOf l≤m→m≤L→UN L m (l,())=some (NI l 0)
 | 0,e,h,hs,_=>absurd hs (by have:=Zxs e; omega)
 | m + 1,l,h,hs,hm=>by
  have hk:=ZI l; have hl:=h.1
  rw [Zlx]
  refine NS l (fun l n=>some (NI l n)) (by omega) 0 (fun self n i x r hx hi mem e'=>?_) (fun self n=>?_)
  ·have hz:=Zxr mem
   obtain ⟨o1,o2,o3⟩:=h.s mem
   have ih1:=Zaa L m x.Body o2 (by omega) (by omega)
   have ih2:=Zaa L m x.Else o3 (by omega) (by omega)
   rw [RZ,NI,ZpP]
   simp only [Zj,Zc,cond_true,cond_false,Zg,Zx,Za,Zm,condC,Zi,Zh,Zl,ZH,ZP,Z5,hi,hx,ih1,ih2,wrap_succ hi (by omega),e',mx3]
  ·rw [RZ]; simp only [Zj,Zc,cond_true,cond_false,Zg,Zx,Za,Zm,condC,Zi,Zh,Zl,ZH,ZP,Z5,NI]
theorem Zd5 (L:Nat):∀ (m:Nat) (l:List Z9),Zkr l→SizeOf.sizeOf l≤m→m≤L→J7 L m (l,())=some (Oz l (l.length:Int))
 | 0,e,h,hs,_=>absurd hs (by have:=Zxs e; omega)
 | m + 1,l,h,hs,hm=>by
  have hk:=ZI l; have hl:=h.1
  rw [Zj6]
  refine NS l (fun l n=>some (Oz l n)) (by omega) _ (fun self n i x r hx hi mem e'=>?_) (fun self n=>?_)
  ·have hz:=Zxr mem
   obtain ⟨o1,o2,o3⟩:=h.s mem
   have ih1:=Zd5 L m x.Body o2 (by omega) (by omega)
   have ih2:=Zd5 L m x.Else o3 (by omega) (by omega)
   rw [TR,Oz,Zvo]
   simp only [Zj,Zc,cond_true,cond_false,Zg,Zx,Za,Zm,condC,Zi,Zh,Zl,ZH,ZP,Z5,hi,hx,ih1,ih2,wrap_succ hi (by omega),e']
  ·rw [TR]; simp only [Zj,Zc,cond_true,cond_false,Zg,Zx,Za,Zm,condC,Zi,Zh,Zl,ZH,ZP,Z5,Oz]
theorem Zd4 (L:Nat):∀ (m:Nat) (l:List Z9),Zkr l→SizeOf.sizeOf l≤m→m≤L→UM L m (l,())=some (GL l 0)
 | 0,e,h,hs,_=>absurd hs (by have:=Zxs e; omega)
 | m + 1,l,h,hs,hm=>by
  have hk:=ZI l; have hl:=h.1
  rw [Zlw]
  refine NS l (fun l n=>some (GL l n)) (by omega) _ (fun self n i x r hx hi mem e'=>?_) (fun self n=>?_)
  ·have hz:=Zxr mem
   obtain ⟨o1,o2,o3⟩:=h.s mem
   have ih1:=Zd4 L m x.Body o2 (by omega) (by omega)
   have ih2:=Zd4 L m x.Else o3 (by omega) (by omega)
   rw [RY,GL,ZpJ]
   simp only [Zj,Zc,cond_true,cond_false,Zg,Zx,Za,Zm,condC,Zi,Zh,Zl,ZH,ZP,Z5,hi,hx,ih1,ih2,wrap_succ hi (by omega),e']
  ·rw [RY]; simp only [Zj,Zc,cond_true,cond_false,Zg,Zx,Za,Zm,condC,Zi,Zh,Zl,ZH,ZP,Z5,GL]
theorem ZtF (L:Nat)(h1:100≤L)(l:List Z9)(h:Zkr l)(hL:SizeOf.sizeOf l≤L):IG L (l,())=some (ZaM l):=by
 simp only [Zj,Zc,cond_true,cond_false,Zg,Zx,Za,Zm,condC,Zi,Zh,Zl,ZH,ZP,Z5,Zj5,show Di L (l,())=_ from Zd5 L L l h hL (Nat.le_refl _),show Dj L (l,())=_ from Zd6 L L l h hL (Nat.le_refl _),show Dk L (l,())=_ from Zhq L h1 L l h hL (Nat.le_refl _),ZaM]; simp only [Yu,Xu,if_true,if_false,Bool.false_eq_true,ne_eq,decide_not,gt_iff_lt,ge_iff_le]
theorem Zrl (L:Nat)(h1:100≤L)(l:List Z9)(h:Zkr l)(hL:SizeOf.sizeOf l≤L):MJ L (l,())=some (ZaM l):=by
 rw [← ZnW l (by have:=h.1; omega)]
 simp only [Zj,Zc,cond_true,cond_false,Zg,Zx,Za,Zm,condC,Zi,Zh,Zl,ZH,ZP,Z5,Zlv,show Eo L (l,())=_ from Zd4 L L l h hL (Nat.le_refl _),show Ep L (l,())=_ from Zaa L L l h hL (Nat.le_refl _),show Zau L (l,())=_ from Zld L h1 L l h hL (Nat.le_refl _),Zkz]; simp only [Yu,Xu,if_true,if_false,Bool.false_eq_true,ne_eq,decide_not,gt_iff_lt,ge_iff_le]
end Go.Proofs.YtgjcjbhhhlelnaaGreatDoor
end
