import Derived.Test.YtbcfddaocfpckaaGreatDoorHMo13
set_option linter.all false
open Bool renaming false_eq_true→aK
open Nat renaming le_refl→dI
section
namespace Go.Proofs.YtbcfddaocfpckaaGreatDoor
open Go Abs Tl
set_option maxRecDepth 100000
theorem ZjS {τ ρ:Type}(f:(τ→Option ρ)→τ→Option ρ){L:Nat}(h:2<L)(x:τ):loopT f L x=f (f (f (loopT f (L - 3)))) x:=by
 obtain ⟨m,rfl⟩:∃m,L=m+3:=⟨L - 3,by omega⟩
 rfl
theorem two {α:Type}(a b:α):getT [a,b] 0=some a∧getT [a,b] 1=some b∧decide ((0:Int)<(([a,b].length:Nat):Int))=true∧decide ((1:Int)<(([a,b].length:Nat):Int))=true∧decide ((2:Int)<(([a,b].length:Nat):Int))=false :=
 ⟨Zf [a,b] 0,Zf [a,b] 1,by simp,by simp,by simp⟩
theorem Zmj {α β:Type}(c:Bool)(a:α)(b:β){X:Option (α×β×PUnit)}{Y:α×β}(h:X=some (Y.1,Y.2,())):(bif c then some (a,b,()) else X)=some ((if c=true then (a,b) else Y).1,(if c=true then (a,b) else Y).2,()):=by
 cases c
 ·simpa using h
 ·rfl
theorem Zno (L:Nat)(n:Int):Iz L (n,())=some ((JH n).1,(JH n).2,()):=by
 simp only [Zf7,JH,ZQ]
 repeat refine Zmj _ _ _ ?_
 rfl
def F10 (u:Uo):YD:=⟨u.name,u.of,u.e,u.f,u.args,u.dist,u.flag,u.body,u.other⟩
theorem Zju (c:Bool)(a:Uo)(b:Bool){X:Option (YD×Bool×PUnit)}{Y:Uo×Bool}(h:X=some (F10 Y.1,Y.2,())):(bif c then some (F10 a,b,()) else X)=some (F10 (if c=true then (a,b) else Y).1,(if c=true then (a,b) else Y).2,()):=by
 cases c
 ·simpa using h
 ·rfl
theorem ZoF (L:Nat)(n:Int):PD L (n,())=some (F10 (JH n).1,(JH n).2,()):=by
 simp only [Zkx,JH,ZQ]
 repeat refine Zju _ ⟨_,_,_,_,_,_,_,_,_⟩ _ ?_
 rfl
theorem ZhK (e:Zt):ZaF e ⟨0,[],0,[]⟩=Zaq e:=by
 obtain ⟨o,a,n,ks⟩:=e
 cases ks with
 |nil =>
  rw [ZcA];simp only [Zhf,Zaq,all2]
  by_cases h1:o=0<;>by_cases h2:a=[]<;>by_cases h3:n=0<;>simp [h1,h2,h3]
 |cons x r =>
  have:¬((r.length:Int)+1=0):=by omega
  rw [ZcA];simp only [Zhf,Zaq];simp [this]
theorem MB (d:Yo):Zio d ⟨0,0,0,0,[],[]⟩=PH d:=rfl
theorem ZiU (L:Nat)(e:Zt)(h:Yi e)(hL:SizeOf.sizeOf e≤L):VD L (e,())=some (Zaq e):=by
 simp only [Zg,Zd,cond_true,cond_false,Zf,Zn,Ze,Zv,condC,Zj,Zk,Zw,ZQ,ZV,ZI,Zcs,ZlD L e _ h hL,ZhK]
theorem CQ (s:Zl):SizeOf.sizeOf s.Dist<SizeOf.sizeOf s∧SizeOf.sizeOf s.Name<SizeOf.sizeOf s∧SizeOf.sizeOf s.Of<SizeOf.sizeOf s:=by cases s;simp;omega
theorem ZmU (L:Nat)(s:Zl)(u:Uo)(h:Ym s)(hL:SizeOf.sizeOf s≤L):Iy L (s,u,())=some (Zdq s u):=by
 have:=ZgL s;have:=CQ s
 simp only [Zg,Zd,cond_true,cond_false,Zf,Zn,Ze,Zv,condC,Zj,Zk,Zw,ZQ,ZV,ZI,Zf6,ZiU L s.E h.E (by omega),ZiU L s.F h.F (by omega),ZeU L s.Dist _ h.Dist (by omega),MB,Zdq]
theorem ZlW (L:Nat)(e:Zt):Gy L (e,())=some (Zaq e):=by
 simp only [Zg,Zd,cond_true,cond_false,Zf,Zn,Ze,Zv,condC,Zj,Zk,Zw,ZQ,ZV,ZI,Zhy,Zaq]
theorem Zkd (L:Nat)(s:Zl)(h:Ym s)(hL:SizeOf.sizeOf s≤L):KF L (s,())=some (Zit s):=by
 have:=ZgL s;have:=CQ s
 simp only [Zg,Zd,cond_true,cond_false,Zf,Zn,Ze,Zv,condC,Zj,Zk,Zw,ZQ,ZV,ZI,ZdO,ZoF,ZlW,ZbW L s.Dist _ h.Dist (by omega),MB,Zit,F10]
theorem ZlL (L:Nat)(s:Zl)(u:Uo)(h:Ym s)(hL:SizeOf.sizeOf s≤L)(h1:100≤L):KH L (s,u,())=some (Zbj s u):=by
 have:=ZgL s;have:=CQ s;have ha:=Z4 s.Args;have hal:=h.a
 have hn:=QN L s.Name (by have:=h.Name;unfold Len;omega) (by have:=Z4 s.Name;omega)
 have ho:=QN L s.Of (by have:=h.Of;unfold Len;omega) (by have:=Z4 s.Of;omega)
 have hE:=ZbS L s.E h.E (by omega)
 have hF:=ZbS L s.F h.F (by omega)
 have hD:=GV L s.Dist h.Dist (by omega) h1
 have lp:loopT (Ub s u L) L (0,())=some (Dp s u s.Args):=by
  refine ZeH s.Args (fun l=>some (Dp s u l)) (by omega) (fun self i x r hx hi mem e'=>?_) (fun self=>?_)
  ·have hx':=ZbS L x (h.Args.2 x mem) (by have:=ZnE mem;omega)
   rw [Ub];simp only [Zg,Zd,cond_true,cond_false,Zf,Zn,Ze,Zv,condC,Zj,Zk,Zw,ZQ,ZV,ZI,hi,hx,hx',wrap_succ hi (by omega),e',Dp];simp only [Y4,XI,if_true,if_false,aK,ne_eq,decide_not,gt_iff_lt,ge_iff_le]
  ·rw [Ub];simp only [Zg,Zd,cond_true,cond_false,Zf,Zn,Ze,Zv,condC,Zj,Zk,Zw,ZQ,ZV,ZI,hD,Dp];simp only [Y4,XI,if_true,if_false,aK,ne_eq,decide_not,gt_iff_lt,ge_iff_le]
 rw [ZdX,ZjS _ (by omega)]
 simp only [Pm,two,w01,ZjS (H7 _ _ _ _) (show 2<L by omega),H7]
 simp only [Zg,Zd,cond_true,cond_false,Zf,Zn,Ze,Zv,condC,Zj,Zk,Zw,ZQ,ZV,ZI,two,w01,hn,ho,hE,hF,lp,Zbj,Zbh,Zbi,Zbg];simp only [Y4,XI,if_true,if_false,aK,ne_eq,decide_not,gt_iff_lt,ge_iff_le]
theorem lpX (L:Nat)(s:Zl)(h:Ym s)(hL:SizeOf.sizeOf s≤L)(h1:100≤L)(n:Int):loopT (We s L) L (n,0,())=some (PP s s.Args n):=by
 have:=ZgL s;have ha:=Z4 s.Args;have hal:=h.a
 refine AQ s.Args (fun l n=>some (PP s l n)) (by omega) n (fun self n i x r hx hi mem e'=>?_) (fun self n=>?_)
 ·have hx':=ZbV L h1 x (h.Args.2 x mem) (by have:=ZnE mem;omega)
  rw [We];simp only [Zg,Zd,cond_true,cond_false,Zf,Zn,Ze,Zv,condC,Zj,Zk,Zw,ZQ,ZV,ZI,hi,hx,hx',wrap_succ hi (by omega),e',PP,Bool.and_true];simp only [Y4,XI,if_true,if_false,aK,ne_eq,decide_not,gt_iff_lt,ge_iff_le]
 ·rw [We];simp only [Zg,Zd,cond_true,cond_false,Zf,Zn,Ze,Zv,condC,Zj,Zk,Zw,ZQ,ZV,ZI,PP,Bool.and_false]
theorem ZlE (L:Nat)(s:Zl)(u:Uo)(h:Ym s)(hL:SizeOf.sizeOf s≤L)(h1:100≤L):Io L (s,F10 u,())=some (Aq s u):=by
 have:=ZgL s
 have hE:=ZbV L h1 s.E h.E (by omega)
 have hF:=ZbV L h1 s.F h.F (by omega)
 have lp:=lpX L s h hL h1
 rw [Zfq,show NT=We from rfl,show NU=We from rfl,show NV=We from rfl,show NW=We from rfl,show NY=We from rfl,show NZ=We from rfl,show Si=We from rfl]
 simp only [Zg,Zd,cond_true,cond_false,Zf,Zn,Ze,Zv,condC,Zj,Zk,Zw,ZQ,ZV,ZI,hE,hF,lp,Aq,F10]
 cases u.e<;>cases u.f<;>simp only [Zg,Zd,cond_true,cond_false,Zf,Zn,Ze,Zv,condC,Zj,Zk,Zw,ZQ,ZV,ZI,decide_true,Bool.true_and,Bool.and_true,Bool.and_false,if_true,if_false,aK]<;>simp only [Y4,XI,if_true,if_false,aK,ne_eq,decide_not,gt_iff_lt,ge_iff_le]<;>(repeat' split)<;>first|rfl|simp_all
theorem Zoo (L:Nat)(s:Zl)(h:Ym s)(hL:SizeOf.sizeOf s≤L)(h1:100≤L):PE L (s,())=some (Zdz s):=by
 have:=ZgL s;have:=CQ s
 have hn:=Gj L s.Name (by have:=h.Name;unfold Len;omega) (by have:=Z4 s.Name;omega) h1
 have ho:=Gj L s.Of (by have:=h.Of;unfold Len;omega) (by have:=Z4 s.Of;omega) h1
 have hD:=MC L s.Dist h.Dist (by omega)
 rw [← ZlA]
 simp only [ZiX,ZoF,Zn,show (F10 (JH s.Op).1).1=(JH s.Op).1.name from rfl,show (F10 (JH s.Op).1).2=(JH s.Op).1.of from rfl,show (F10 (JH s.Op).1).6=(JH s.Op).1.dist from rfl]
 simp only [Zg,Zd,cond_true,cond_false,Zf,Zn,Ze,Zv,condC,Zj,Zk,Zw,ZQ,ZV,ZI,Zkd L s h hL,hn,ho,hD,ZlE L s _ h hL h1,Zok,ZbC];simp only [Y4,XI,if_true,if_false,aK,ne_eq,decide_not,gt_iff_lt,ge_iff_le]
theorem ZaI.s {l:List Zl}(h:ZaI l){x:Zl}(hx:x∈l):Ym x∧ZaI x.Body∧ZaI x.Else:=⟨h.2 x hx,(h.2 x hx).b.1,(h.2 x hx).b.2⟩
theorem Zm2 (c x:Bool):(if c=true then true else x)=(c||x):=by cases c<;>rfl
theorem ZbY (L:Nat)(h1:100≤L):∀(m:Nat) (l:List Zl),ZaI l→SizeOf.sizeOf l≤m→m≤L→VG L m (l,())=some (WR l)
 |0,e,h,hs,_=>absurd hs (by have:=Zjo e;omega)
 |m+1,l,h,hs,hm=>by
  have hk:=Z4 l;have hl:=h.1
  rw [ZdW]
  refine ZeH l (fun l=>some (WR l)) (by omega) (fun self i x r hx hi mem e'=>?_) (fun self=>?_)
  ·have hz:=Zmr mem
   obtain ⟨o1,o2,o3⟩:=h.s mem
   have ih1:=ZbY L h1 m x.Body o2 (by omega) (by omega)
   have ih2:=ZbY L h1 m x.Else o3 (by omega) (by omega)
   rw [H6,WR,ZeB]
   simp only [Zg,Zd,cond_true,cond_false,Zf,Zn,Ze,Zv,condC,Zj,Zk,Zw,ZQ,ZV,ZI,hi,hx,Zno,ZmU L x _ o1 (by omega),ZlL L x _ o1 (by omega) h1,ih1,ih2,wrap_succ hi (by omega),e'];simp only [Y4,XI,if_true,if_false,aK,ne_eq,decide_not,gt_iff_lt,ge_iff_le,Zm2]
   have:_=if decide ((if decide (Zdz x≠0)=true then Zdz x else if decide (WR x.Body≠0)=true then WR x.Body else WR x.Else)≠0)=true then (if decide (Zdz x≠0)=true then Zdz x else if decide (WR x.Body≠0)=true then WR x.Body else WR x.Else) else WR r:=Zlo (!(JH x.Op).2||!(Zdq x (JH x.Op).1)) (Zbj x (JH x.Op).1) (WR x.Body) (WR x.Else) (WR r)
   simp only [ne_eq,decide_not] at this
   rw [this]
  ·rw [H6];simp only [Zg,Zd,cond_true,cond_false,Zf,Zn,Ze,Zv,condC,Zj,Zk,Zw,ZQ,ZV,ZI,WR]
theorem Zfa (L:Nat)(h1:100≤L):∀(m:Nat) (l:List Zl),ZaI l→SizeOf.sizeOf l≤m→m≤L→Jd L m (l,())=some (WR l)
 |0,e,h,hs,_=>absurd hs (by have:=Zjo e;omega)
 |m+1,l,h,hs,hm=>by
  have hk:=Z4 l;have hl:=h.1
  rw [Zhx]
  refine ZeH l (fun l=>some (WR l)) (by omega) (fun self i x r hx hi mem e'=>?_) (fun self=>?_)
  ·have hz:=Zmr mem
   obtain ⟨o1,o2,o3⟩:=h.s mem
   have ih1:=Zfa L h1 m x.Body o2 (by omega) (by omega)
   have ih2:=Zfa L h1 m x.Else o3 (by omega) (by omega)
   rw [RJ,WR,ZeB]
   simp only [Zg,Zd,cond_true,cond_false,Zf,Zn,Ze,Zv,condC,Zj,Zk,Zw,ZQ,ZV,ZI,hi,hx,Zoo L x o1 (by omega) h1,ih1,ih2,wrap_succ hi (by omega),e'];simp only [Y4,XI,if_true,if_false,aK,ne_eq,decide_not,gt_iff_lt,ge_iff_le]
   have:=Zlp (Zdz x) (WR x.Body) (WR x.Else) (WR r)
   simp only [ne_eq,decide_not] at this
   rw [← this]
   by_cases a:Zdz x=0<;>by_cases b:WR x.Body=0<;>by_cases c:WR x.Else=0<;>simp [a,b,c]
  ·rw [RJ];simp only [Zg,Zd,cond_true,cond_false,Zf,Zn,Ze,Zv,condC,Zj,Zk,Zw,ZQ,ZV,ZI,WR]
theorem Fj (L:Nat):∀(m:Nat) (l:List Zl),ZaI l→SizeOf.sizeOf l≤m→m≤L→VF L m (l,())=some (Rt l 0)
 |0,e,h,hs,_=>absurd hs (by have:=Zjo e;omega)
 |m+1,l,h,hs,hm=>by
  have hk:=Z4 l;have hl:=h.1
  rw [ZdV]
  refine AQ l (fun l n=>some (Rt l n)) (by omega) 0 (fun self n i x r hx hi mem e'=>?_) (fun self n=>?_)
  ·have hz:=Zmr mem
   obtain ⟨o1,o2,o3⟩:=h.s mem
   have ih1:=Fj L m x.Body o2 (by omega) (by omega)
   have ih2:=Fj L m x.Else o3 (by omega) (by omega)
   rw [H5,Rt,Zik]
   simp only [Zg,Zd,cond_true,cond_false,Zf,Zn,Ze,Zv,condC,Zj,Zk,Zw,ZQ,ZV,ZI,hi,hx,ih1,ih2,wrap_succ hi (by omega),e',mx3]
  ·rw [H5];simp only [Zg,Zd,cond_true,cond_false,Zf,Zn,Ze,Zv,condC,Zj,Zk,Zw,ZQ,ZV,ZI,Rt]
theorem PX (L:Nat):∀(m:Nat) (l:List Zl),ZaI l→SizeOf.sizeOf l≤m→m≤L→JC L m (l,())=some (Rt l 0)
 |0,e,h,hs,_=>absurd hs (by have:=Zjo e;omega)
 |m+1,l,h,hs,hm=>by
  have hk:=Z4 l;have hl:=h.1
  rw [Zfp]
  refine AQ l (fun l n=>some (Rt l n)) (by omega) 0 (fun self n i x r hx hi mem e'=>?_) (fun self n=>?_)
  ·have hz:=Zmr mem
   obtain ⟨o1,o2,o3⟩:=h.s mem
   have ih1:=PX L m x.Body o2 (by omega) (by omega)
   have ih2:=PX L m x.Else o3 (by omega) (by omega)
   rw [OT,Rt,Zik]
   simp only [Zg,Zd,cond_true,cond_false,Zf,Zn,Ze,Zv,condC,Zj,Zk,Zw,ZQ,ZV,ZI,hi,hx,ih1,ih2,wrap_succ hi (by omega),e',mx3]
  ·rw [OT];simp only [Zg,Zd,cond_true,cond_false,Zf,Zn,Ze,Zv,condC,Zj,Zk,Zw,ZQ,ZV,ZI,Rt]
theorem Fh (L:Nat):∀(m:Nat) (l:List Zl),ZaI l→SizeOf.sizeOf l≤m→m≤L→VE L m (l,())=some (KY l (l.length:Int))
 |0,e,h,hs,_=>absurd hs (by have:=Zjo e;omega)
 |m+1,l,h,hs,hm=>by
  have hk:=Z4 l;have hl:=h.1
  rw [ZdU]
  refine AQ l (fun l n=>some (KY l n)) (by omega) _ (fun self n i x r hx hi mem e'=>?_) (fun self n=>?_)
  ·have hz:=Zmr mem
   obtain ⟨o1,o2,o3⟩:=h.s mem
   have ih1:=Fh L m x.Body o2 (by omega) (by omega)
   have ih2:=Fh L m x.Else o3 (by omega) (by omega)
   rw [Hz,KY,Zlr]
   simp only [Zg,Zd,cond_true,cond_false,Zf,Zn,Ze,Zv,condC,Zj,Zk,Zw,ZQ,ZV,ZI,hi,hx,ih1,ih2,wrap_succ hi (by omega),e']
  ·rw [Hz];simp only [Zg,Zd,cond_true,cond_false,Zf,Zn,Ze,Zv,condC,Zj,Zk,Zw,ZQ,ZV,ZI,KY]
theorem Ff (L:Nat):∀(m:Nat) (l:List Zl),ZaI l→SizeOf.sizeOf l≤m→m≤L→JB L m (l,())=some (U3 l 0)
 |0,e,h,hs,_=>absurd hs (by have:=Zjo e;omega)
 |m+1,l,h,hs,hm=>by
  have hk:=Z4 l;have hl:=h.1
  rw [Zfo]
  refine AQ l (fun l n=>some (U3 l n)) (by omega) _ (fun self n i x r hx hi mem e'=>?_) (fun self n=>?_)
  ·have hz:=Zmr mem
   obtain ⟨o1,o2,o3⟩:=h.s mem
   have ih1:=Ff L m x.Body o2 (by omega) (by omega)
   have ih2:=Ff L m x.Else o3 (by omega) (by omega)
   rw [OQ,U3,Zih]
   simp only [Zg,Zd,cond_true,cond_false,Zf,Zn,Ze,Zv,condC,Zj,Zk,Zw,ZQ,ZV,ZI,hi,hx,ih1,ih2,wrap_succ hi (by omega),e']
  ·rw [OQ];simp only [Zg,Zd,cond_true,cond_false,Zf,Zn,Ze,Zv,condC,Zj,Zk,Zw,ZQ,ZV,ZI,U3]
theorem Zkq (L:Nat)(h1:100≤L)(l:List Zl)(h:ZaI l)(hL:SizeOf.sizeOf l≤L):KG L (l,())=some (LC l):=by
 simp only [Zg,Zd,cond_true,cond_false,Zf,Zn,Ze,Zv,condC,Zj,Zk,Zw,ZQ,ZV,ZI,ZdT,show TZ L (l,())=_ from Fh L L l h hL (dI _),show Mc L (l,())=_ from Fj L L l h hL (dI _),show Md L (l,())=_ from ZbY L h1 L l h hL (dI _),LC];simp only [Y4,XI,if_true,if_false,aK,ne_eq,decide_not,gt_iff_lt,ge_iff_le]
theorem ZiQ (L:Nat)(h1:100≤L)(l:List Zl)(h:ZaI l)(hL:SizeOf.sizeOf l≤L):Il L (l,())=some (LC l):=by
 rw [← Zha l (by have:=h.1;omega)]
 simp only [Zg,Zd,cond_true,cond_false,Zf,Zn,Ze,Zv,condC,Zj,Zk,Zw,ZQ,ZV,ZI,Zfn,show BD L (l,())=_ from Ff L L l h hL (dI _),show BF L (l,())=_ from PX L L l h hL (dI _),show Nq L (l,())=_ from Zfa L h1 L l h hL (dI _),ZeA];simp only [Y4,XI,if_true,if_false,aK,ne_eq,decide_not,gt_iff_lt,ge_iff_le]
end Go.Proofs.YtbcfddaocfpckaaGreatDoor
end
