import Derived.Test.YtleomfgijkapfaaGreatDoorT16
set_option linter.all false
section
namespace Go.Proofs.YtleomfgijkapfaaGreatDoor
open Go Go.Proofs.YtleomfgijkapfaaGreatDoor.Abs Go.Proofs.YtleomfgijkapfaaGreatDoor.Tl
set_option maxRecDepth 100000
theorem two {α:Type}(a b:α):Y1 [a,b] 0=some a∧Y1 [a,b] 1=some b∧decide ((0:Int) < (([a,b].length:Nat):Int))=true∧decide ((1:Int) < (([a,b].length:Nat):Int))=true∧decide ((2:Int) < (([a,b].length:Nat):Int))=false :=
 ⟨Zm [a,b] 0,Zm [a,b] 1,by simp,by simp,by simp⟩
def F10 (u:En):Yb:=⟨u.name,u.of,u.e,u.f,u.args,u.dist,u.flag,u.body,u.other⟩
theorem ZfK (c:Bool)(a:En)(b:Bool){X:Option (Yb×Bool×PUnit)}{Y:En×Bool}(h:X=some (F10 Y.1,Y.2,())):(bif c then some (F10 a,b,()) else X)=some (F10 (if c=true then (a,b) else Y).1,(if c=true then (a,b) else Y).2,()):=by
 cases c
 ·simpa using h
 ·rfl
theorem Zns (L:Nat)(n:Int):GZ L (n,())=some (F10 (U5 n).1,(U5 n).2,()):=by
 simp only [Zho,U5,We]
 repeat refine ZfK _ ⟨_,_,_,_,_,_,_,_,_⟩ _ ?_
 rfl
theorem Pi (d:Ya):ZiK d ⟨0,0,0,0,[],[]⟩=He d:=rfl
theorem ZfB (s:Zt):SizeOf.sizeOf s.Dist < SizeOf.sizeOf s∧SizeOf.sizeOf s.Name < SizeOf.sizeOf s∧SizeOf.sizeOf s.Of < SizeOf.sizeOf s:=by cases s; simp; omega
theorem ZjL (L:Nat)(e:Zq):VQ L (e,())=some (ZdP e):=by
 simp only [Zo,Zf,cond_true,cond_false,Zm,Yk,Ze,ZU,condC,Zz,Zy,ZP,We,Qe,WM,Zd6,ZdP]
theorem Zhe (L:Nat)(s:Zt)(h:Ym s)(hL:SizeOf.sizeOf s≤L):Vs L (s,())=some (Zex s):=by
 have:=Zkx s; have:=ZfB s
 simp only [Zo,Zf,cond_true,cond_false,Zm,Yk,Ze,ZU,condC,Zz,Zy,ZP,We,Qe,WM,FQ,Zns,ZjL,NY L s.Dist _ h.Dist (by omega),Pi,Zex,F10]
theorem lpX (L:Nat)(s:Zt)(h:Ym s)(hL:SizeOf.sizeOf s≤L)(h1:100≤L)(n:Int):Zw (Yu s L) L (n,0,())=some (Hy s s.Args n):=by
 have:=Zkx s; have ha:=ZK s.Args; have hal:=h.a
 refine ZeM s.Args (fun l n=>some (Hy s l n)) (by omega) n (fun self n i x r hx hi mem e'=>?_) (fun self n=>?_)
 ·have hx':=NW L h1 x (h.Args.2 x mem) (by have:=Zn7 mem; omega)
  rw [Yu]; simp only [Zo,Zf,cond_true,cond_false,Zm,Yk,Ze,ZU,condC,Zz,Zy,ZP,We,Qe,WM,hi,hx,hx',wrap_succ hi (by omega),e',Hy,Bool.and_true]; simp only [Xl,Ia,if_true,if_false,Bool.false_eq_true,ne_eq,decide_not,gt_iff_lt,ge_iff_le]
 ·rw [Yu]; simp only [Zo,Zf,cond_true,cond_false,Zm,Yk,Ze,ZU,condC,Zz,Zy,ZP,We,Qe,WM,Hy,Bool.and_false]
theorem ZjF (L:Nat)(s:Zt)(u:En)(h:Ym s)(hL:SizeOf.sizeOf s≤L)(h1:100≤L):Jp L (s,F10 u,())=some (Ll s u):=by
 have:=Zkx s
 have hE:=NW L h1 s.E h.E (by omega)
 have hF:=NW L h1 s.F h.F (by omega)
 have lp:=lpX L s h hL h1
 rw [Zbj,show Ob=Yu from rfl,show Oc=Yu from rfl,show Oe=Yu from rfl,show Og=Yu from rfl,show Oh=Yu from rfl,show Oi=Yu from rfl,show Oj=Yu from rfl]
 simp only [Zo,Zf,cond_true,cond_false,Zm,Yk,Ze,ZU,condC,Zz,Zy,ZP,We,Qe,WM,hE,hF,lp,Ll,F10]
 cases u.e <;> cases u.f <;> simp only [Zo,Zf,cond_true,cond_false,Zm,Yk,Ze,ZU,condC,Zz,Zy,ZP,We,Qe,WM,decide_true,Bool.true_and,Bool.and_true,Bool.and_false,if_true,if_false,Bool.false_eq_true] <;> simp only [Xl,Ia,if_true,if_false,Bool.false_eq_true,ne_eq,decide_not,gt_iff_lt,ge_iff_le] <;> (repeat' split) <;> first | rfl | simp_all
theorem ZmY (L:Nat)(s:Zt)(h:Ym s)(hL:SizeOf.sizeOf s≤L)(h1:100≤L):Ha L (s,())=some (ZgT s):=by
 have:=Zkx s; have:=ZfB s
 have hn:=Ua L s.Name (by have:=h.Name; unfold Len; omega) (by have:=ZK s.Name; omega) h1
 have ho:=Ua L s.Of (by have:=h.Of; unfold Len; omega) (by have:=ZK s.Of; omega) h1
 have hD:=JZ L s.Dist h.Dist (by omega)
 rw [← Zj3]
 simp only [Zfv,Zns,Yk,show (F10 (U5 s.Op).1).1=(U5 s.Op).1.name from rfl,show (F10 (U5 s.Op).1).2=(U5 s.Op).1.of from rfl,show (F10 (U5 s.Op).1).6=(U5 s.Op).1.dist from rfl]
 simp only [Zo,Zf,cond_true,cond_false,Zm,Yk,Ze,ZU,condC,Zz,Zy,ZP,We,Qe,WM,Zhe L s h hL,hn,ho,hD,ZjF L s _ h hL h1,ZmW,Nw]; simp only [Xl,Ia,if_true,if_false,Bool.false_eq_true,ne_eq,decide_not,gt_iff_lt,ge_iff_le]
theorem ZdW.s {l:List Zt}(h:ZdW l){x:Zt}(hx:x ∈ l):Ym x∧ZdW x.Body∧ZdW x.Else:=⟨h.2 x hx,(h.2 x hx).b.1,(h.2 x hx).b.2⟩
theorem ZaR (L:Nat)(h1:100≤L):∀ (m:Nat) (l:List Zt),ZdW l→SizeOf.sizeOf l≤m→m≤L→QZ L m (l,())=some (J6 l)
 | 0,e,h,hs,_=>absurd hs (by have:=Znh e; omega)
 | m + 1,l,h,hs,hm=>by
  have hk:=ZK l; have hl:=h.1
  rw [Zd5]
  refine ZgE l (fun l=>some (J6 l)) (by omega) (fun self i x r hx hi mem e'=>?_) (fun self=>?_)
  ·have hz:=Zng mem
   obtain ⟨o1,o2,o3⟩:=h.s mem
   have ih1:=ZaR L h1 m x.Body o2 (by omega) (by omega)
   have ih2:=ZaR L h1 m x.Else o3 (by omega) (by omega)
   rw [Kt,J6,Zi7]
   simp only [Zo,Zf,cond_true,cond_false,Zm,Yk,Ze,ZU,condC,Zz,Zy,ZP,We,Qe,WM,hi,hx,ZmY L x o1 (by omega) h1,ih1,ih2,wrap_succ hi (by omega),e']; simp only [Xl,Ia,if_true,if_false,Bool.false_eq_true,ne_eq,decide_not,gt_iff_lt,ge_iff_le]
   have:=Zi6 (ZgT x) (J6 x.Body) (J6 x.Else) (J6 r)
   simp only [ne_eq,decide_not] at this
   rw [← this]
   by_cases a:ZgT x=0 <;> by_cases b:J6 x.Body=0 <;> by_cases c:J6 x.Else=0 <;> simp [a,b,c]
  ·rw [Kt]; simp only [Zo,Zf,cond_true,cond_false,Zm,Yk,Ze,ZU,condC,Zz,Zy,ZP,We,Qe,WM,J6]
theorem Ik (L:Nat):∀ (m:Nat) (l:List Zt),ZdW l→SizeOf.sizeOf l≤m→m≤L→Xu L m (l,())=some (MX l 0)
 | 0,e,h,hs,_=>absurd hs (by have:=Znh e; omega)
 | m + 1,l,h,hs,hm=>by
  have hk:=ZK l; have hl:=h.1
  rw [Zbi]
  refine ZeM l (fun l n=>some (MX l n)) (by omega) 0 (fun self n i x r hx hi mem e'=>?_) (fun self n=>?_)
  ·have hz:=Zng mem
   obtain ⟨o1,o2,o3⟩:=h.s mem
   have ih1:=Ik L m x.Body o2 (by omega) (by omega)
   have ih2:=Ik L m x.Else o3 (by omega) (by omega)
   rw [JP,MX,ZiH]
   simp only [Zo,Zf,cond_true,cond_false,Zm,Yk,Ze,ZU,condC,Zz,Zy,ZP,We,Qe,WM,hi,hx,ih1,ih2,wrap_succ hi (by omega),e',mx3]
  ·rw [JP]; simp only [Zo,Zf,cond_true,cond_false,Zm,Yk,Ze,ZU,condC,Zz,Zy,ZP,We,Qe,WM,MX]
theorem Rf (L:Nat):∀ (m:Nat) (l:List Zt),ZdW l→SizeOf.sizeOf l≤m→m≤L→Xt L m (l,())=some (XN l 0)
 | 0,e,h,hs,_=>absurd hs (by have:=Znh e; omega)
 | m + 1,l,h,hs,hm=>by
  have hk:=ZK l; have hl:=h.1
  rw [Zbh]
  refine ZeM l (fun l n=>some (XN l n)) (by omega) _ (fun self n i x r hx hi mem e'=>?_) (fun self n=>?_)
  ·have hz:=Zng mem
   obtain ⟨o1,o2,o3⟩:=h.s mem
   have ih1:=Rf L m x.Body o2 (by omega) (by omega)
   have ih2:=Rf L m x.Else o3 (by omega) (by omega)
   rw [JO,XN,Zem]
   simp only [Zo,Zf,cond_true,cond_false,Zm,Yk,Ze,ZU,condC,Zz,Zy,ZP,We,Qe,WM,hi,hx,ih1,ih2,wrap_succ hi (by omega),e']
  ·rw [JO]; simp only [Zo,Zf,cond_true,cond_false,Zm,Yk,Ze,ZU,condC,Zz,Zy,ZP,We,Qe,WM,XN]
theorem Zfm (L:Nat)(h1:100≤L)(l:List Zt)(h:ZdW l)(hL:SizeOf.sizeOf l≤L):Jo L (l,())=some (Aw l):=by
 rw [← Zdf l (by have:=h.1; omega)]
 simp only [Zo,Zf,cond_true,cond_false,Zm,Yk,Ze,ZU,condC,Zz,Zy,ZP,We,Qe,WM,Zbg,show KC L (l,())=_ from Rf L L l h hL (Nat.le_refl _),show KD L (l,())=_ from Ik L L l h hL (Nat.le_refl _),show I7 L (l,())=_ from ZaR L h1 L l h hL (Nat.le_refl _),Zax]; simp only [Xl,Ia,if_true,if_false,Bool.false_eq_true,ne_eq,decide_not,gt_iff_lt,ge_iff_le]
end Go.Proofs.YtleomfgijkapfaaGreatDoor
end
