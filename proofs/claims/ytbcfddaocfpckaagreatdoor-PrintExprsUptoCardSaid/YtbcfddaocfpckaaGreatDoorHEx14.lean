import Derived.Test.YtbcfddaocfpckaaGreatDoorHEx13
set_option linter.all false
section
namespace Go.Proofs.YtbcfddaocfpckaaGreatDoor
open Go Go.Proofs.YtbcfddaocfpckaaGreatDoor.Abs Go.Proofs.YtbcfddaocfpckaaGreatDoor.Tl
set_option maxRecDepth 100000
theorem two {α:Type}(a b:α):getT [a,b] 0=some a∧getT [a,b] 1=some b∧decide ((0:Int) < (([a,b].length:Nat):Int))=true∧decide ((1:Int) < (([a,b].length:Nat):Int))=true∧decide ((2:Int) < (([a,b].length:Nat):Int))=false :=
 ⟨Zf [a,b] 0,Zf [a,b] 1,by simp,by simp,by simp⟩
def F10 (u:IU):Zx:=⟨u.name,u.of,u.e,u.f,u.args,u.dist,u.flag,u.body,u.other⟩
theorem PD (c:Bool)(a:IU)(b:Bool){X:Option (Zx×Bool×PUnit)}{Y:IU×Bool}(h:X=some (F10 Y.1,Y.2,())):(bif c then some (F10 a,b,()) else X)=some (F10 (if c=true then (a,b) else Y).1,(if c=true then (a,b) else Y).2,()):=by
 cases c
 ·simpa using h
 ·rfl
theorem Zav (L:Nat)(n:Int):Jk L (n,())=some (F10 (Vh n).1,(Vh n).2,()):=by
 simp only [NC,Vh,ZW]
 repeat refine PD _ ⟨_,_,_,_,_,_,_,_,_⟩ _ ?_
 rfl
theorem Hl (d:ZU):SY d ⟨0,0,0,0,[],[]⟩=Jm d:=rfl
theorem P5 (s:Zl):SizeOf.sizeOf s.Dist < SizeOf.sizeOf s∧SizeOf.sizeOf s.Name < SizeOf.sizeOf s∧SizeOf.sizeOf s.Of < SizeOf.sizeOf s:=by cases s; simp; omega
theorem EF (L:Nat)(e:Zc):QD L (e,())=some (BV e):=by
 simp only [Zh,Ze,cond_true,cond_false,Zf,Zq,Zb,Zm,condC,Zi,Zj,Zn,ZW,Yf,ZT,BB,BV]
theorem Nu (L:Nat)(s:Zl)(h:Z8 s)(hL:SizeOf.sizeOf s≤L):Qo L (s,())=some (Dz s):=by
 have:=EW s; have:=P5 s
 simp only [Zh,Ze,cond_true,cond_false,Zf,Zq,Zb,Zm,condC,Zi,Zj,Zn,ZW,Yf,ZT,OZ,Zav,EF,Iy L s.Dist _ h.Dist (by omega),Hl,Dz,F10]
theorem lpX (L:Nat)(s:Zl)(h:Z8 s)(hL:SizeOf.sizeOf s≤L)(h1:100≤L)(n:Int):loopT (ZA s L) L (n,0,())=some (Jv s s.Args n):=by
 have:=EW s; have ha:=Zu s.Args; have hal:=h.a
 refine MC s.Args (fun l n=>some (Jv s l n)) (by omega) n (fun self n i x r hx hi mem e'=>?_) (fun self n=>?_)
 ·have hx':=Us L h1 x (h.Args.2 x mem) (by have:=Za3 mem; omega)
  rw [ZA]; simp only [Zh,Ze,cond_true,cond_false,Zf,Zq,Zb,Zm,condC,Zi,Zj,Zn,ZW,Yf,ZT,hi,hx,hx',wrap_succ hi (by omega),e',Jv,Bool.and_true]; simp only [Y1,Vd,if_true,if_false,Bool.false_eq_true,ne_eq,decide_not,gt_iff_lt,ge_iff_le]
 ·rw [ZA]; simp only [Zh,Ze,cond_true,cond_false,Zf,Zq,Zb,Zm,condC,Zi,Zj,Zn,ZW,Yf,ZT,Jv,Bool.and_false]
theorem Eu (L:Nat)(s:Zl)(u:IU)(h:Z8 s)(hL:SizeOf.sizeOf s≤L)(h1:100≤L):Xe L (s,F10 u,())=some (UW s u):=by
 have:=EW s
 have hE:=Us L h1 s.E h.E (by omega)
 have hF:=Us L h1 s.F h.F (by omega)
 have lp:=lpX L s h hL h1
 rw [MZ,show JQ=ZA from rfl,show JR=ZA from rfl,show JS=ZA from rfl,show JU=ZA from rfl,show JV=ZA from rfl,show JW=ZA from rfl,show JX=ZA from rfl]
 simp only [Zh,Ze,cond_true,cond_false,Zf,Zq,Zb,Zm,condC,Zi,Zj,Zn,ZW,Yf,ZT,hE,hF,lp,UW,F10]
 cases u.e <;> cases u.f <;> simp only [Zh,Ze,cond_true,cond_false,Zf,Zq,Zb,Zm,condC,Zi,Zj,Zn,ZW,Yf,ZT,decide_true,Bool.true_and,Bool.and_true,Bool.and_false,if_true,if_false,Bool.false_eq_true] <;> simp only [Y1,Vd,if_true,if_false,Bool.false_eq_true,ne_eq,decide_not,gt_iff_lt,ge_iff_le] <;> (repeat' split) <;> first | rfl | simp_all
theorem Zaj (L:Nat)(s:Zl)(h:Z8 s)(hL:SizeOf.sizeOf s≤L)(h1:100≤L):Jl L (s,())=some (Nr s):=by
 have:=EW s; have:=P5 s
 have hn:=XO L s.Name (by have:=h.Name; unfold Len; omega) (by have:=Zu s.Name; omega) h1
 have ho:=XO L s.Of (by have:=h.Of; unfold Len; omega) (by have:=Zu s.Of; omega) h1
 have hD:=J4 L s.Dist h.Dist (by omega)
 rw [← Es]
 simp only [Po,Zav,Zq,show (F10 (Vh s.Op).1).1=(Vh s.Op).1.name from rfl,show (F10 (Vh s.Op).1).2=(Vh s.Op).1.of from rfl,show (F10 (Vh s.Op).1).6=(Vh s.Op).1.dist from rfl]
 simp only [Zh,Ze,cond_true,cond_false,Zf,Zq,Zb,Zm,condC,Zi,Zj,Zn,ZW,Yf,ZT,Nu L s h hL,hn,ho,hD,Eu L s _ h hL h1,Zah,Iq]; simp only [Y1,Vd,if_true,if_false,Bool.false_eq_true,ne_eq,decide_not,gt_iff_lt,ge_iff_le]
theorem Dc.s {l:List Zl}(h:Dc l){x:Zl}(hx:x ∈ l):Z8 x∧Dc x.Body∧Dc x.Else:=⟨h.2 x hx,(h.2 x hx).b.1,(h.2 x hx).b.2⟩
theorem MI (L:Nat)(h1:100≤L):∀ (m:Nat) (l:List Zl),Dc l→SizeOf.sizeOf l≤m→m≤L→YG L m (l,())=some (Xp l)
 | 0,e,h,hs,_=>absurd hs (by have:=Zan e; omega)
 | m + 1,l,h,hs,hm=>by
  have hk:=Zu l; have hl:=h.1
  rw [BA]
  refine DN l (fun l=>some (Xp l)) (by omega) (fun self i x r hx hi mem e'=>?_) (fun self=>?_)
  ·have hz:=Zam mem
   obtain ⟨o1,o2,o3⟩:=h.s mem
   have ih1:=MI L h1 m x.Body o2 (by omega) (by omega)
   have ih2:=MI L h1 m x.Else o3 (by omega) (by omega)
   rw [Vw,Xp,SS]
   simp only [Zh,Ze,cond_true,cond_false,Zf,Zq,Zb,Zm,condC,Zi,Zj,Zn,ZW,Yf,ZT,hi,hx,Zaj L x o1 (by omega) h1,ih1,ih2,wrap_succ hi (by omega),e']; simp only [Y1,Vd,if_true,if_false,Bool.false_eq_true,ne_eq,decide_not,gt_iff_lt,ge_iff_le]
   have:=SQ (Nr x) (Xp x.Body) (Xp x.Else) (Xp r)
   simp only [ne_eq,decide_not] at this
   rw [← this]
   by_cases a:Nr x=0 <;> by_cases b:Xp x.Body=0 <;> by_cases c:Xp x.Else=0 <;> simp [a,b,c]
  ·rw [Vw]; simp only [Zh,Ze,cond_true,cond_false,Zf,Zq,Zb,Zm,condC,Zi,Zj,Zn,ZW,Yf,ZT,Xp]
theorem J5 (L:Nat):∀ (m:Nat) (l:List Zl),Dc l→SizeOf.sizeOf l≤m→m≤L→YW L m (l,())=some (UU l 0)
 | 0,e,h,hs,_=>absurd hs (by have:=Zan e; omega)
 | m + 1,l,h,hs,hm=>by
  have hk:=Zu l; have hl:=h.1
  rw [MX]
  refine MC l (fun l n=>some (UU l n)) (by omega) 0 (fun self n i x r hx hi mem e'=>?_) (fun self n=>?_)
  ·have hz:=Zam mem
   obtain ⟨o1,o2,o3⟩:=h.s mem
   have ih1:=J5 L m x.Body o2 (by omega) (by omega)
   have ih2:=J5 L m x.Else o3 (by omega) (by omega)
   rw [XA,UU,SV]
   simp only [Zh,Ze,cond_true,cond_false,Zf,Zq,Zb,Zm,condC,Zi,Zj,Zn,ZW,Yf,ZT,hi,hx,ih1,ih2,wrap_succ hi (by omega),e',mx3]
  ·rw [XA]; simp only [Zh,Ze,cond_true,cond_false,Zf,Zq,Zb,Zm,condC,Zi,Zj,Zn,ZW,Yf,ZT,UU]
theorem Kv (L:Nat):∀ (m:Nat) (l:List Zl),Dc l→SizeOf.sizeOf l≤m→m≤L→YV L m (l,())=some (WL l 0)
 | 0,e,h,hs,_=>absurd hs (by have:=Zan e; omega)
 | m + 1,l,h,hs,hm=>by
  have hk:=Zu l; have hl:=h.1
  rw [MW]
  refine MC l (fun l n=>some (WL l n)) (by omega) _ (fun self n i x r hx hi mem e'=>?_) (fun self n=>?_)
  ·have hz:=Zam mem
   obtain ⟨o1,o2,o3⟩:=h.s mem
   have ih1:=Kv L m x.Body o2 (by omega) (by omega)
   have ih2:=Kv L m x.Else o3 (by omega) (by omega)
   rw [X9,WL,Dn]
   simp only [Zh,Ze,cond_true,cond_false,Zf,Zq,Zb,Zm,condC,Zi,Zj,Zn,ZW,Yf,ZT,hi,hx,ih1,ih2,wrap_succ hi (by omega),e']
  ·rw [X9]; simp only [Zh,Ze,cond_true,cond_false,Zf,Zq,Zb,Zm,condC,Zi,Zj,Zn,ZW,Yf,ZT,WL]
theorem Ph (L:Nat)(h1:100≤L)(l:List Zl)(h:Dc l)(hL:SizeOf.sizeOf l≤L):Xd L (l,())=some (Oz l):=by
 rw [← RZ l (by have:=h.1; omega)]
 simp only [Zh,Ze,cond_true,cond_false,Zf,Zq,Zb,Zm,condC,Zi,Zj,Zn,ZW,Yf,ZT,MV,show VA L (l,())=_ from Kv L L l h hL (Nat.le_refl _),show VB L (l,())=_ from J5 L L l h hL (Nat.le_refl _),show J9 L (l,())=_ from MI L h1 L l h hL (Nat.le_refl _),TZ]; simp only [Y1,Vd,if_true,if_false,Bool.false_eq_true,ne_eq,decide_not,gt_iff_lt,ge_iff_le]
end Go.Proofs.YtbcfddaocfpckaaGreatDoor
end
