import Derived.Test.YtleomfgijkapfaaGreatDoorU16
set_option linter.all false
section
namespace Go.Proofs.YtleomfgijkapfaaGreatDoor
open Go Go.Proofs.YtleomfgijkapfaaGreatDoor.Abs Go.Proofs.YtleomfgijkapfaaGreatDoor.Tl
set_option maxRecDepth 100000
theorem two {α:Type}(a b:α):ZP [a,b] 0=some a∧ZP [a,b] 1=some b∧decide ((0:Int) < (([a,b].length:Nat):Int))=true∧decide ((1:Int) < (([a,b].length:Nat):Int))=true∧decide ((2:Int) < (([a,b].length:Nat):Int))=false :=
 ⟨Zf [a,b] 0,Zf [a,b] 1,by simp,by simp,by simp⟩
def F10 (u:ZaQ):Yp:=⟨u.name,u.of,u.e,u.f,u.args,u.dist,u.flag,u.body,u.other⟩
theorem ZjF (c:Bool)(a:ZaQ)(b:Bool){X:Option (Yp×Bool×PUnit)}{Y:ZaQ×Bool}(h:X=some (F10 Y.1,Y.2,())):(bif c then some (F10 a,b,()) else X)=some (F10 (if c=true then (a,b) else Y).1,(if c=true then (a,b) else Y).2,()):=by
 cases c
 ·simpa using h
 ·rfl
theorem ZrI (L:Nat)(n:Int):MB L (n,())=some (F10 (Iq n).1,(Iq n).2,()):=by
 simp only [Zly,Iq,Yb]
 repeat refine ZjF _ ⟨_,_,_,_,_,_,_,_,_⟩ _ ?_
 rfl
theorem Zhd (e:Zg):KT e ⟨0,[],0,[]⟩=MF e:=by
 obtain ⟨o,a,n,ks⟩:=e
 cases ks with
 | nil =>
  rw [Dh]; simp only [ZbP,MF,all2]
  by_cases h1:o=0 <;> by_cases h2:a=[] <;> by_cases h3:n=0 <;> simp [h1,h2,h3]
 | cons x r =>
  have:¬ ((r.length:Int) + 1=0):=by omega
  rw [Dh]; simp only [ZbP,MF]; simp [this]
theorem MX (d:ZX):Zb9 d ⟨0,0,0,0,[],[]⟩=KI d:=rfl
theorem Zj6 (s:Zz):SizeOf.sizeOf s.Dist < SizeOf.sizeOf s∧SizeOf.sizeOf s.Name < SizeOf.sizeOf s∧SizeOf.sizeOf s.Of < SizeOf.sizeOf s:=by cases s; simp; omega
theorem ZnZ (L:Nat)(e:Zg):U4 L (e,())=some (MF e):=by
 simp only [Zi,Zd,cond_true,cond_false,Zf,ZG,Zc,Zu,condC,Zk,Zj,Zr,Yb,Y0,Ya,ZgU,MF]
theorem Zlp (L:Nat)(s:Zz)(h:Yo s)(hL:SizeOf.sizeOf s≤L):JW L (s,())=some (Zie s):=by
 have:=ZoH s; have:=Zj6 s
 simp only [Zi,Zd,cond_true,cond_false,Zf,ZG,Zc,Zu,condC,Zk,Zj,Zr,Yb,Y0,Ya,Zcv,ZrI,ZnZ,BU L s.Dist _ h.Dist (by omega),MX,Zie,F10]
theorem lpX (L:Nat)(s:Zz)(h:Yo s)(hL:SizeOf.sizeOf s≤L)(h1:100≤L)(n:Int):Zw (Y8 s L) L (n,0,())=some (MS s s.Args n):=by
 have:=ZoH s; have ha:=Z7 s.Args; have hal:=h.a
 refine Zd1 s.Args (fun l n=>some (MS s l n)) (by omega) n (fun self n i x r hx hi mem e'=>?_) (fun self n=>?_)
 ·have hx':=Zaq L h1 x (h.Args.2 x mem) (by have:=ZrZ mem; omega)
  rw [Y8]; simp only [Zi,Zd,cond_true,cond_false,Zf,ZG,Zc,Zu,condC,Zk,Zj,Zr,Yb,Y0,Ya,hi,hx,hx',wrap_succ hi (by omega),e',MS,Bool.and_true]; simp only [YQ,JA,if_true,if_false,Bool.false_eq_true,ne_eq,decide_not,gt_iff_lt,ge_iff_le]
 ·rw [Y8]; simp only [Zi,Zd,cond_true,cond_false,Zf,ZG,Zc,Zu,condC,Zk,Zj,Zr,Yb,Y0,Ya,MS,Bool.and_false]
theorem ZnV (L:Nat)(s:Zz)(u:ZaQ)(h:Yo s)(hL:SizeOf.sizeOf s≤L)(h1:100≤L):Kr L (s,F10 u,())=some (PQ s u):=by
 have:=ZoH s
 have hE:=Zaq L h1 s.E h.E (by omega)
 have hF:=Zaq L h1 s.F h.F (by omega)
 have lp:=lpX L s h hL h1
 rw [Zek,show RI=Y8 from rfl,show RJ=Y8 from rfl,show RN=Y8 from rfl,show RP=Y8 from rfl,show RQ=Y8 from rfl,show RS=Y8 from rfl,show RU=Y8 from rfl]
 simp only [Zi,Zd,cond_true,cond_false,Zf,ZG,Zc,Zu,condC,Zk,Zj,Zr,Yb,Y0,Ya,hE,hF,lp,PQ,F10]
 cases u.e <;> cases u.f <;> simp only [Zi,Zd,cond_true,cond_false,Zf,ZG,Zc,Zu,condC,Zk,Zj,Zr,Yb,Y0,Ya,decide_true,Bool.true_and,Bool.and_true,Bool.and_false,if_true,if_false,Bool.false_eq_true] <;> simp only [YQ,JA,if_true,if_false,Bool.false_eq_true,ne_eq,decide_not,gt_iff_lt,ge_iff_le] <;> (repeat' split) <;> first | rfl | simp_all
theorem Zrx (L:Nat)(s:Zz)(h:Yo s)(hL:SizeOf.sizeOf s≤L)(h1:100≤L):MC L (s,())=some (Zlf s):=by
 have:=ZoH s; have:=Zj6 s
 have hn:=GX L s.Name (by have:=h.Name; unfold Len; omega) (by have:=Z7 s.Name; omega) h1
 have ho:=GX L s.Of (by have:=h.Of; unfold Len; omega) (by have:=Z7 s.Of; omega) h1
 have hD:=Lp L s.Dist h.Dist (by omega)
 rw [← ZnH]
 simp only [Zjq,ZrI,ZG,show (F10 (Iq s.Op).1).1=(Iq s.Op).1.name from rfl,show (F10 (Iq s.Op).1).2=(Iq s.Op).1.of from rfl,show (F10 (Iq s.Op).1).6=(Iq s.Op).1.dist from rfl]
 simp only [Zi,Zd,cond_true,cond_false,Zf,ZG,Zc,Zu,condC,Zk,Zj,Zr,Yb,Y0,Ya,Zlp L s h hL,hn,ho,hD,ZnV L s _ h hL h1,Zru,CQ]; simp only [YQ,JA,if_true,if_false,Bool.false_eq_true,ne_eq,decide_not,gt_iff_lt,ge_iff_le]
theorem Zhw.s {l:List Zz}(h:Zhw l){x:Zz}(hx:x ∈ l):Yo x∧Zhw x.Body∧Zhw x.Else:=⟨h.2 x hx,(h.2 x hx).b.1,(h.2 x hx).b.2⟩
theorem ZdN (L:Nat)(h1:100≤L):∀ (m:Nat) (l:List Zz),Zhw l→SizeOf.sizeOf l≤m→m≤L→XV L m (l,())=some (KQ l)
 | 0,e,h,hs,_=>absurd hs (by have:=Zr6 e; omega)
 | m + 1,l,h,hs,hm=>by
  have hk:=Z7 l; have hl:=h.1
  rw [ZgT]
  refine ZbU l (fun l=>some (KQ l)) (by omega) (fun self i x r hx hi mem e'=>?_) (fun self=>?_)
  ·have hz:=Zr5 mem
   obtain ⟨o1,o2,o3⟩:=h.s mem
   have ih1:=ZdN L h1 m x.Body o2 (by omega) (by omega)
   have ih2:=ZdN L h1 m x.Else o3 (by omega) (by omega)
   rw [Og,KQ,ZmP]
   simp only [Zi,Zd,cond_true,cond_false,Zf,ZG,Zc,Zu,condC,Zk,Zj,Zr,Yb,Y0,Ya,hi,hx,Zrx L x o1 (by omega) h1,ih1,ih2,wrap_succ hi (by omega),e']; simp only [YQ,JA,if_true,if_false,Bool.false_eq_true,ne_eq,decide_not,gt_iff_lt,ge_iff_le]
   have:=ZmO (Zlf x) (KQ x.Body) (KQ x.Else) (KQ r)
   simp only [ne_eq,decide_not] at this
   rw [← this]
   by_cases a:Zlf x=0 <;> by_cases b:KQ x.Body=0 <;> by_cases c:KQ x.Else=0 <;> simp [a,b,c]
  ·rw [Og]; simp only [Zi,Zd,cond_true,cond_false,Zf,ZG,Zc,Zu,condC,Zk,Zj,Zr,Yb,Y0,Ya,KQ]
theorem Lr (L:Nat):∀ (m:Nat) (l:List Zz),Zhw l→SizeOf.sizeOf l≤m→m≤L→V3 L m (l,())=some (PH l 0)
 | 0,e,h,hs,_=>absurd hs (by have:=Zr6 e; omega)
 | m + 1,l,h,hs,hm=>by
  have hk:=Z7 l; have hl:=h.1
  rw [Zej]
  refine Zd1 l (fun l n=>some (PH l n)) (by omega) 0 (fun self n i x r hx hi mem e'=>?_) (fun self n=>?_)
  ·have hz:=Zr5 mem
   obtain ⟨o1,o2,o3⟩:=h.s mem
   have ih1:=Lr L m x.Body o2 (by omega) (by omega)
   have ih2:=Lr L m x.Else o3 (by omega) (by omega)
   rw [Gx,PH,ZmX]
   simp only [Zi,Zd,cond_true,cond_false,Zf,ZG,Zc,Zu,condC,Zk,Zj,Zr,Yb,Y0,Ya,hi,hx,ih1,ih2,wrap_succ hi (by omega),e',mx3]
  ·rw [Gx]; simp only [Zi,Zd,cond_true,cond_false,Zf,ZG,Zc,Zu,condC,Zk,Zj,Zr,Yb,Y0,Ya,PH]
theorem Tt (L:Nat):∀ (m:Nat) (l:List Zz),Zhw l→SizeOf.sizeOf l≤m→m≤L→Vz L m (l,())=some (Jn l 0)
 | 0,e,h,hs,_=>absurd hs (by have:=Zr6 e; omega)
 | m + 1,l,h,hs,hm=>by
  have hk:=Z7 l; have hl:=h.1
  rw [Zei]
  refine Zd1 l (fun l n=>some (Jn l n)) (by omega) _ (fun self n i x r hx hi mem e'=>?_) (fun self n=>?_)
  ·have hz:=Zr5 mem
   obtain ⟨o1,o2,o3⟩:=h.s mem
   have ih1:=Tt L m x.Body o2 (by omega) (by omega)
   have ih2:=Tt L m x.Else o3 (by omega) (by omega)
   rw [Gw,Jn,ZhO]
   simp only [Zi,Zd,cond_true,cond_false,Zf,ZG,Zc,Zu,condC,Zk,Zj,Zr,Yb,Y0,Ya,hi,hx,ih1,ih2,wrap_succ hi (by omega),e']
  ·rw [Gw]; simp only [Zi,Zd,cond_true,cond_false,Zf,ZG,Zc,Zu,condC,Zk,Zj,Zr,Yb,Y0,Ya,Jn]
theorem Zjg (L:Nat)(h1:100≤L)(l:List Zz)(h:Zhw l)(hL:SizeOf.sizeOf l≤L):Kq L (l,())=some (Zb6 l):=by
 rw [← Zg0 l (by have:=h.1; omega)]
 simp only [Zi,Zd,cond_true,cond_false,Zf,ZG,Zc,Zu,condC,Zk,Zj,Zr,Yb,Y0,Ya,Zeh,show XU L (l,())=_ from Tt L L l h hL (Nat.le_refl _),show Ox L (l,())=_ from Lr L L l h hL (Nat.le_refl _),show LQ L (l,())=_ from ZdN L h1 L l h hL (Nat.le_refl _),Zdi]; simp only [YQ,JA,if_true,if_false,Bool.false_eq_true,ne_eq,decide_not,gt_iff_lt,ge_iff_le]
end Go.Proofs.YtleomfgijkapfaaGreatDoor
end
