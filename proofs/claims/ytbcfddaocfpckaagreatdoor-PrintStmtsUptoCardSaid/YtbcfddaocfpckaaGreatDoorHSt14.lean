import Derived.Test.YtbcfddaocfpckaaGreatDoorHSt13
set_option linter.all false
section
namespace Go.Proofs.YtbcfddaocfpckaaGreatDoor
open Go Go.Proofs.YtbcfddaocfpckaaGreatDoor.Abs Go.Proofs.YtbcfddaocfpckaaGreatDoor.Tl
set_option maxRecDepth 100000
theorem ZdQ {τ ρ:Type}(f:(τ→Option ρ)→τ→Option ρ){L:Nat}(h:2 < L)(x:τ):loopT f L x=f (f (f (loopT f (L - 3)))) x:=by
 obtain ⟨m,rfl⟩:∃ m,L=m + 3:=⟨L - 3,by omega⟩
 rfl
theorem two {α:Type}(a b:α):getT [a,b] 0=some a∧getT [a,b] 1=some b∧decide ((0:Int) < (([a,b].length:Nat):Int))=true∧decide ((1:Int) < (([a,b].length:Nat):Int))=true∧decide ((2:Int) < (([a,b].length:Nat):Int))=false :=
 ⟨Zj [a,b] 0,Zj [a,b] 1,by simp,by simp,by simp⟩
theorem Zdw {α β:Type}(c:Bool)(a:α)(b:β){X:Option (α×β×PUnit)}{Y:α×β}(h:X=some (Y.1,Y.2,())):(bif c then some (a,b,()) else X)=some ((if c=true then (a,b) else Y).1,(if c=true then (a,b) else Y).2,()):=by
 cases c
 ·simpa using h
 ·rfl
theorem Zew (L:Nat)(n:Int):VM L (n,())=some ((Q4 n).1,(Q4 n).2,()):=by
 simp only [E5,Q4,ZR]
 repeat refine Zdw _ _ _ ?_
 rfl
def F10 (u:QL):ZL:=⟨u.name,u.of,u.e,u.f,u.args,u.dist,u.flag,u.body,u.other⟩
theorem Zbt (c:Bool)(a:QL)(b:Bool){X:Option (ZL×Bool×PUnit)}{Y:QL×Bool}(h:X=some (F10 Y.1,Y.2,())):(bif c then some (F10 a,b,()) else X)=some (F10 (if c=true then (a,b) else Y).1,(if c=true then (a,b) else Y).2,()):=by
 cases c
 ·simpa using h
 ·rfl
theorem Zf4 (L:Nat)(n:Int):G6 L (n,())=some (F10 (Q4 n).1,(Q4 n).2,()):=by
 simp only [ZbY,Q4,ZR]
 repeat refine Zbt _ ⟨_,_,_,_,_,_,_,_,_⟩ _ ?_
 rfl
theorem Zaq (e:Zi):LC e ⟨0,[],0,[]⟩=ML e:=by
 obtain ⟨o,a,n,ks⟩:=e
 cases ks with
 | nil =>
  rw [Dq]; simp only [CB,ML,all2]
  by_cases h1:o=0 <;> by_cases h2:a=[] <;> by_cases h3:n=0 <;> simp [h1,h2,h3]
 | cons x r =>
  have:¬ ((r.length:Int) + 1=0):=by omega
  rw [Dq]; simp only [CB,ML]; simp [this]
theorem GZ (d:ZF):ZaC d ⟨0,0,0,0,[],[]⟩=G8 d:=rfl
theorem Zbe (L:Nat)(e:Zi)(h:ZA e)(hL:SizeOf.sizeOf e≤L):WU L (e,())=some (ML e):=by
 simp only [Zk,Zf,cond_true,cond_false,Zj,Zr,Zb,Zw,condC,Zl,Zm,Zx,ZR,Yb,ZQ,BZ,Zdg L e _ h hL,Zaq]
theorem TN (s:Zd):SizeOf.sizeOf s.Dist < SizeOf.sizeOf s∧SizeOf.sizeOf s.Name < SizeOf.sizeOf s∧SizeOf.sizeOf s.Of < SizeOf.sizeOf s:=by cases s; simp; omega
theorem Zeh (L:Nat)(s:Zd)(u:QL)(h:ZB s)(hL:SizeOf.sizeOf s≤L):VL L (s,u,())=some (PE s u):=by
 have:=Fv s; have:=TN s
 simp only [Zk,Zf,cond_true,cond_false,Zj,Zr,Zb,Zw,condC,Zl,Zm,Zx,ZR,Yb,ZQ,Ez,Zbe L s.E h.E (by omega),Zbe L s.F h.F (by omega),Zdf L s.Dist _ h.Dist (by omega),GZ,PE]
theorem Zdp (L:Nat)(e:Zi):XV L (e,())=some (ML e):=by
 simp only [Zk,Zf,cond_true,cond_false,Zj,Zr,Zb,Zw,condC,Zl,Zm,Zx,ZR,Yb,ZQ,Zac,ML]
theorem ZbO (L:Nat)(s:Zd)(h:ZB s)(hL:SizeOf.sizeOf s≤L):X5 L (s,())=some (ZaF s):=by
 have:=Fv s; have:=TN s
 simp only [Zk,Zf,cond_true,cond_false,Zj,Zr,Zb,Zw,condC,Zl,Zm,Zx,ZR,Yb,ZQ,Np,Zf4,Zdp,BD L s.Dist _ h.Dist (by omega),GZ,ZaF,F10]
theorem Zdl (L:Nat)(s:Zd)(u:QL)(h:ZB s)(hL:SizeOf.sizeOf s≤L)(h1:100≤L):X7 L (s,u,())=some (Ro s u):=by
 have:=Fv s; have:=TN s; have ha:=Z4 s.Args; have hal:=h.a
 have hn:=BB L s.Name (by have:=h.Name; unfold Len; omega) (by have:=Z4 s.Name; omega)
 have ho:=BB L s.Of (by have:=h.Of; unfold Len; omega) (by have:=Z4 s.Of; omega)
 have hE:=Bz L s.E h.E (by omega)
 have hF:=Bz L s.F h.F (by omega)
 have hD:=OZ L s.Dist h.Dist (by omega) h1
 have lp:loopT (QE s u L) L (0,())=some (KL s u s.Args):=by
  refine SB s.Args (fun l=>some (KL s u l)) (by omega) (fun self i x r hx hi mem e'=>?_) (fun self=>?_)
  ·have hx':=Bz L x (h.Args.2 x mem) (by have:=ZeN mem; omega)
   rw [QE]; simp only [Zk,Zf,cond_true,cond_false,Zj,Zr,Zb,Zw,condC,Zl,Zm,Zx,ZR,Yb,ZQ,hi,hx,hx',wrap_succ hi (by omega),e',KL]; simp only [Yt,XF,if_true,if_false,Bool.false_eq_true,ne_eq,decide_not,gt_iff_lt,ge_iff_le]
  ·rw [QE]; simp only [Zk,Zf,cond_true,cond_false,Zj,Zr,Zb,Zw,condC,Zl,Zm,Zx,ZR,Yb,ZQ,hD,KL]; simp only [Yt,XF,if_true,if_false,Bool.false_eq_true,ne_eq,decide_not,gt_iff_lt,ge_iff_le]
 rw [Ny,ZdQ _ (by omega)]
 simp only [Gn,two,w01,ZdQ (V6 _ _ _ _) (show 2 < L by omega),V6]
 simp only [Zk,Zf,cond_true,cond_false,Zj,Zr,Zb,Zw,condC,Zl,Zm,Zx,ZR,Yb,ZQ,two,w01,hn,ho,hE,hF,lp,Ro,Rl,Rn,Rk]; simp only [Yt,XF,if_true,if_false,Bool.false_eq_true,ne_eq,decide_not,gt_iff_lt,ge_iff_le]
theorem lpX (L:Nat)(s:Zd)(h:ZB s)(hL:SizeOf.sizeOf s≤L)(h1:100≤L)(n:Int):loopT (ZZ s L) L (n,0,())=some (GX s s.Args n):=by
 have:=Fv s; have ha:=Z4 s.Args; have hal:=h.a
 refine Bq s.Args (fun l n=>some (GX s l n)) (by omega) n (fun self n i x r hx hi mem e'=>?_) (fun self n=>?_)
 ·have hx':=BC L h1 x (h.Args.2 x mem) (by have:=ZeN mem; omega)
  rw [ZZ]; simp only [Zk,Zf,cond_true,cond_false,Zj,Zr,Zb,Zw,condC,Zl,Zm,Zx,ZR,Yb,ZQ,hi,hx,hx',wrap_succ hi (by omega),e',GX,Bool.and_true]; simp only [Yt,XF,if_true,if_false,Bool.false_eq_true,ne_eq,decide_not,gt_iff_lt,ge_iff_le]
 ·rw [ZZ]; simp only [Zk,Zf,cond_true,cond_false,Zj,Zr,Zb,Zw,condC,Zl,Zm,Zx,ZR,Yb,ZQ,GX,Bool.and_false]
theorem Zdh (L:Nat)(s:Zd)(u:QL)(h:ZB s)(hL:SizeOf.sizeOf s≤L)(h1:100≤L):VJ L (s,F10 u,())=some (OL s u):=by
 have:=Fv s
 have hE:=BC L h1 s.E h.E (by omega)
 have hF:=BC L h1 s.F h.F (by omega)
 have lp:=lpX L s h hL h1
 rw [En,show Ik=ZZ from rfl,show Il=ZZ from rfl,show Io=ZZ from rfl,show Ip=ZZ from rfl,show Iq=ZZ from rfl,show Ir=ZZ from rfl,show Iu=ZZ from rfl]
 simp only [Zk,Zf,cond_true,cond_false,Zj,Zr,Zb,Zw,condC,Zl,Zm,Zx,ZR,Yb,ZQ,hE,hF,lp,OL,F10]
 cases u.e <;> cases u.f <;> simp only [Zk,Zf,cond_true,cond_false,Zj,Zr,Zb,Zw,condC,Zl,Zm,Zx,ZR,Yb,ZQ,decide_true,Bool.true_and,Bool.and_true,Bool.and_false,if_true,if_false,Bool.false_eq_true] <;> simp only [Yt,XF,if_true,if_false,Bool.false_eq_true,ne_eq,decide_not,gt_iff_lt,ge_iff_le] <;> (repeat' split) <;> first | rfl | simp_all
theorem Zfi (L:Nat)(s:Zd)(h:ZB s)(hL:SizeOf.sizeOf s≤L)(h1:100≤L):G7 L (s,())=some (PO s):=by
 have:=Fv s; have:=TN s
 have hn:=JV L s.Name (by have:=h.Name; unfold Len; omega) (by have:=Z4 s.Name; omega) h1
 have ho:=JV L s.Of (by have:=h.Of; unfold Len; omega) (by have:=Z4 s.Of; omega) h1
 have hD:=JU L s.Dist h.Dist (by omega)
 rw [← Zdc]
 simp only [Zbg,Zf4,Zr,show (F10 (Q4 s.Op).1).1=(Q4 s.Op).1.name from rfl,show (F10 (Q4 s.Op).1).2=(Q4 s.Op).1.of from rfl,show (F10 (Q4 s.Op).1).6=(Q4 s.Op).1.dist from rfl]
 simp only [Zk,Zf,cond_true,cond_false,Zj,Zr,Zb,Zw,condC,Zl,Zm,Zx,ZR,Yb,ZQ,ZbO L s h hL,hn,ho,hD,Zdh L s _ h hL h1,Zfg,Bg]; simp only [Yt,XF,if_true,if_false,Bool.false_eq_true,ne_eq,decide_not,gt_iff_lt,ge_iff_le]
theorem MM.s {l:List Zd}(h:MM l){x:Zd}(hx:x ∈ l):ZB x∧MM x.Body∧MM x.Else:=⟨h.2 x hx,(h.2 x hx).b.1,(h.2 x hx).b.2⟩
theorem ZdG (c x:Bool):(if c=true then true else x)=(c || x):=by cases c <;> rfl
theorem BG (L:Nat)(h1:100≤L):∀ (m:Nat) (l:List Zd),MM l→SizeOf.sizeOf l≤m→m≤L→WX L m (l,())=some (Y5 l)
 | 0,e,h,hs,_=>absurd hs (by have:=Zbn e; omega)
 | m + 1,l,h,hs,hm=>by
  have hk:=Z4 l; have hl:=h.1
  rw [Nw]
  refine SB l (fun l=>some (Y5 l)) (by omega) (fun self i x r hx hi mem e'=>?_) (fun self=>?_)
  ·have hz:=Zd4 mem
   obtain ⟨o1,o2,o3⟩:=h.s mem
   have ih1:=BG L h1 m x.Body o2 (by omega) (by omega)
   have ih2:=BG L h1 m x.Else o3 (by omega) (by omega)
   rw [V5,Y5,Sm]
   simp only [Zk,Zf,cond_true,cond_false,Zj,Zr,Zb,Zw,condC,Zl,Zm,Zx,ZR,Yb,ZQ,hi,hx,Zew,Zeh L x _ o1 (by omega),Zdl L x _ o1 (by omega) h1,ih1,ih2,wrap_succ hi (by omega),e']; simp only [Yt,XF,if_true,if_false,Bool.false_eq_true,ne_eq,decide_not,gt_iff_lt,ge_iff_le,ZdG]
   have:_=if decide ((if decide (PO x≠0)=true then PO x else if decide (Y5 x.Body≠0)=true then Y5 x.Body else Y5 x.Else)≠0)=true then (if decide (PO x≠0)=true then PO x else if decide (Y5 x.Body≠0)=true then Y5 x.Body else Y5 x.Else) else Y5 r:=ZcI (!(Q4 x.Op).2 || !(PE x (Q4 x.Op).1)) (Ro x (Q4 x.Op).1) (Y5 x.Body) (Y5 x.Else) (Y5 r)
   simp only [ne_eq,decide_not] at this
   rw [this]
  ·rw [V5]; simp only [Zk,Zf,cond_true,cond_false,Zj,Zr,Zb,Zw,condC,Zl,Zm,Zx,ZR,Yb,ZQ,Y5]
theorem SN (L:Nat)(h1:100≤L):∀ (m:Nat) (l:List Zd),MM l→SizeOf.sizeOf l≤m→m≤L→Qc L m (l,())=some (Y5 l)
 | 0,e,h,hs,_=>absurd hs (by have:=Zbn e; omega)
 | m + 1,l,h,hs,hm=>by
  have hk:=Z4 l; have hl:=h.1
  rw [Zab]
  refine SB l (fun l=>some (Y5 l)) (by omega) (fun self i x r hx hi mem e'=>?_) (fun self=>?_)
  ·have hz:=Zd4 mem
   obtain ⟨o1,o2,o3⟩:=h.s mem
   have ih1:=SN L h1 m x.Body o2 (by omega) (by omega)
   have ih2:=SN L h1 m x.Else o3 (by omega) (by omega)
   rw [UB,Y5,Sm]
   simp only [Zk,Zf,cond_true,cond_false,Zj,Zr,Zb,Zw,condC,Zl,Zm,Zx,ZR,Yb,ZQ,hi,hx,Zfi L x o1 (by omega) h1,ih1,ih2,wrap_succ hi (by omega),e']; simp only [Yt,XF,if_true,if_false,Bool.false_eq_true,ne_eq,decide_not,gt_iff_lt,ge_iff_le]
   have:=ZcJ (PO x) (Y5 x.Body) (Y5 x.Else) (Y5 r)
   simp only [ne_eq,decide_not] at this
   rw [← this]
   by_cases a:PO x=0 <;> by_cases b:Y5 x.Body=0 <;> by_cases c:Y5 x.Else=0 <;> simp [a,b,c]
  ·rw [UB]; simp only [Zk,Zf,cond_true,cond_false,Zj,Zr,Zb,Zw,condC,Zl,Zm,Zx,ZR,Yb,ZQ,Y5]
theorem Tj (L:Nat):∀ (m:Nat) (l:List Zd),MM l→SizeOf.sizeOf l≤m→m≤L→WW L m (l,())=some (U2 l 0)
 | 0,e,h,hs,_=>absurd hs (by have:=Zbn e; omega)
 | m + 1,l,h,hs,hm=>by
  have hk:=Z4 l; have hl:=h.1
  rw [Nv]
  refine Bq l (fun l n=>some (U2 l n)) (by omega) 0 (fun self n i x r hx hi mem e'=>?_) (fun self n=>?_)
  ·have hz:=Zd4 mem
   obtain ⟨o1,o2,o3⟩:=h.s mem
   have ih1:=Tj L m x.Body o2 (by omega) (by omega)
   have ih2:=Tj L m x.Else o3 (by omega) (by omega)
   rw [V4,U2,Za8]
   simp only [Zk,Zf,cond_true,cond_false,Zj,Zr,Zb,Zw,condC,Zl,Zm,Zx,ZR,Yb,ZQ,hi,hx,ih1,ih2,wrap_succ hi (by omega),e',mx3]
  ·rw [V4]; simp only [Zk,Zf,cond_true,cond_false,Zj,Zr,Zb,Zw,condC,Zl,Zm,Zx,ZR,Yb,ZQ,U2]
theorem Hf (L:Nat):∀ (m:Nat) (l:List Zd),MM l→SizeOf.sizeOf l≤m→m≤L→Qx L m (l,())=some (U2 l 0)
 | 0,e,h,hs,_=>absurd hs (by have:=Zbn e; omega)
 | m + 1,l,h,hs,hm=>by
  have hk:=Z4 l; have hl:=h.1
  rw [Em]
  refine Bq l (fun l n=>some (U2 l n)) (by omega) 0 (fun self n i x r hx hi mem e'=>?_) (fun self n=>?_)
  ·have hz:=Zd4 mem
   obtain ⟨o1,o2,o3⟩:=h.s mem
   have ih1:=Hf L m x.Body o2 (by omega) (by omega)
   have ih2:=Hf L m x.Else o3 (by omega) (by omega)
   rw [J4,U2,Za8]
   simp only [Zk,Zf,cond_true,cond_false,Zj,Zr,Zb,Zw,condC,Zl,Zm,Zx,ZR,Yb,ZQ,hi,hx,ih1,ih2,wrap_succ hi (by omega),e',mx3]
  ·rw [J4]; simp only [Zk,Zf,cond_true,cond_false,Zj,Zr,Zb,Zw,condC,Zl,Zm,Zx,ZR,Yb,ZQ,U2]
theorem Ti (L:Nat):∀ (m:Nat) (l:List Zd),MM l→SizeOf.sizeOf l≤m→m≤L→WV L m (l,())=some (XL l (l.length:Int))
 | 0,e,h,hs,_=>absurd hs (by have:=Zbn e; omega)
 | m + 1,l,h,hs,hm=>by
  have hk:=Z4 l; have hl:=h.1
  rw [Nu]
  refine Bq l (fun l n=>some (XL l n)) (by omega) _ (fun self n i x r hx hi mem e'=>?_) (fun self n=>?_)
  ·have hz:=Zd4 mem
   obtain ⟨o1,o2,o3⟩:=h.s mem
   have ih1:=Ti L m x.Body o2 (by omega) (by omega)
   have ih2:=Ti L m x.Else o3 (by omega) (by omega)
   rw [V3,XL,ZcL]
   simp only [Zk,Zf,cond_true,cond_false,Zj,Zr,Zb,Zw,condC,Zl,Zm,Zx,ZR,Yb,ZQ,hi,hx,ih1,ih2,wrap_succ hi (by omega),e']
  ·rw [V3]; simp only [Zk,Zf,cond_true,cond_false,Zj,Zr,Zb,Zw,condC,Zl,Zm,Zx,ZR,Yb,ZQ,XL]
theorem Td (L:Nat):∀ (m:Nat) (l:List Zd),MM l→SizeOf.sizeOf l≤m→m≤L→Qw L m (l,())=some (Xa l 0)
 | 0,e,h,hs,_=>absurd hs (by have:=Zbn e; omega)
 | m + 1,l,h,hs,hm=>by
  have hk:=Z4 l; have hl:=h.1
  rw [Ej]
  refine Bq l (fun l n=>some (Xa l n)) (by omega) _ (fun self n i x r hx hi mem e'=>?_) (fun self n=>?_)
  ·have hz:=Zd4 mem
   obtain ⟨o1,o2,o3⟩:=h.s mem
   have ih1:=Td L m x.Body o2 (by omega) (by omega)
   have ih2:=Td L m x.Else o3 (by omega) (by omega)
   rw [J3,Xa,Za5]
   simp only [Zk,Zf,cond_true,cond_false,Zj,Zr,Zb,Zw,condC,Zl,Zm,Zx,ZR,Yb,ZQ,hi,hx,ih1,ih2,wrap_succ hi (by omega),e']
  ·rw [J3]; simp only [Zk,Zf,cond_true,cond_false,Zj,Zr,Zb,Zw,condC,Zl,Zm,Zx,ZR,Yb,ZQ,Xa]
theorem ZbT (L:Nat)(h1:100≤L)(l:List Zd)(h:MM l)(hL:SizeOf.sizeOf l≤L):X6 L (l,())=some (Ui l):=by
 simp only [Zk,Zf,cond_true,cond_false,Zj,Zr,Zb,Zw,condC,Zl,Zm,Zx,ZR,Yb,ZQ,Ns,show JQ L (l,())=_ from Ti L L l h hL (Nat.le_refl _),show JR L (l,())=_ from Tj L L l h hL (Nat.le_refl _),show JS L (l,())=_ from BG L h1 L l h hL (Nat.le_refl _),Ui]; simp only [Yt,XF,if_true,if_false,Bool.false_eq_true,ne_eq,decide_not,gt_iff_lt,ge_iff_le]
theorem PT (L:Nat)(h1:100≤L)(l:List Zd)(h:MM l)(hL:SizeOf.sizeOf l≤L):Xm L (l,())=some (Ui l):=by
 rw [← Cf l (by have:=h.1; omega)]
 simp only [Zk,Zf,cond_true,cond_false,Zj,Zr,Zb,Zw,condC,Zl,Zm,Zx,ZR,Yb,ZQ,Ei,show UW L (l,())=_ from Td L L l h hL (Nat.le_refl _),show UX L (l,())=_ from Hf L L l h hL (Nat.le_refl _),show Hu L (l,())=_ from SN L h1 L l h hL (Nat.le_refl _),Sl]; simp only [Yt,XF,if_true,if_false,Bool.false_eq_true,ne_eq,decide_not,gt_iff_lt,ge_iff_le]
end Go.Proofs.YtbcfddaocfpckaaGreatDoor
end
