import Derived.Deep.Slices
import Derived.ChangeArms
import Derived.DataReads
import Derived.WideKeyArgs
import Derived.SizedLaws
import Derived.Test.YtlmfmmclnboglaaGreatProg
import Derived.ProofKit
import Derived.LoopN
import Derived.Scope
import Derived.Orders
import Derived.Shelf.Spec.SlicesGrow
import Derived.Test.YtlmfmmclnboglaaGreatS4
set_option linter.all false
section
namespace Go.Proofs.YtlmfmmclnboglaaGreat
open Go Go.RowKit Go.Proofs.YtlmfmmclnboglaaGreat.Abs
open Nat (reduceAdd reduceLeDiff)
set_option maxRecDepth 100000
set_option maxHeartbeats 0
theorem G9 (x0 x1:List Xw):Yx x0 x1=some (eqv x0 x1):=by
 refine CJ (fun r q=>Zw x1 Yu r q) x0 x1 (fun q=>by simp only [Zw,Yu]) (fun x y r q h=>?_)
 simp only [Zw,h,Zj,Ju,X9]
 try (cases eqv x y <;> rfl)
theorem Zrd (x0 x1:List Xw):DX x0 x1=some (eqv x0 x1):=by
 refine CJ (fun r q=>JO x1 Tm r q) x0 x1 (fun q=>by simp only [JO,Tm]) (fun x y r q h=>?_)
 simp only [JO,h,Zj,Ju,X9]
 try (cases eqv x y <;> rfl)
theorem ZxH (R:List YY→List YY→Option Bool)(x y:YY)(h1:R x.Body y.Body=some (eqv x.Body y.Body))(h2:R x.Else y.Else=some (eqv x.Else y.Else)):Ov R x y=some (eqv x y):=by
 simp only [Ov,G9,h1,h2,Zj,X9,Zye]
 cases eqv x.Op y.Op <;> cases eqv x.Name y.Name <;> cases eqv x.Of y.Of <;> cases eqv x.E y.E <;> cases eqv x.F y.F <;> cases eqv x.Args y.Args <;> cases eqv x.Dist y.Dist <;> cases eqv x.Flag y.Flag <;> cases eqv x.Body y.Body <;> cases eqv x.Else y.Else <;> rfl
theorem ZxG (R:List YY→List YY→Option Bool)(x0 x1:List YY)(h:∀ x ∈ x0,∀ y:YY,R x.Body y.Body=some (eqv x.Body y.Body)∧R x.Else y.Else=some (eqv x.Else y.Else)):Yz R x0 x1=some (eqv x0 x1):=by
 have hc:=fun (x:YY) (hx:x ∈ x0) (y:YY)=>ZxH R x y (h x hx y).1 (h x hx y).2
 exact Z7o (fun x y=>Ov R x y) (fun k r q=>Z4 R x1 k r q) x0 x1 (fun _ _=>rfl) (fun _ _ _ _=>rfl) (fun x hx y _=>hc x hx y)
theorem ZtU:∀ (n:Nat) (a b:List YY),SizeOf.sizeOf a≤n→Eh n a b=some (eqv a b)
 | 0,a,_,h=>absurd h (by cases a <;> simp)
 | n + 1,a,b,h=>by
  have k:=ZxG (Eh n) a b (fun x hx y=>by
   have h1:=List.sizeOf_lt_of_mem hx
   have h2:=ZdR x
   have h3:=ZdS x
   exact ⟨ZtU n _ _ (by omega),ZtU n _ _ (by omega)⟩)
  simp only [Eh,Zdu,k,Zj]
theorem Zxk {C:Cfg}(hC:Sr C)(N:Nat)(a b:List YY)(hN:6 * SizeOf.sizeOf a≤N)(hp:HP)(o1:a.length * 312≤140737488351232∧∀ y ∈ a,XJ y)(o2:b.length * 312≤140737488351232∧∀ y ∈ b,XJ y):Za C N Lm [.lst 21 (a.map WE),.lst 21 (b.map WE)] hp=some (.bool (eqv a b),hp,none) :=
 ZrN hC (SizeOf.sizeOf a) N a b (by omega) hp o1 o2 (ZtU _ a b (Nat.le_refl _))
theorem ZyA (R:List YY→List YY→Option Bool)(x0 x1:List YY)(k:Option Bool)(h:∀ x ∈ x0,∀ y:YY,R x.Body y.Body=some (eqv x.Body y.Body)∧R x.Else y.Else=some (eqv x.Else y.Else)) :
  ∀ (r1 r2 q1 q2:List YY),x0=q1 ++ r1→x1=q2 ++ r2→q1.length=q2.length→r1.length=r2.length→JB R x1 k r1 q1=if eqv r1 r2=true then k else some false
 | [],[],_,_,_,_,_,_=>by simp only [JB,Zf7,if_true]
 | [],_ :: _,_,_,_,_,_,h=>by simp at h
 | _ :: _,[],_,_,_,_,_,h=>by simp at h
 | x :: r1,y :: r2,q1,q2,h0,h1,h2,h3=>by
  have e1:PN x1 (q1.length:Int)=some y:=by rw [Zuw,h1,h2]; simp
  have ih:=ZyA R x0 x1 k h r1 r2 (q1 ++ [x]) (q2 ++ [y]) (by simp [h0]) (by simp [h1]) (by simp [h2]) (by simpa using h3)
  obtain ⟨k1,k2⟩:=h x (by rw [h0]; simp) y
  simp only [JB,e1,Zj,Zrd,k1,k2,ih,X9,Ju,Zpk,Zye]
  cases eqv x.Op y.Op <;> cases eqv x.Name y.Name <;> cases eqv x.Of y.Of <;> cases eqv x.E y.E <;> cases eqv x.F y.F <;> cases eqv x.Args y.Args <;> cases eqv x.Dist y.Dist <;> cases eqv x.Flag y.Flag <;> cases eqv x.Body y.Body <;> cases eqv x.Else y.Else <;> simp
theorem ZwW:∀ (n:Nat) (a b:List YY),SizeOf.sizeOf a≤n→Dz n a b=some (eqv a b)
 | 0,a,_,h=>absurd h (by cases a <;> simp)
 | n + 1,a,b,h=>by
  have hr:∀ x ∈ a,∀ y:YY,Dz n x.Body y.Body=some (eqv x.Body y.Body)∧Dz n x.Else y.Else=some (eqv x.Else y.Else):=fun x hx y=>by
   have h1:=List.sizeOf_lt_of_mem hx
   have h2:=ZdR x
   have h3:=ZdS x
   exact ⟨ZwW n _ _ (by omega),ZwW n _ _ (by omega)⟩
  by_cases hl:a.length=b.length
  ·have k:=ZyA (Dz n) a b (PT) hr a b [] [] rfl rfl rfl hl
   simp only [PT] at k
   simp only [Dz,Zc8,ZjG,hl,decide_true,Bool.not_true,Bool.false_eq_true,if_false,k,PT]
   cases eqv a b <;> rfl
  ·simp only [Dz,Zc8,ZjG,hl,decide_false,Bool.not_false,if_true,ZhY hl]
theorem Zzy {C:Cfg}(hC:Sr C)(N:Nat)(a b:List YY)(hN:5 * SizeOf.sizeOf a≤N)(hp:HP)(o1:a.length * 312≤140737488351232∧∀ y ∈ a,XJ y)(o2:b.length * 312≤140737488351232∧∀ y ∈ b,XJ y):Za C N ES [.lst 21 (a.map WE),.lst 21 (b.map WE)] hp=some (.bool (eqv a b),hp,none) :=
 ZtT hC (SizeOf.sizeOf a) N a b (by omega) hp o1 o2 (ZwW _ a b (Nat.le_refl _))
end Go.Proofs.YtlmfmmclnboglaaGreat
end
section
namespace Go.Proofs.YtlmfmmclnboglaaGreat
open Go Go.RowKit Go.Proofs.YtlmfmmclnboglaaGreat.Abs
open Nat (reduceAdd reduceLeDiff)
set_option maxRecDepth 100000
set_option maxHeartbeats 0
noncomputable def YL (x1:List Uy)(k0T:Option Bool):List Uy→List Uy→Option Bool
 | [],q0=>k0T
 | x0 :: r0,q0=>Jp (PN x1 (q0.length:Int)) fun y2=>if (!(eqv x0 y2))=true then some false else (YL x1 k0T r0) (q0 ++ [x0])
theorem OZ {C:Cfg}(hC:Sr C)(M:Nat)(x0:List Uy)(x1:List Uy)(hM:0≤M)(hp0:HP)(okx1:OkL 32 ZcD x1)(hb:x0.length≤4611686018427387)(k0:HP→Eff→KR)(k0T:Option Bool)(hk0:HkB hp0 k0 k0T):∀ (r6 q6:List Uy) (m:Nat) (hp:HP),x0=q6 ++ r6→r6.length < m→hp0.length≤hp.length→∀ res,YL x1 k0T r6 q6=some res→WQ C.G (Za C M) C.L hp0 k0 m (.lst 3 (x0.map X7)) (.lst 3 (x1.map X7)) (.int .i64 (x0.length:Int)) (.int .i64 (q6.length:Int)) hp none=some ((AV.bool res),hp0,none)
 | _,_,0,_,_,h,_,_,_=>by omega
 | [],q6,m + 1,hp,h,hr,hh,res,hres=>by
  have l0:=lp0 h
  simp only [YL,IFJ] at hres
  have hx:=hk0  hp (by omega) res hres
  simp only [WQ,COL,FQ,Zcg,reduceAdd,reduceLeDiff,Nat.reduceBEq,l0,hx]
  try rfl
 | x6 :: r6,q6,m + 1,hp,h,hr,hh,res,hres=>by
  obtain ⟨a1,-,a3,a4,a5⟩:=lp (X7) h hb
  have me6:=a5
  have a2:(x0.map X7)[q6.length]? = some (X7 x6):=(lp (X7) h hb).2.1
  have ix6:Y4 (.slice 3) (.lst 3 (x0.map X7)) (.int .i64 (q6.length:Int))=some (.ref (X7 x6)):=by rw [Qu,a2]; rfl
  cases q8:PN x1 (q6.length:Int) with
  | none =>
   simp only [YL,IFJ,WT,q8] at hres; cases hres
  | some y7 =>
   have y7e:Y4 (.slice 3) (.lst 3 (x1.map X7)) (.int .i64 (q6.length:Int))=some (.ref (X7 y7)):=MR (row := X7) q8
   have oky7:=(okx1).2 _ (WJ q8)
   have memy7:=WJ q8
   rcases Bool.eq_false_or_eq_true ((!(eqv x6 y7))) with b9 | b9
   ·simp only [YL,IFJ,q8,Zj,b9] at hres
    cases hres
    simp only [WQ,COL,FQ,Zcg,reduceAdd,reduceLeDiff,Nat.reduceBEq,a1,a3,ix6,y7e,b9]
    try rfl
   ·simp only [YL,IFJ,q8,Zj,b9] at hres
    have hx:=OZ hC M x0 x1 hM hp0 okx1 hb k0 k0T hk0 r6 (q6 ++ [x6]) m hp a4 (by simpa using hr) (by omega) res hres
    simp only [WQ,COL,FQ,Zcg,reduceAdd,reduceLeDiff,Nat.reduceBEq,a1,a3,ix6,y7e,b9,hx]
    try rfl
def QY:Option Bool :=
 some true
noncomputable def Qm (x0:List Uy)(x1:List Uy):Option Bool :=
 if (decide ((x0.length:Int)≠(x1.length:Int)))=true then some false else YL x1 (QY) x0 []
theorem MW {C:Cfg}(hC:Sr C)(N:Nat)(x0:List Uy)(x1:List Uy)(hN:1≤N)(hp0:HP)(okx0:OkL 32 ZcD x0)(okx1:OkL 32 ZcD x1){res}(hres:Qm x0 x1=some res):Za C N JM [(.lst 3 (x0.map X7)),(.lst 3 (x1.map X7))] hp0=some ((AV.bool res),hp0,none):=by
 obtain ⟨M,rfl,hh⟩:=exM hp0 (by omega:1≤N)
 refine Ap (by rw [hC.T]; rfl) ?_
 rcases Bool.eq_false_or_eq_true ((decide ((x0.length:Int)≠(x1.length:Int)))) with b2 | b2
 ·simp only [Qm,IFJ,b2] at hres
  cases hres
  simp only [Vy,WP,COL,FQ,Zcg,reduceAdd,reduceLeDiff,Nat.reduceBEq,b2]
  try rfl
 ·simp only [Qm,IFJ,b2] at hres
  have hk3:∀ (hp3:HP),hp0.length≤hp3.length→∀ res,QY=some res→(WP C.G (Za C M) C.L hp0) hp3 none=some ((AV.bool res),hp0,none):=by
   intro hp3 hh3  res hres
   simp only [QY,IFJ] at hres
   cases hres
   simp only [Vy,WP,COL,FQ,Zcg,reduceAdd,reduceLeDiff,Nat.reduceBEq,b2]
   try rfl
  have hb':x0.length≤4611686018427387:=(by have:=(okx0).1; omega)
  have hx:=OZ hC M x0 x1 (by omega) hp0 okx1 hb' (WP C.G (Za C M) C.L hp0) (QY) hk3 x0 [] C.L hp0 rfl (by have:=hC.L; omega) (by omega) res hres
  try simp only [NIL] at hx
  simp only [Vy,WP,COL,FQ,Zcg,reduceAdd,reduceLeDiff,Nat.reduceBEq,b2,hx]
  try rfl
noncomputable def Y8 (x1:List Kq)(k0T:Option Bool):List Kq→List Kq→Option Bool
 | [],q0=>k0T
 | x0 :: r0,q0=>Jp (PN x1 (q0.length:Int)) fun y2=>if (!(eqv x0 y2))=true then some false else (Y8 x1 k0T r0) (q0 ++ [x0])
theorem IU {C:Cfg}(hC:Sr C)(M:Nat)(x0:List Kq)(x1:List Kq)(hM:0≤M)(hp0:HP)(okx1:OkL 16 ZkP x1)(hb:x0.length≤4611686018427387)(k0:HP→Eff→KR)(k0T:Option Bool)(hk0:HkB hp0 k0 k0T):∀ (r6 q6:List Kq) (m:Nat) (hp:HP),x0=q6 ++ r6→r6.length < m→hp0.length≤hp.length→∀ res,Y8 x1 k0T r6 q6=some res→Wy C.G (Za C M) C.L hp0 k0 m (.lst 2 (x0.map Vg)) (.lst 2 (x1.map Vg)) (.int .i64 (x0.length:Int)) (.int .i64 (q6.length:Int)) hp none=some ((AV.bool res),hp0,none)
 | _,_,0,_,_,h,_,_,_=>by omega
 | [],q6,m + 1,hp,h,hr,hh,res,hres=>by
  have l0:=lp0 h
  simp only [Y8,IFJ] at hres
  have hx:=hk0  hp (by omega) res hres
  simp only [Wy,COL,N8,FO,reduceAdd,reduceLeDiff,Nat.reduceBEq,l0,hx]
  try rfl
 | x6 :: r6,q6,m + 1,hp,h,hr,hh,res,hres=>by
  obtain ⟨a1,-,a3,a4,a5⟩:=lp (Vg) h hb
  have me6:=a5
  have a2:(x0.map Vg)[q6.length]? = some (Vg x6):=(lp (Vg) h hb).2.1
  have ix6:Y4 (.slice 2) (.lst 2 (x0.map Vg)) (.int .i64 (q6.length:Int))=some (.ref (Vg x6)):=by rw [Qu,a2]; rfl
  cases q8:PN x1 (q6.length:Int) with
  | none =>
   simp only [Y8,IFJ,WT,q8] at hres; cases hres
  | some y7 =>
   have y7e:Y4 (.slice 2) (.lst 2 (x1.map Vg)) (.int .i64 (q6.length:Int))=some (.ref (Vg y7)):=MR (row := Vg) q8
   have oky7:=(okx1).2 _ (WJ q8)
   have memy7:=WJ q8
   rcases Bool.eq_false_or_eq_true ((!(eqv x6 y7))) with b9 | b9
   ·simp only [Y8,IFJ,q8,Zj,b9] at hres
    cases hres
    simp only [Wy,COL,N8,FO,reduceAdd,reduceLeDiff,Nat.reduceBEq,a1,a3,ix6,y7e,b9]
    try rfl
   ·simp only [Y8,IFJ,q8,Zj,b9] at hres
    have hx:=IU hC M x0 x1 hM hp0 okx1 hb k0 k0T hk0 r6 (q6 ++ [x6]) m hp a4 (by simpa using hr) (by omega) res hres
    simp only [Wy,COL,N8,FO,reduceAdd,reduceLeDiff,Nat.reduceBEq,a1,a3,ix6,y7e,b9,hx]
    try rfl
def QI:Option Bool :=
 some true
noncomputable def Xe (x0:List Kq)(x1:List Kq):Option Bool :=
 if (decide ((x0.length:Int)≠(x1.length:Int)))=true then some false else Y8 x1 (QI) x0 []
theorem Aq {C:Cfg}(hC:Sr C)(N:Nat)(x0:List Kq)(x1:List Kq)(hN:1≤N)(hp0:HP)(okx0:OkL 16 ZkP x0)(okx1:OkL 16 ZkP x1){res}(hres:Xe x0 x1=some res):Za C N Kr [(.lst 2 (x0.map Vg)),(.lst 2 (x1.map Vg))] hp0=some ((AV.bool res),hp0,none):=by
 obtain ⟨M,rfl,hh⟩:=exM hp0 (by omega:1≤N)
 refine SX (by rw [hC.T]; rfl) ?_
 rcases Bool.eq_false_or_eq_true ((decide ((x0.length:Int)≠(x1.length:Int)))) with b2 | b2
 ·simp only [Xe,IFJ,b2] at hres
  cases hres
  simp only [XU,Wx,COL,N8,FO,reduceAdd,reduceLeDiff,Nat.reduceBEq,b2]
  try rfl
 ·simp only [Xe,IFJ,b2] at hres
  have hk3:∀ (hp3:HP),hp0.length≤hp3.length→∀ res,QI=some res→(Wx C.G (Za C M) C.L hp0) hp3 none=some ((AV.bool res),hp0,none):=by
   intro hp3 hh3  res hres
   simp only [QI,IFJ] at hres
   cases hres
   simp only [XU,Wx,COL,N8,FO,reduceAdd,reduceLeDiff,Nat.reduceBEq,b2]
   try rfl
  have hb':x0.length≤4611686018427387:=(by have:=(okx0).1; omega)
  have hx:=IU hC M x0 x1 (by omega) hp0 okx1 hb' (Wx C.G (Za C M) C.L hp0) (QI) hk3 x0 [] C.L hp0 rfl (by have:=hC.L; omega) (by omega) res hres
  try simp only [NIL] at hx
  simp only [XU,Wx,COL,N8,FO,reduceAdd,reduceLeDiff,Nat.reduceBEq,b2,hx]
  try rfl
noncomputable def U0 (x0:Zy)(x1:Zy):Option Bool :=
 if (((decide (x0.Name=x1.Name)) && (decide (x0.Units=x1.Units))) && (decide (x0.Cycle=x1.Cycle)))=true then (Jp ((Xe x0.Shift x1.Shift)) fun v2=>some (((v2 && (decide (x0.Fault.Stream=x1.Fault.Stream))) && (eqv x0.Fault.Up x1.Fault.Up)) && (eqv x0.Fault.Down x1.Fault.Down))) else some false
theorem ZiU {C:Cfg}(hC:Sr C)(N:Nat)(x0:Zy)(x1:Zy)(hN:3≤N)(hp0:HP)(okx0:VF x0)(okx1:VF x1){res}(hres:U0 x0 x1=some res):Za C N KL [(.agg (Zh x0)),(.agg (Zh x1))] hp0=some ((AV.bool res),hp0,none):=by
 obtain ⟨M,rfl,hh⟩:=exM hp0 (by omega:1≤N)
 refine Zg6 (by rw [hC.T]; rfl) ?_
 obtain ⟨h2,hh2,g3,l4⟩:=mkH hp0 (Z5.cells (Zh x0) Yj)
 obtain ⟨h5,hh5,g6,l7⟩:=mkH h2 (Z5.cells (Zh x1) Yj)
 have g8:=keA hh5 g3
 rcases Bool.eq_false_or_eq_true ((((decide (x0.Name=x1.Name)) && (decide (x0.Units=x1.Units))) && (decide (x0.Cycle=x1.Cycle)))) with b9 | b9
 ·cases q12:(Xe x0.Shift x1.Shift) with
  | none =>
   simp only [U0,IFJ,WT,b9,q12] at hres; cases hres
  | some v11 =>
   have c10:=fun hp:HP=>Aq hC M x0.Shift x1.Shift (by omega) hp okx0.Shift okx1.Shift q12
   have e13:Zt h5 6 (.ptr hp0.length 5)=some (.agg (H8 x0.Fault.Up)):=Ti g8 (by rw [X4]; omega) (by first | exact rResourceDecl_at_Up _ | rfl | (simp only [rResourceDecl_eq]; rfl)) (by exact PQ _)
   have e14:Zt h5 6 (.ptr h2.length 5)=some (.agg (H8 x1.Fault.Up)):=Ti g6 (by rw [X4]; omega) (by first | exact rResourceDecl_at_Up _ | rfl | (simp only [rResourceDecl_eq]; rfl)) (by exact PQ _)
   have c15:=fun hp:HP=>Zf3 hC.toI8 M (by omega) hp x0.Fault.Up x1.Fault.Up okx0.Fault.Up okx1.Fault.Up
   have e16:Zt h5 6 (.ptr hp0.length 11)=some (.agg (H8 x0.Fault.Down)):=Ti g8 (by rw [X4]; omega) (by first | exact rResourceDecl_at_Down _ | rfl | (simp only [rResourceDecl_eq]; rfl)) (by exact PQ _)
   have e17:Zt h5 6 (.ptr h2.length 11)=some (.agg (H8 x1.Fault.Down)):=Ti g6 (by rw [X4]; omega) (by first | exact rResourceDecl_at_Down _ | rfl | (simp only [rResourceDecl_eq]; rfl)) (by exact PQ _)
   have c18:=fun hp:HP=>Zf3 hC.toI8 M (by omega) hp x0.Fault.Down x1.Fault.Down okx0.Fault.Down okx1.Fault.Down
   simp only [U0,IFJ,b9,q12,Zj] at hres
   cases hres
   simp only [AB,COL,Dc,ZL,reduceAdd,reduceLeDiff,Nat.reduceBEq,hh2,hh5,LG g8,LG g6,b9,c10,e13,e14,c15,e16,e17,c18]
   try rfl
 ·simp only [U0,IFJ,b9] at hres
  cases hres
  simp only [AB,COL,Dc,ZL,reduceAdd,reduceLeDiff,Nat.reduceBEq,hh2,hh5,LG g8,LG g6,b9]
  try rfl
noncomputable def Ze (x1:List Zy)(k0T:Option Bool):List Zy→List Zy→Option Bool
 | [],q0=>k0T
 | x0 :: r0,q0=>Jp (PN x1 (q0.length:Int)) fun y2=>Jp ((U0 x0 y2)) fun v3=>if (!v3)=true then some false else (Ze x1 k0T r0) (q0 ++ [x0])
theorem WI {C:Cfg}(hC:Sr C)(M:Nat)(x0:List Zy)(x1:List Zy)(hM:3≤M)(hp0:HP)(okx0:OkL 232 VF x0)(okx1:OkL 232 VF x1)(hb:x0.length≤4611686018427387)(k0:HP→Eff→KR)(k0T:Option Bool)(hk0:HkB hp0 k0 k0T):∀ (r6 q6:List Zy) (m:Nat) (hp:HP),x0=q6 ++ r6→r6.length < m→hp0.length≤hp.length→∀ res,Ze x1 k0T r6 q6=some res→Zq C.G (Za C M) C.L hp0 k0 m (.lst 17 (x1.map Zh)) (.fn KL [] []) (.lst 17 (x0.map Zh)) (.int .i64 (x0.length:Int)) (.int .i64 (q6.length:Int)) hp none=some ((AV.bool res),hp0,none)
 | _,_,0,_,_,h,_,_,_=>by omega
 | [],q6,m + 1,hp,h,hr,hh,res,hres=>by
  have l0:=lp0 h
  simp only [Ze,IFJ] at hres
  have hx:=hk0  hp (by omega) res hres
  simp only [Zq,COL,ZL,reduceAdd,reduceLeDiff,Nat.reduceBEq,l0,hx]
  try rfl
 | x6 :: r6,q6,m + 1,hp,h,hr,hh,res,hres=>by
  obtain ⟨a1,-,a3,a4,a5⟩:=lp (Zh) h hb
  have me6:=a5
  have a2:(x0.map Zh)[q6.length]? = some (Zh x6):=(lp (Zh) h hb).2.1
  have okx6:=(okx0).2 _ a5
  have ix6:Y4 (.slice 17) (.lst 17 (x0.map Zh)) (.int .i64 (q6.length:Int))=some (.ref (Zh x6)):=by rw [Qu,a2]; rfl
  obtain ⟨h7,hh7,g8,l9⟩:=mkH hp (Z5.cells [(.str []),(.int .i64 0),(.own 2 []),(.int .i64 0),(.str []),(.int .i64 0),(.int .i64 0),(.int .i64 0),(.int .i64 0),(.own 1 []),(.own 1 []),(.int .i64 0),(.int .i64 0),(.int .i64 0),(.int .i64 0),(.own 1 []),(.own 1 [])] Yj)
  obtain ⟨h10,hh10,g11,l12⟩:=seH g8 (Z5.cells (Zh x6) Yj)
  have e13:stV hp0.length 17 (.ptr hp.length 0) (.agg (Zh x6)) h7 none=some (h10,none):=by rw [← hh10]; exact DW g8 (by first | rfl | exact X4 _) (by simp) rfl (by omega) (by rw [Gx]; exact UH (by exact X4 _) (by rfl))
  cases q15:PN x1 (q6.length:Int) with
  | none =>
   simp only [Ze,IFJ,WT,q15] at hres; cases hres
  | some y14 =>
   have y14e:Y4 (.slice 17) (.lst 17 (x1.map Zh)) (.int .i64 (q6.length:Int))=some (.ref (Zh y14)):=MR (row := Zh) q15
   have oky14:=(okx1).2 _ (WJ q15)
   have memy14:=WJ q15
   obtain ⟨h16,hh16,g17,l18⟩:=mkH h10 (Z5.cells [(.str []),(.int .i64 0),(.own 2 []),(.int .i64 0),(.str []),(.int .i64 0),(.int .i64 0),(.int .i64 0),(.int .i64 0),(.own 1 []),(.own 1 []),(.int .i64 0),(.int .i64 0),(.int .i64 0),(.int .i64 0),(.own 1 []),(.own 1 [])] Yj)
   have g19:=keA hh16 g11
   obtain ⟨h20,hh20,g21,l22⟩:=seH g17 (Z5.cells (Zh y14) Yj)
   have g23:=keS hh20 g19 (by omega)
   have e24:stV hp0.length 17 (.ptr h10.length 0) (.agg (Zh y14)) h16 none=some (h20,none):=by rw [← hh20]; exact DW g17 (by first | rfl | exact X4 _) (by simp) rfl (by omega) (by rw [Gx]; exact UH (by exact X4 _) (by rfl))
   have e25:Uo (Za C M) (.fn KL [] []) [(.agg (Zh x6)),(.agg (Zh y14))] h20=Za C M KL [(.agg (Zh x6)),(.agg (Zh y14))] h20:=rfl
   cases q28:(U0 x6 y14) with
   | none =>
    simp only [Ze,IFJ,WT,q15,Zj,q28] at hres; cases hres
   | some v27 =>
    have c26:=fun hp:HP=>ZiU hC M x6 y14 (by omega) hp okx6 oky14 q28
    rcases Bool.eq_false_or_eq_true ((!v27)) with b29 | b29
    ·simp only [Ze,IFJ,q15,Zj,q28,b29] at hres
     cases hres
     simp only [Zq,COL,ZL,reduceAdd,reduceLeDiff,Nat.reduceBEq,a1,a3,ix6,hh7,e13,y14e,hh16,e24,LG g23,LG g21,e25,c26,b29]
     try rfl
    ·simp only [Ze,IFJ,q15,Zj,q28,b29] at hres
     have hx:=WI hC M x0 x1 hM hp0 okx0 okx1 hb k0 k0T hk0 r6 (q6 ++ [x6]) m h20 a4 (by simpa using hr) (by omega) res hres
     simp only [Zq,COL,ZL,reduceAdd,reduceLeDiff,Nat.reduceBEq,a1,a3,ix6,hh7,e13,y14e,hh16,e24,LG g23,LG g21,e25,c26,b29,hx]
     try rfl
def Zv:Option Bool :=
 some true
noncomputable def Zx (x0:List Zy)(x1:List Zy):Option Bool :=
 if (decide ((x0.length:Int)≠(x1.length:Int)))=true then some false else Ze x1 (Zv) x0 []
theorem XQ {C:Cfg}(hC:Sr C)(N:Nat)(x0:List Zy)(x1:List Zy)(hN:4≤N)(hp0:HP)(okx0:OkL 232 VF x0)(okx1:OkL 232 VF x1){res}(hres:Zx x0 x1=some res):Za C N Wu [(.lst 17 (x0.map Zh)),(.lst 17 (x1.map Zh)),(.fn KL [] [])] hp0=some ((AV.bool res),hp0,none):=by
 obtain ⟨M,rfl,hh⟩:=exM hp0 (by omega:1≤N)
 refine Jk (by rw [hC.T]; rfl) ?_
 rcases Bool.eq_false_or_eq_true ((decide ((x0.length:Int)≠(x1.length:Int)))) with b2 | b2
 ·simp only [Zx,IFJ,b2] at hres
  cases hres
  simp only [Yb,Zp,COL,ZL,reduceAdd,reduceLeDiff,Nat.reduceBEq,b2]
  try rfl
 ·simp only [Zx,IFJ,b2] at hres
  have hk3:∀ (hp3:HP),hp0.length≤hp3.length→∀ res,Zv=some res→(Zp C.G (Za C M) C.L hp0) hp3 none=some ((AV.bool res),hp0,none):=by
   intro hp3 hh3  res hres
   simp only [Zv,IFJ] at hres
   cases hres
   simp only [Yb,Zp,COL,ZL,reduceAdd,reduceLeDiff,Nat.reduceBEq,b2]
   try rfl
  have hb':x0.length≤4611686018427387:=(by have:=(okx0).1; omega)
  have hx:=WI hC M x0 x1 (by omega) hp0 okx0 okx1 hb' (Zp C.G (Za C M) C.L hp0) (Zv) hk3 x0 [] C.L hp0 rfl (by have:=hC.L; omega) (by omega) res hres
  try simp only [NIL] at hx
  simp only [Yb,Zp,COL,ZL,reduceAdd,reduceLeDiff,Nat.reduceBEq,b2,hx]
  try rfl
noncomputable def Yp (x1:List Qr)(k0T:Option Bool):List Qr→List Qr→Option Bool
 | [],q0=>k0T
 | x0 :: r0,q0=>Jp (PN x1 (q0.length:Int)) fun y2=>if (!(eqv x0 y2))=true then some false else (Yp x1 k0T r0) (q0 ++ [x0])
theorem G5 {C:Cfg}(hC:Sr C)(M:Nat)(x0:List Qr)(x1:List Qr)(hM:0≤M)(hp0:HP)(okx1:OkL 32 ZaV x1)(hb:x0.length≤4611686018427387)(k0:HP→Eff→KR)(k0T:Option Bool)(hk0:HkB hp0 k0 k0T):∀ (r6 q6:List Qr) (m:Nat) (hp:HP),x0=q6 ++ r6→r6.length < m→hp0.length≤hp.length→∀ res,Yp x1 k0T r6 q6=some res→YI C.G (Za C M) C.L hp0 k0 m (.lst 3 (x0.map Yt)) (.lst 3 (x1.map Yt)) (.int .i64 (x0.length:Int)) (.int .i64 (q6.length:Int)) hp none=some ((AV.bool res),hp0,none)
 | _,_,0,_,_,h,_,_,_=>by omega
 | [],q6,m + 1,hp,h,hr,hh,res,hres=>by
  have l0:=lp0 h
  simp only [Yp,IFJ] at hres
  have hx:=hk0  hp (by omega) res hres
  simp only [YI,COL,YU,WB,reduceAdd,reduceLeDiff,Nat.reduceBEq,l0,hx]
  try rfl
 | x6 :: r6,q6,m + 1,hp,h,hr,hh,res,hres=>by
  obtain ⟨a1,-,a3,a4,a5⟩:=lp (Yt) h hb
  have me6:=a5
  have a2:(x0.map Yt)[q6.length]? = some (Yt x6):=(lp (Yt) h hb).2.1
  have ix6:Y4 (.slice 3) (.lst 3 (x0.map Yt)) (.int .i64 (q6.length:Int))=some (.ref (Yt x6)):=by rw [Qu,a2]; rfl
  cases q8:PN x1 (q6.length:Int) with
  | none =>
   simp only [Yp,IFJ,WT,q8] at hres; cases hres
  | some y7 =>
   have y7e:Y4 (.slice 3) (.lst 3 (x1.map Yt)) (.int .i64 (q6.length:Int))=some (.ref (Yt y7)):=MR (row := Yt) q8
   have oky7:=(okx1).2 _ (WJ q8)
   have memy7:=WJ q8
   rcases Bool.eq_false_or_eq_true ((!(eqv x6 y7))) with b9 | b9
   ·simp only [Yp,IFJ,q8,Zj,b9] at hres
    cases hres
    simp only [YI,COL,YU,WB,reduceAdd,reduceLeDiff,Nat.reduceBEq,a1,a3,ix6,y7e,b9]
    try rfl
   ·simp only [Yp,IFJ,q8,Zj,b9] at hres
    have hx:=G5 hC M x0 x1 hM hp0 okx1 hb k0 k0T hk0 r6 (q6 ++ [x6]) m hp a4 (by simpa using hr) (by omega) res hres
    simp only [YI,COL,YU,WB,reduceAdd,reduceLeDiff,Nat.reduceBEq,a1,a3,ix6,y7e,b9,hx]
    try rfl
def WZ:Option Bool :=
 some true
noncomputable def Qs (x0:List Qr)(x1:List Qr):Option Bool :=
 if (decide ((x0.length:Int)≠(x1.length:Int)))=true then some false else Yp x1 (WZ) x0 []
theorem Ph {C:Cfg}(hC:Sr C)(N:Nat)(x0:List Qr)(x1:List Qr)(hN:1≤N)(hp0:HP)(okx0:OkL 32 ZaV x0)(okx1:OkL 32 ZaV x1){res}(hres:Qs x0 x1=some res):Za C N JQ [(.lst 3 (x0.map Yt)),(.lst 3 (x1.map Yt))] hp0=some ((AV.bool res),hp0,none):=by
 obtain ⟨M,rfl,hh⟩:=exM hp0 (by omega:1≤N)
 refine Dk (by rw [hC.T]; rfl) ?_
 rcases Bool.eq_false_or_eq_true ((decide ((x0.length:Int)≠(x1.length:Int)))) with b2 | b2
 ·simp only [Qs,IFJ,b2] at hres
  cases hres
  simp only [Xd,YH,COL,YU,WB,reduceAdd,reduceLeDiff,Nat.reduceBEq,b2]
  try rfl
 ·simp only [Qs,IFJ,b2] at hres
  have hk3:∀ (hp3:HP),hp0.length≤hp3.length→∀ res,WZ=some res→(YH C.G (Za C M) C.L hp0) hp3 none=some ((AV.bool res),hp0,none):=by
   intro hp3 hh3  res hres
   simp only [WZ,IFJ] at hres
   cases hres
   simp only [Xd,YH,COL,YU,WB,reduceAdd,reduceLeDiff,Nat.reduceBEq,b2]
   try rfl
  have hb':x0.length≤4611686018427387:=(by have:=(okx0).1; omega)
  have hx:=G5 hC M x0 x1 (by omega) hp0 okx1 hb' (YH C.G (Za C M) C.L hp0) (WZ) hk3 x0 [] C.L hp0 rfl (by have:=hC.L; omega) (by omega) res hres
  try simp only [NIL] at hx
  simp only [Xd,YH,COL,YU,WB,reduceAdd,reduceLeDiff,Nat.reduceBEq,b2,hx]
  try rfl
noncomputable def Yw (x1:List Xn)(k0T:Option Bool):List Xn→List Xn→Option Bool
 | [],q0=>k0T
 | x0 :: r0,q0=>Jp (PN x1 (q0.length:Int)) fun y2=>if (!(eqv x0 y2))=true then some false else (Yw x1 k0T r0) (q0 ++ [x0])
theorem Ht {C:Cfg}(hC:Sr C)(M:Nat)(x0:List Xn)(x1:List Xn)(hM:0≤M)(hp0:HP)(okx1:OkL 32 Zc2 x1)(hb:x0.length≤4611686018427387)(k0:HP→Eff→KR)(k0T:Option Bool)(hk0:HkB hp0 k0 k0T):∀ (r6 q6:List Xn) (m:Nat) (hp:HP),x0=q6 ++ r6→r6.length < m→hp0.length≤hp.length→∀ res,Yw x1 k0T r6 q6=some res→YT C.G (Za C M) C.L hp0 k0 m (.lst 3 (x0.map YQ)) (.lst 3 (x1.map YQ)) (.int .i64 (x0.length:Int)) (.int .i64 (q6.length:Int)) hp none=some ((AV.bool res),hp0,none)
 | _,_,0,_,_,h,_,_,_=>by omega
 | [],q6,m + 1,hp,h,hr,hh,res,hres=>by
  have l0:=lp0 h
  simp only [Yw,IFJ] at hres
  have hx:=hk0  hp (by omega) res hres
  simp only [YT,COL,WC,Qo,reduceAdd,reduceLeDiff,Nat.reduceBEq,l0,hx]
  try rfl
 | x6 :: r6,q6,m + 1,hp,h,hr,hh,res,hres=>by
  obtain ⟨a1,-,a3,a4,a5⟩:=lp (YQ) h hb
  have me6:=a5
  have a2:(x0.map YQ)[q6.length]? = some (YQ x6):=(lp (YQ) h hb).2.1
  have ix6:Y4 (.slice 3) (.lst 3 (x0.map YQ)) (.int .i64 (q6.length:Int))=some (.ref (YQ x6)):=by rw [Qu,a2]; rfl
  cases q8:PN x1 (q6.length:Int) with
  | none =>
   simp only [Yw,IFJ,WT,q8] at hres; cases hres
  | some y7 =>
   have y7e:Y4 (.slice 3) (.lst 3 (x1.map YQ)) (.int .i64 (q6.length:Int))=some (.ref (YQ y7)):=MR (row := YQ) q8
   have oky7:=(okx1).2 _ (WJ q8)
   have memy7:=WJ q8
   rcases Bool.eq_false_or_eq_true ((!(eqv x6 y7))) with b9 | b9
   ·simp only [Yw,IFJ,q8,Zj,b9] at hres
    cases hres
    simp only [YT,COL,WC,Qo,reduceAdd,reduceLeDiff,Nat.reduceBEq,a1,a3,ix6,y7e,b9]
    try rfl
   ·simp only [Yw,IFJ,q8,Zj,b9] at hres
    have hx:=Ht hC M x0 x1 hM hp0 okx1 hb k0 k0T hk0 r6 (q6 ++ [x6]) m hp a4 (by simpa using hr) (by omega) res hres
    simp only [YT,COL,WC,Qo,reduceAdd,reduceLeDiff,Nat.reduceBEq,a1,a3,ix6,y7e,b9,hx]
    try rfl
def Qp:Option Bool :=
 some true
noncomputable def Q4 (x0:List Xn)(x1:List Xn):Option Bool :=
 if (decide ((x0.length:Int)≠(x1.length:Int)))=true then some false else Yw x1 (Qp) x0 []
theorem NE {C:Cfg}(hC:Sr C)(N:Nat)(x0:List Xn)(x1:List Xn)(hN:1≤N)(hp0:HP)(okx0:OkL 32 Zc2 x0)(okx1:OkL 32 Zc2 x1){res}(hres:Q4 x0 x1=some res):Za C N Ul [(.lst 3 (x0.map YQ)),(.lst 3 (x1.map YQ))] hp0=some ((AV.bool res),hp0,none):=by
 obtain ⟨M,rfl,hh⟩:=exM hp0 (by omega:1≤N)
 refine Pg (by rw [hC.T]; rfl) ?_
 rcases Bool.eq_false_or_eq_true ((decide ((x0.length:Int)≠(x1.length:Int)))) with b2 | b2
 ·simp only [Q4,IFJ,b2] at hres
  cases hres
  simp only [Xo,YS,COL,WC,Qo,reduceAdd,reduceLeDiff,Nat.reduceBEq,b2]
  try rfl
 ·simp only [Q4,IFJ,b2] at hres
  have hk3:∀ (hp3:HP),hp0.length≤hp3.length→∀ res,Qp=some res→(YS C.G (Za C M) C.L hp0) hp3 none=some ((AV.bool res),hp0,none):=by
   intro hp3 hh3  res hres
   simp only [Qp,IFJ] at hres
   cases hres
   simp only [Xo,YS,COL,WC,Qo,reduceAdd,reduceLeDiff,Nat.reduceBEq,b2]
   try rfl
  have hb':x0.length≤4611686018427387:=(by have:=(okx0).1; omega)
  have hx:=Ht hC M x0 x1 (by omega) hp0 okx1 hb' (YS C.G (Za C M) C.L hp0) (Qp) hk3 x0 [] C.L hp0 rfl (by have:=hC.L; omega) (by omega) res hres
  try simp only [NIL] at hx
  simp only [Xo,YS,COL,WC,Qo,reduceAdd,reduceLeDiff,Nat.reduceBEq,b2,hx]
  try rfl
def WH (x1:List (List UInt8))(k0T:Option Bool):List (List UInt8)→List (List UInt8)→Option Bool
 | [],q0=>k0T
 | x0 :: r0,q0=>Jp (PN x1 (q0.length:Int)) fun y2=>if (decide (x0≠y2))=true then some false else (WH x1 k0T r0) (q0 ++ [x0])
theorem BJ {C:Cfg}(hC:Sr C)(M:Nat)(x0:List (List UInt8))(x1:List (List UInt8))(hM:0≤M)(hp0:HP)(okx1:OkL 16 (fun y=>y.length≤140737488351232) x1)(hb:x0.length≤4611686018427387)(k0:HP→Eff→KR)(k0T:Option Bool)(hk0:HkB hp0 k0 k0T):∀ (r6 q6:List (List UInt8)) (m:Nat) (hp:HP),x0=q6 ++ r6→r6.length < m→hp0.length≤hp.length→∀ res,WH x1 k0T r6 q6=some res→Q8 C.G (Za C M) C.L hp0 k0 m (.lst 1 (strs x0)) (.lst 1 (strs x1)) (.int .i64 (x0.length:Int)) (.int .i64 (q6.length:Int)) hp none=some ((AV.bool res),hp0,none)
 | _,_,0,_,_,h,_,_,_=>by omega
 | [],q6,m + 1,hp,h,hr,hh,res,hres=>by
  have l0:=lp0 h
  simp only [WH,IFJ] at hres
  have hx:=hk0  hp (by omega) res hres
  simp only [Q8,COL,reduceAdd,reduceLeDiff,Nat.reduceBEq,l0,hx]
  try rfl
 | x6 :: r6,q6,m + 1,hp,h,hr,hh,res,hres=>by
  obtain ⟨a1,-,a3,a4,a5⟩:=lp ((fun x=>[(AV.str x)])) h hb
  have me6:=a5
  have a2:(strs x0)[q6.length]? = some [(AV.str x6)]:=(lp ((fun x=>[(AV.str x)])) h hb).2.1
  have ix6:Y4 (.slice 1) (.lst 1 (strs x0)) (.int .i64 (q6.length:Int))=some (.ref [(AV.str x6)]):=by rw [Qu,a2]; rfl
  cases q8:PN x1 (q6.length:Int) with
  | none =>
   simp only [WH,IFJ,WT,q8] at hres; cases hres
  | some y7 =>
   have y7e:Y4 (.slice 1) (.lst 1 (strs x1)) (.int .i64 (q6.length:Int))=some (.ref [(AV.str y7)]):=MR (row := (fun x=>[(AV.str x)])) q8
   have oky7:=(okx1).2 _ (WJ q8)
   have memy7:=WJ q8
   rcases Bool.eq_false_or_eq_true ((decide (x6≠y7))) with b9 | b9
   ·simp only [WH,IFJ,q8,Zj,b9] at hres
    cases hres
    simp only [Q8,COL,reduceAdd,reduceLeDiff,Nat.reduceBEq,a1,a3,ix6,y7e,b9]
    try rfl
   ·simp only [WH,IFJ,q8,Zj,b9] at hres
    have hx:=BJ hC M x0 x1 hM hp0 okx1 hb k0 k0T hk0 r6 (q6 ++ [x6]) m hp a4 (by simpa using hr) (by omega) res hres
    simp only [Q8,COL,reduceAdd,reduceLeDiff,Nat.reduceBEq,a1,a3,ix6,y7e,b9,hx]
    try rfl
def XY:Option Bool :=
 some true
def YE (x0:List (List UInt8))(x1:List (List UInt8)):Option Bool :=
 if (decide ((x0.length:Int)≠(x1.length:Int)))=true then some false else WH x1 (XY) x0 []
theorem Uc {C:Cfg}(hC:Sr C)(N:Nat)(x0:List (List UInt8))(x1:List (List UInt8))(hN:1≤N)(hp0:HP)(okx0:OkL 16 (fun y=>y.length≤140737488351232) x0)(okx1:OkL 16 (fun y=>y.length≤140737488351232) x1){res}(hres:YE x0 x1=some res):Za C N XI [(.lst 1 (strs x0)),(.lst 1 (strs x1))] hp0=some ((AV.bool res),hp0,none):=by
 obtain ⟨M,rfl,hh⟩:=exM hp0 (by omega:1≤N)
 refine ZaK (by rw [hC.T]; rfl) ?_
 rcases Bool.eq_false_or_eq_true ((decide ((x0.length:Int)≠(x1.length:Int)))) with b2 | b2
 ·simp only [YE,IFJ,b2] at hres
  cases hres
  simp only [JZ,Q7,COL,reduceAdd,reduceLeDiff,Nat.reduceBEq,b2]
  try rfl
 ·simp only [YE,IFJ,b2] at hres
  have hk3:∀ (hp3:HP),hp0.length≤hp3.length→∀ res,XY=some res→(Q7 C.G (Za C M) C.L hp0) hp3 none=some ((AV.bool res),hp0,none):=by
   intro hp3 hh3  res hres
   simp only [XY,IFJ] at hres
   cases hres
   simp only [JZ,Q7,COL,reduceAdd,reduceLeDiff,Nat.reduceBEq,b2]
   try rfl
  have hb':x0.length≤4611686018427387:=(by have:=(okx0).1; omega)
  have hx:=BJ hC M x0 x1 (by omega) hp0 okx1 hb' (Q7 C.G (Za C M) C.L hp0) (XY) hk3 x0 [] C.L hp0 rfl (by have:=hC.L; omega) (by omega) res hres
  try simp only [NIL] at hx
  simp only [JZ,Q7,COL,reduceAdd,reduceLeDiff,Nat.reduceBEq,b2,hx]
  try rfl
noncomputable def YK (x1:List KD)(k0T:Option Bool):List KD→List KD→Option Bool
 | [],q0=>k0T
 | x0 :: r0,q0=>Jp (PN x1 (q0.length:Int)) fun y2=>if (!(eqv x0 y2))=true then some false else (YK x1 k0T r0) (q0 ++ [x0])
theorem OY {C:Cfg}(hC:Sr C)(M:Nat)(x0:List KD)(x1:List KD)(hM:0≤M)(hp0:HP)(okx1:OkL 24 ZdY x1)(hb:x0.length≤4611686018427387)(k0:HP→Eff→KR)(k0T:Option Bool)(hk0:HkB hp0 k0 k0T):∀ (r6 q6:List KD) (m:Nat) (hp:HP),x0=q6 ++ r6→r6.length < m→hp0.length≤hp.length→∀ res,YK x1 k0T r6 q6=some res→WO C.G (Za C M) C.L hp0 k0 m (.lst 2 (x0.map Vh)) (.lst 2 (x1.map Vh)) (.int .i64 (x0.length:Int)) (.int .i64 (q6.length:Int)) hp none=some ((AV.bool res),hp0,none)
 | _,_,0,_,_,h,_,_,_=>by omega
 | [],q6,m + 1,hp,h,hr,hh,res,hres=>by
  have l0:=lp0 h
  simp only [YK,IFJ] at hres
  have hx:=hk0  hp (by omega) res hres
  simp only [WO,COL,FP,Zcf,reduceAdd,reduceLeDiff,Nat.reduceBEq,l0,hx]
  try rfl
 | x6 :: r6,q6,m + 1,hp,h,hr,hh,res,hres=>by
  obtain ⟨a1,-,a3,a4,a5⟩:=lp (Vh) h hb
  have me6:=a5
  have a2:(x0.map Vh)[q6.length]? = some (Vh x6):=(lp (Vh) h hb).2.1
  have ix6:Y4 (.slice 2) (.lst 2 (x0.map Vh)) (.int .i64 (q6.length:Int))=some (.ref (Vh x6)):=by rw [Qu,a2]; rfl
  cases q8:PN x1 (q6.length:Int) with
  | none =>
   simp only [YK,IFJ,WT,q8] at hres; cases hres
  | some y7 =>
   have y7e:Y4 (.slice 2) (.lst 2 (x1.map Vh)) (.int .i64 (q6.length:Int))=some (.ref (Vh y7)):=MR (row := Vh) q8
   have oky7:=(okx1).2 _ (WJ q8)
   have memy7:=WJ q8
   rcases Bool.eq_false_or_eq_true ((!(eqv x6 y7))) with b9 | b9
   ·simp only [YK,IFJ,q8,Zj,b9] at hres
    cases hres
    simp only [WO,COL,FP,Zcf,reduceAdd,reduceLeDiff,Nat.reduceBEq,a1,a3,ix6,y7e,b9]
    try rfl
   ·simp only [YK,IFJ,q8,Zj,b9] at hres
    have hx:=OY hC M x0 x1 hM hp0 okx1 hb k0 k0T hk0 r6 (q6 ++ [x6]) m hp a4 (by simpa using hr) (by omega) res hres
    simp only [WO,COL,FP,Zcf,reduceAdd,reduceLeDiff,Nat.reduceBEq,a1,a3,ix6,y7e,b9,hx]
    try rfl
def QX:Option Bool :=
 some true
noncomputable def Ql (x0:List KD)(x1:List KD):Option Bool :=
 if (decide ((x0.length:Int)≠(x1.length:Int)))=true then some false else YK x1 (QX) x0 []
theorem MV {C:Cfg}(hC:Sr C)(N:Nat)(x0:List KD)(x1:List KD)(hN:1≤N)(hp0:HP)(okx0:OkL 24 ZdY x0)(okx1:OkL 24 ZdY x1){res}(hres:Ql x0 x1=some res):Za C N JL [(.lst 2 (x0.map Vh)),(.lst 2 (x1.map Vh))] hp0=some ((AV.bool res),hp0,none):=by
 obtain ⟨M,rfl,hh⟩:=exM hp0 (by omega:1≤N)
 refine Am (by rw [hC.T]; rfl) ?_
 rcases Bool.eq_false_or_eq_true ((decide ((x0.length:Int)≠(x1.length:Int)))) with b2 | b2
 ·simp only [Ql,IFJ,b2] at hres
  cases hres
  simp only [Vx,WN,COL,FP,Zcf,reduceAdd,reduceLeDiff,Nat.reduceBEq,b2]
  try rfl
 ·simp only [Ql,IFJ,b2] at hres
  have hk3:∀ (hp3:HP),hp0.length≤hp3.length→∀ res,QX=some res→(WN C.G (Za C M) C.L hp0) hp3 none=some ((AV.bool res),hp0,none):=by
   intro hp3 hh3  res hres
   simp only [QX,IFJ] at hres
   cases hres
   simp only [Vx,WN,COL,FP,Zcf,reduceAdd,reduceLeDiff,Nat.reduceBEq,b2]
   try rfl
  have hb':x0.length≤4611686018427387:=(by have:=(okx0).1; omega)
  have hx:=OY hC M x0 x1 (by omega) hp0 okx1 hb' (WN C.G (Za C M) C.L hp0) (QX) hk3 x0 [] C.L hp0 rfl (by have:=hC.L; omega) (by omega) res hres
  try simp only [NIL] at hx
  simp only [Vx,WN,COL,FP,Zcf,reduceAdd,reduceLeDiff,Nat.reduceBEq,b2,hx]
  try rfl
noncomputable def Jl (x0:QJ)(x1:QJ):Option Bool :=
 if (decide (x0.Name=x1.Name))=true then (Jp ((Ql x0.Params x1.Params)) fun v2=>if v2=true then (Jp ((Ql x0.Locals x1.Locals)) fun v3=>some (v3 && (eqv x0.Body x1.Body))) else some false) else some false
theorem ZkN {C:Cfg}(hC:Sr C)(N:Nat)(x0:QJ)(x1:QJ)(hN:6 * SizeOf.sizeOf x0 + 2≤N)(hp0:HP)(okx0:PX x0)(okx1:PX x1){res}(hres:Jl x0 x1=some res):Za C N GR [(.agg (Y3 x0)),(.agg (Y3 x1))] hp0=some ((AV.bool res),hp0,none):=by
 obtain ⟨M,rfl,hh⟩:=exM hp0 (by omega:1≤N)
 refine Zid (by rw [hC.T]; rfl) ?_
 obtain ⟨h2,hh2,g3,l4⟩:=mkH hp0 (Z5.cells (Y3 x0) Wn)
 obtain ⟨h5,hh5,g6,l7⟩:=mkH h2 (Z5.cells (Y3 x1) Wn)
 have g8:=keA hh5 g3
 rcases Bool.eq_false_or_eq_true ((decide (x0.Name=x1.Name))) with b9 | b9
 ·cases q12:(Ql x0.Params x1.Params) with
  | none =>
   simp only [Jl,IFJ,WT,b9,q12] at hres; cases hres
  | some v11 =>
   have c10:=fun hp:HP=>MV hC M x0.Params x1.Params (by omega) hp okx0.Params okx1.Params q12
   rcases Bool.eq_false_or_eq_true (v11) with b13 | b13
   ·cases q16:(Ql x0.Locals x1.Locals) with
    | none =>
     simp only [Jl,IFJ,WT,b9,q12,Zj,b13,q16] at hres; cases hres
    | some v15 =>
     have c14:=fun hp:HP=>MV hC M x0.Locals x1.Locals (by omega) hp okx0.Locals okx1.Locals q16
     have c17:=fun hp:HP=>Zxk hC M x0.Body x1.Body (by have:=Zit x0; omega) hp okx0.Body okx1.Body
     simp only [Jl,IFJ,b9,q12,Zj,b13,q16] at hres
     cases hres
     simp only [PG,COL,WV,reduceAdd,reduceLeDiff,Nat.reduceBEq,hh2,hh5,LG g8,LG g6,b9,c10,b13,c14,c17]
     try rfl
   ·simp only [Jl,IFJ,b9,q12,Zj,b13] at hres
    cases hres
    simp only [PG,COL,WV,reduceAdd,reduceLeDiff,Nat.reduceBEq,hh2,hh5,LG g8,LG g6,b9,c10,b13]
    try rfl
 ·simp only [Jl,IFJ,b9] at hres
  cases hres
  simp only [PG,COL,WV,reduceAdd,reduceLeDiff,Nat.reduceBEq,hh2,hh5,LG g8,LG g6,b9]
  try rfl
noncomputable def Zi (x1:List QJ)(k0T:Option Bool):List QJ→List QJ→Option Bool
 | [],q0=>k0T
 | x0 :: r0,q0=>Jp (PN x1 (q0.length:Int)) fun y2=>Jp ((Jl x0 y2)) fun v3=>if (!v3)=true then some false else (Zi x1 k0T r0) (q0 ++ [x0])
theorem QQ {C:Cfg}(hC:Sr C)(M:Nat)(x0:List QJ)(x1:List QJ)(hM:6 * SizeOf.sizeOf x0 + 2≤M)(hp0:HP)(okx0:OkL 88 PX x0)(okx1:OkL 88 PX x1)(hb:x0.length≤4611686018427387)(k0:HP→Eff→KR)(k0T:Option Bool)(hk0:HkB hp0 k0 k0T):∀ (r6 q6:List QJ) (m:Nat) (hp:HP),x0=q6 ++ r6→r6.length < m→hp0.length≤hp.length→∀ res,Zi x1 k0T r6 q6=some res→ZI C.G (Za C M) C.L hp0 k0 m (.lst 4 (x1.map Y3)) (.fn GR [] []) (.lst 4 (x0.map Y3)) (.int .i64 (x0.length:Int)) (.int .i64 (q6.length:Int)) hp none=some ((AV.bool res),hp0,none)
 | _,_,0,_,_,h,_,_,_=>by omega
 | [],q6,m + 1,hp,h,hr,hh,res,hres=>by
  have l0:=lp0 h
  simp only [Zi,IFJ] at hres
  have hx:=hk0  hp (by omega) res hres
  simp only [ZI,COL,WV,reduceAdd,reduceLeDiff,Nat.reduceBEq,l0,hx]
  try rfl
 | x6 :: r6,q6,m + 1,hp,h,hr,hh,res,hres=>by
  obtain ⟨a1,-,a3,a4,a5⟩:=lp (Y3) h hb
  have me6:=a5
  have a2:(x0.map Y3)[q6.length]? = some (Y3 x6):=(lp (Y3) h hb).2.1
  have okx6:=(okx0).2 _ a5
  have ix6:Y4 (.slice 4) (.lst 4 (x0.map Y3)) (.int .i64 (q6.length:Int))=some (.ref (Y3 x6)):=by rw [Qu,a2]; rfl
  obtain ⟨h7,hh7,g8,l9⟩:=mkH hp (Z5.cells [(.str []),(.own 2 []),(.own 2 []),(.own 21 [])] Wn)
  obtain ⟨h10,hh10,g11,l12⟩:=seH g8 (Z5.cells (Y3 x6) Wn)
  have e13:stV hp0.length 4 (.ptr hp.length 0) (.agg (Y3 x6)) h7 none=some (h10,none):=by rw [← hh10]; exact DW g8 (by first | rfl | exact OU _) (by simp) rfl (by omega) (by rw [Gx]; exact UH (by exact OU _) (by rfl))
  cases q15:PN x1 (q6.length:Int) with
  | none =>
   simp only [Zi,IFJ,WT,q15] at hres; cases hres
  | some y14 =>
   have y14e:Y4 (.slice 4) (.lst 4 (x1.map Y3)) (.int .i64 (q6.length:Int))=some (.ref (Y3 y14)):=MR (row := Y3) q15
   have oky14:=(okx1).2 _ (WJ q15)
   have memy14:=WJ q15
   obtain ⟨h16,hh16,g17,l18⟩:=mkH h10 (Z5.cells [(.str []),(.own 2 []),(.own 2 []),(.own 21 [])] Wn)
   have g19:=keA hh16 g11
   obtain ⟨h20,hh20,g21,l22⟩:=seH g17 (Z5.cells (Y3 y14) Wn)
   have g23:=keS hh20 g19 (by omega)
   have e24:stV hp0.length 4 (.ptr h10.length 0) (.agg (Y3 y14)) h16 none=some (h20,none):=by rw [← hh20]; exact DW g17 (by first | rfl | exact OU _) (by simp) rfl (by omega) (by rw [Gx]; exact UH (by exact OU _) (by rfl))
   have e25:Uo (Za C M) (.fn GR [] []) [(.agg (Y3 x6)),(.agg (Y3 y14))] h20=Za C M GR [(.agg (Y3 x6)),(.agg (Y3 y14))] h20:=rfl
   cases q28:(Jl x6 y14) with
   | none =>
    simp only [Zi,IFJ,WT,q15,Zj,q28] at hres; cases hres
   | some v27 =>
    have c26:=fun hp:HP=>ZkN hC M x6 y14 (by have:=List.sizeOf_lt_of_mem me6; omega) hp okx6 oky14 q28
    rcases Bool.eq_false_or_eq_true ((!v27)) with b29 | b29
    ·simp only [Zi,IFJ,q15,Zj,q28,b29] at hres
     cases hres
     simp only [ZI,COL,WV,reduceAdd,reduceLeDiff,Nat.reduceBEq,a1,a3,ix6,hh7,e13,y14e,hh16,e24,LG g23,LG g21,e25,c26,b29]
     try rfl
    ·simp only [Zi,IFJ,q15,Zj,q28,b29] at hres
     have hx:=QQ hC M x0 x1 hM hp0 okx0 okx1 hb k0 k0T hk0 r6 (q6 ++ [x6]) m h20 a4 (by simpa using hr) (by omega) res hres
     simp only [ZI,COL,WV,reduceAdd,reduceLeDiff,Nat.reduceBEq,a1,a3,ix6,hh7,e13,y14e,hh16,e24,LG g23,LG g21,e25,c26,b29,hx]
     try rfl
def ZJ:Option Bool :=
 some true
noncomputable def ZM (x0:List QJ)(x1:List QJ):Option Bool :=
 if (decide ((x0.length:Int)≠(x1.length:Int)))=true then some false else Zi x1 (ZJ) x0 []
theorem JA {C:Cfg}(hC:Sr C)(N:Nat)(x0:List QJ)(x1:List QJ)(hN:6 * SizeOf.sizeOf x0 + 3≤N)(hp0:HP)(okx0:OkL 88 PX x0)(okx1:OkL 88 PX x1){res}(hres:ZM x0 x1=some res):Za C N QL [(.lst 4 (x0.map Y3)),(.lst 4 (x1.map Y3)),(.fn GR [] [])] hp0=some ((AV.bool res),hp0,none):=by
 obtain ⟨M,rfl,hh⟩:=exM hp0 (by omega:1≤N)
 refine KU (by rw [hC.T]; rfl) ?_
 rcases Bool.eq_false_or_eq_true ((decide ((x0.length:Int)≠(x1.length:Int)))) with b2 | b2
 ·simp only [ZM,IFJ,b2] at hres
  cases hres
  simp only [YG,ZH,COL,WV,reduceAdd,reduceLeDiff,Nat.reduceBEq,b2]
  try rfl
 ·simp only [ZM,IFJ,b2] at hres
  have hk3:∀ (hp3:HP),hp0.length≤hp3.length→∀ res,ZJ=some res→(ZH C.G (Za C M) C.L hp0) hp3 none=some ((AV.bool res),hp0,none):=by
   intro hp3 hh3  res hres
   simp only [ZJ,IFJ] at hres
   cases hres
   simp only [YG,ZH,COL,WV,reduceAdd,reduceLeDiff,Nat.reduceBEq,b2]
   try rfl
  have hb':x0.length≤4611686018427387:=(by have:=(okx0).1; omega)
  have hx:=QQ hC M x0 x1 (by omega) hp0 okx0 okx1 hb' (ZH C.G (Za C M) C.L hp0) (ZJ) hk3 x0 [] C.L hp0 rfl (by have:=hC.L; omega) (by omega) res hres
  try simp only [NIL] at hx
  simp only [YG,ZH,COL,WV,reduceAdd,reduceLeDiff,Nat.reduceBEq,b2,hx]
  try rfl
def QR (x1:List Int)(k0T:Option Bool):List Int→List Int→Option Bool
 | [],q0=>k0T
 | x0 :: r0,q0=>Jp (PN x1 (q0.length:Int)) fun y2=>if (decide (x0≠y2))=true then some false else (QR x1 k0T r0) (q0 ++ [x0])
theorem EO {C:Cfg}(hC:Sr C)(M:Nat)(x0:List Int)(x1:List Int)(hM:0≤M)(hp0:HP)(okx1:OkL 8 (fun y=>-9223372036854775808≤y∧y≤9223372036854775807) x1)(hb:x0.length≤4611686018427387)(k0:HP→Eff→KR)(k0T:Option Bool)(hk0:HkB hp0 k0 k0T):∀ (r6 q6:List Int) (m:Nat) (hp:HP),x0=q6 ++ r6→r6.length < m→hp0.length≤hp.length→∀ res,QR x1 k0T r6 q6=some res→WW C.G (Za C M) C.L hp0 k0 m (.lst 1 (ints x0)) (.lst 1 (ints x1)) (.int .i64 (x0.length:Int)) (.int .i64 (q6.length:Int)) hp none=some ((AV.bool res),hp0,none)
 | _,_,0,_,_,h,_,_,_=>by omega
 | [],q6,m + 1,hp,h,hr,hh,res,hres=>by
  have l0:=lp0 h
  simp only [QR,IFJ] at hres
  have hx:=hk0  hp (by omega) res hres
  simp only [WW,COL,reduceAdd,reduceLeDiff,Nat.reduceBEq,l0,hx]
  try rfl
 | x6 :: r6,q6,m + 1,hp,h,hr,hh,res,hres=>by
  obtain ⟨a1,-,a3,a4,a5⟩:=lp ((fun x=>[(AV.int .i64 x)])) h hb
  have me6:=a5
  have a2:(ints x0)[q6.length]? = some [(AV.int .i64 x6)]:=(lp ((fun x=>[(AV.int .i64 x)])) h hb).2.1
  have ix6:Y4 (.slice 1) (.lst 1 (ints x0)) (.int .i64 (q6.length:Int))=some (.ref [(AV.int .i64 x6)]):=by rw [Qu,a2]; rfl
  cases q8:PN x1 (q6.length:Int) with
  | none =>
   simp only [QR,IFJ,WT,q8] at hres; cases hres
  | some y7 =>
   have y7e:Y4 (.slice 1) (.lst 1 (ints x1)) (.int .i64 (q6.length:Int))=some (.ref [(AV.int .i64 y7)]):=MR (row := (fun x=>[(AV.int .i64 x)])) q8
   have oky7:=(okx1).2 _ (WJ q8)
   have memy7:=WJ q8
   rcases Bool.eq_false_or_eq_true ((decide (x6≠y7))) with b9 | b9
   ·simp only [QR,IFJ,q8,Zj,b9] at hres
    cases hres
    simp only [WW,COL,reduceAdd,reduceLeDiff,Nat.reduceBEq,a1,a3,ix6,y7e,b9]
    try rfl
   ·simp only [QR,IFJ,q8,Zj,b9] at hres
    have hx:=EO hC M x0 x1 hM hp0 okx1 hb k0 k0T hk0 r6 (q6 ++ [x6]) m hp a4 (by simpa using hr) (by omega) res hres
    simp only [WW,COL,reduceAdd,reduceLeDiff,Nat.reduceBEq,a1,a3,ix6,y7e,b9,hx]
    try rfl
def JK:Option Bool :=
 some true
def UI (x0:List Int)(x1:List Int):Option Bool :=
 if (decide ((x0.length:Int)≠(x1.length:Int)))=true then some false else QR x1 (JK) x0 []
theorem Zff {C:Cfg}(hC:Sr C)(N:Nat)(x0:List Int)(x1:List Int)(hN:1≤N)(hp0:HP)(okx0:OkL 8 (fun y=>-9223372036854775808≤y∧y≤9223372036854775807) x0)(okx1:OkL 8 (fun y=>-9223372036854775808≤y∧y≤9223372036854775807) x1){res}(hres:UI x0 x1=some res):Za C N VC [(.lst 1 (ints x0)),(.lst 1 (ints x1))] hp0=some ((AV.bool res),hp0,none):=by
 obtain ⟨M,rfl,hh⟩:=exM hp0 (by omega:1≤N)
 refine A8 (by rw [hC.T]; rfl) ?_
 rcases Bool.eq_false_or_eq_true ((decide ((x0.length:Int)≠(x1.length:Int)))) with b2 | b2
 ·simp only [UI,IFJ,b2] at hres
  cases hres
  simp only [JG,QO,COL,reduceAdd,reduceLeDiff,Nat.reduceBEq,b2]
  try rfl
 ·simp only [UI,IFJ,b2] at hres
  have hk3:∀ (hp3:HP),hp0.length≤hp3.length→∀ res,JK=some res→(QO C.G (Za C M) C.L hp0) hp3 none=some ((AV.bool res),hp0,none):=by
   intro hp3 hh3  res hres
   simp only [JK,IFJ] at hres
   cases hres
   simp only [JG,QO,COL,reduceAdd,reduceLeDiff,Nat.reduceBEq,b2]
   try rfl
  have hb':x0.length≤4611686018427387:=(by have:=(okx0).1; omega)
  have hx:=EO hC M x0 x1 (by omega) hp0 okx1 hb' (QO C.G (Za C M) C.L hp0) (JK) hk3 x0 [] C.L hp0 rfl (by have:=hC.L; omega) (by omega) res hres
  try simp only [NIL] at hx
  simp only [JG,QO,COL,reduceAdd,reduceLeDiff,Nat.reduceBEq,b2,hx]
  try rfl
def Hu (x0:KY)(x1:KY):Option Bool :=
 if (decide (x0.Routine=x1.Routine))=true then (Jp ((UI x0.Args x1.Args)) fun v2=>some (((v2 && (decide (x0.At_=x1.At_))) && (decide (x0.Every=x1.Every))) && (decide (x0.Until=x1.Until)))) else some false
theorem Zn0 {C:Cfg}(hC:Sr C)(N:Nat)(x0:KY)(x1:KY)(hN:2≤N)(hp0:HP)(okx0:Zak x0)(okx1:Zak x1){res}(hres:Hu x0 x1=some res):Za C N IV [(.agg (Xq x0)),(.agg (Xq x1))] hp0=some ((AV.bool res),hp0,none):=by
 obtain ⟨M,rfl,hh⟩:=exM hp0 (by omega:1≤N)
 refine ZkE (by rw [hC.T]; rfl) ?_
 obtain ⟨h2,hh2,g3,l4⟩:=mkH hp0 (Z5.cells (Xq x0) XO)
 obtain ⟨h5,hh5,g6,l7⟩:=mkH h2 (Z5.cells (Xq x1) XO)
 have g8:=keA hh5 g3
 rcases Bool.eq_false_or_eq_true ((decide (x0.Routine=x1.Routine))) with b9 | b9
 ·cases q12:(UI x0.Args x1.Args) with
  | none =>
   simp only [Hu,IFJ,WT,b9,q12] at hres; cases hres
  | some v11 =>
   have c10:=fun hp:HP=>Zff hC M x0.Args x1.Args (by omega) hp okx0.Args okx1.Args q12
   simp only [Hu,IFJ,b9,q12,Zj] at hres
   cases hres
   simp only [Zbi,COL,XB,reduceAdd,reduceLeDiff,Nat.reduceBEq,hh2,hh5,LG g8,LG g6,b9,c10]
   try rfl
 ·simp only [Hu,IFJ,b9] at hres
  cases hres
  simp only [Zbi,COL,XB,reduceAdd,reduceLeDiff,Nat.reduceBEq,hh2,hh5,LG g8,LG g6,b9]
  try rfl
def Zl (x1:List KY)(k0T:Option Bool):List KY→List KY→Option Bool
 | [],q0=>k0T
 | x0 :: r0,q0=>Jp (PN x1 (q0.length:Int)) fun y2=>Jp ((Hu x0 y2)) fun v3=>if (!v3)=true then some false else (Zl x1 k0T r0) (q0 ++ [x0])
theorem Xr {C:Cfg}(hC:Sr C)(M:Nat)(x0:List KY)(x1:List KY)(hM:2≤M)(hp0:HP)(okx0:OkL 64 Zak x0)(okx1:OkL 64 Zak x1)(hb:x0.length≤4611686018427387)(k0:HP→Eff→KR)(k0T:Option Bool)(hk0:HkB hp0 k0 k0T):∀ (r6 q6:List KY) (m:Nat) (hp:HP),x0=q6 ++ r6→r6.length < m→hp0.length≤hp.length→∀ res,Zl x1 k0T r6 q6=some res→ZT C.G (Za C M) C.L hp0 k0 m (.lst 5 (x1.map Xq)) (.fn IV [] []) (.lst 5 (x0.map Xq)) (.int .i64 (x0.length:Int)) (.int .i64 (q6.length:Int)) hp none=some ((AV.bool res),hp0,none)
 | _,_,0,_,_,h,_,_,_=>by omega
 | [],q6,m + 1,hp,h,hr,hh,res,hres=>by
  have l0:=lp0 h
  simp only [Zl,IFJ] at hres
  have hx:=hk0  hp (by omega) res hres
  simp only [ZT,COL,XB,reduceAdd,reduceLeDiff,Nat.reduceBEq,l0,hx]
  try rfl
 | x6 :: r6,q6,m + 1,hp,h,hr,hh,res,hres=>by
  obtain ⟨a1,-,a3,a4,a5⟩:=lp (Xq) h hb
  have me6:=a5
  have a2:(x0.map Xq)[q6.length]? = some (Xq x6):=(lp (Xq) h hb).2.1
  have okx6:=(okx0).2 _ a5
  have ix6:Y4 (.slice 5) (.lst 5 (x0.map Xq)) (.int .i64 (q6.length:Int))=some (.ref (Xq x6)):=by rw [Qu,a2]; rfl
  obtain ⟨h7,hh7,g8,l9⟩:=mkH hp (Z5.cells [(.str []),(.own 1 []),(.int .i64 0),(.int .i64 0),(.int .i64 0)] XO)
  obtain ⟨h10,hh10,g11,l12⟩:=seH g8 (Z5.cells (Xq x6) XO)
  have e13:stV hp0.length 5 (.ptr hp.length 0) (.agg (Xq x6)) h7 none=some (h10,none):=by rw [← hh10]; exact DW g8 (by first | rfl | exact NS _) (by simp) rfl (by omega) (by rw [Gx]; exact UH (by exact NS _) (by rfl))
  cases q15:PN x1 (q6.length:Int) with
  | none =>
   simp only [Zl,IFJ,WT,q15] at hres; cases hres
  | some y14 =>
   have y14e:Y4 (.slice 5) (.lst 5 (x1.map Xq)) (.int .i64 (q6.length:Int))=some (.ref (Xq y14)):=MR (row := Xq) q15
   have oky14:=(okx1).2 _ (WJ q15)
   have memy14:=WJ q15
   obtain ⟨h16,hh16,g17,l18⟩:=mkH h10 (Z5.cells [(.str []),(.own 1 []),(.int .i64 0),(.int .i64 0),(.int .i64 0)] XO)
   have g19:=keA hh16 g11
   obtain ⟨h20,hh20,g21,l22⟩:=seH g17 (Z5.cells (Xq y14) XO)
   have g23:=keS hh20 g19 (by omega)
   have e24:stV hp0.length 5 (.ptr h10.length 0) (.agg (Xq y14)) h16 none=some (h20,none):=by rw [← hh20]; exact DW g17 (by first | rfl | exact NS _) (by simp) rfl (by omega) (by rw [Gx]; exact UH (by exact NS _) (by rfl))
   have e25:Uo (Za C M) (.fn IV [] []) [(.agg (Xq x6)),(.agg (Xq y14))] h20=Za C M IV [(.agg (Xq x6)),(.agg (Xq y14))] h20:=rfl
   cases q28:(Hu x6 y14) with
   | none =>
    simp only [Zl,IFJ,WT,q15,Zj,q28] at hres; cases hres
   | some v27 =>
    have c26:=fun hp:HP=>Zn0 hC M x6 y14 (by omega) hp okx6 oky14 q28
    rcases Bool.eq_false_or_eq_true ((!v27)) with b29 | b29
    ·simp only [Zl,IFJ,q15,Zj,q28,b29] at hres
     cases hres
     simp only [ZT,COL,XB,reduceAdd,reduceLeDiff,Nat.reduceBEq,a1,a3,ix6,hh7,e13,y14e,hh16,e24,LG g23,LG g21,e25,c26,b29]
     try rfl
    ·simp only [Zl,IFJ,q15,Zj,q28,b29] at hres
     have hx:=Xr hC M x0 x1 hM hp0 okx0 okx1 hb k0 k0T hk0 r6 (q6 ++ [x6]) m h20 a4 (by simpa using hr) (by omega) res hres
     simp only [ZT,COL,XB,reduceAdd,reduceLeDiff,Nat.reduceBEq,a1,a3,ix6,hh7,e13,y14e,hh16,e24,LG g23,LG g21,e25,c26,b29,hx]
     try rfl
def ZU:Option Bool :=
 some true
def ZZ (x0:List KY)(x1:List KY):Option Bool :=
 if (decide ((x0.length:Int)≠(x1.length:Int)))=true then some false else Zl x1 (ZU) x0 []
theorem UD {C:Cfg}(hC:Sr C)(N:Nat)(x0:List KY)(x1:List KY)(hN:3≤N)(hp0:HP)(okx0:OkL 64 Zak x0)(okx1:OkL 64 Zak x1){res}(hres:ZZ x0 x1=some res):Za C N Xt [(.lst 5 (x0.map Xq)),(.lst 5 (x1.map Xq)),(.fn IV [] [])] hp0=some ((AV.bool res),hp0,none):=by
 obtain ⟨M,rfl,hh⟩:=exM hp0 (by omega:1≤N)
 refine Ip (by rw [hC.T]; rfl) ?_
 rcases Bool.eq_false_or_eq_true ((decide ((x0.length:Int)≠(x1.length:Int)))) with b2 | b2
 ·simp only [ZZ,IFJ,b2] at hres
  cases hres
  simp only [Ws,ZR,COL,XB,reduceAdd,reduceLeDiff,Nat.reduceBEq,b2]
  try rfl
 ·simp only [ZZ,IFJ,b2] at hres
  have hk3:∀ (hp3:HP),hp0.length≤hp3.length→∀ res,ZU=some res→(ZR C.G (Za C M) C.L hp0) hp3 none=some ((AV.bool res),hp0,none):=by
   intro hp3 hh3  res hres
   simp only [ZU,IFJ] at hres
   cases hres
   simp only [Ws,ZR,COL,XB,reduceAdd,reduceLeDiff,Nat.reduceBEq,b2]
   try rfl
  have hb':x0.length≤4611686018427387:=(by have:=(okx0).1; omega)
  have hx:=Xr hC M x0 x1 (by omega) hp0 okx0 okx1 hb' (ZR C.G (Za C M) C.L hp0) (ZU) hk3 x0 [] C.L hp0 rfl (by have:=hC.L; omega) (by omega) res hres
  try simp only [NIL] at hx
  simp only [Ws,ZR,COL,XB,reduceAdd,reduceLeDiff,Nat.reduceBEq,b2,hx]
  try rfl
noncomputable def YX (x1:List PY)(k0T:Option Bool):List PY→List PY→Option Bool
 | [],q0=>k0T
 | x0 :: r0,q0=>Jp (PN x1 (q0.length:Int)) fun y2=>if (!(eqv x0 y2))=true then some false else (YX x1 k0T r0) (q0 ++ [x0])
theorem TQ {C:Cfg}(hC:Sr C)(M:Nat)(x0:List PY)(x1:List PY)(hM:0≤M)(hp0:HP)(okx1:OkL 40 Zvh x1)(hb:x0.length≤4611686018427387)(k0:HP→Eff→KR)(k0T:Option Bool)(hk0:HkB hp0 k0 k0T):∀ (r6 q6:List PY) (m:Nat) (hp:HP),x0=q6 ++ r6→r6.length < m→hp0.length≤hp.length→∀ res,YX x1 k0T r6 q6=some res→Qe C.G (Za C M) C.L hp0 k0 m (.lst 3 (x0.map Io)) (.lst 3 (x1.map Io)) (.int .i64 (x0.length:Int)) (.int .i64 (q6.length:Int)) hp none=some ((AV.bool res),hp0,none)
 | _,_,0,_,_,h,_,_,_=>by omega
 | [],q6,m + 1,hp,h,hr,hh,res,hres=>by
  have l0:=lp0 h
  simp only [YX,IFJ] at hres
  have hx:=hk0  hp (by omega) res hres
  simp only [Qe,COL,Zch,Zgm,reduceAdd,reduceLeDiff,Nat.reduceBEq,l0,hx]
  try rfl
 | x6 :: r6,q6,m + 1,hp,h,hr,hh,res,hres=>by
  obtain ⟨a1,-,a3,a4,a5⟩:=lp (Io) h hb
  have me6:=a5
  have a2:(x0.map Io)[q6.length]? = some (Io x6):=(lp (Io) h hb).2.1
  have ix6:Y4 (.slice 3) (.lst 3 (x0.map Io)) (.int .i64 (q6.length:Int))=some (.ref (Io x6)):=by rw [Qu,a2]; rfl
  cases q8:PN x1 (q6.length:Int) with
  | none =>
   simp only [YX,IFJ,WT,q8] at hres; cases hres
  | some y7 =>
   have y7e:Y4 (.slice 3) (.lst 3 (x1.map Io)) (.int .i64 (q6.length:Int))=some (.ref (Io y7)):=MR (row := Io) q8
   have oky7:=(okx1).2 _ (WJ q8)
   have memy7:=WJ q8
   rcases Bool.eq_false_or_eq_true ((!(eqv x6 y7))) with b9 | b9
   ·simp only [YX,IFJ,q8,Zj,b9] at hres
    cases hres
    simp only [Qe,COL,Zch,Zgm,reduceAdd,reduceLeDiff,Nat.reduceBEq,a1,a3,ix6,y7e,b9]
    try rfl
   ·simp only [YX,IFJ,q8,Zj,b9] at hres
    have hx:=TQ hC M x0 x1 hM hp0 okx1 hb k0 k0T hk0 r6 (q6 ++ [x6]) m hp a4 (by simpa using hr) (by omega) res hres
    simp only [Qe,COL,Zch,Zgm,reduceAdd,reduceLeDiff,Nat.reduceBEq,a1,a3,ix6,y7e,b9,hx]
    try rfl
def Xm:Option Bool :=
 some true
noncomputable def XF (x0:List PY)(x1:List PY):Option Bool :=
 if (decide ((x0.length:Int)≠(x1.length:Int)))=true then some false else YX x1 (Xm) x0 []
theorem Zae {C:Cfg}(hC:Sr C)(N:Nat)(x0:List PY)(x1:List PY)(hN:1≤N)(hp0:HP)(okx0:OkL 40 Zvh x0)(okx1:OkL 40 Zvh x1){res}(hres:XF x0 x1=some res):Za C N Hy [(.lst 3 (x0.map Io)),(.lst 3 (x1.map Io))] hp0=some ((AV.bool res),hp0,none):=by
 obtain ⟨M,rfl,hh⟩:=exM hp0 (by omega:1≤N)
 refine FD (by rw [hC.T]; rfl) ?_
 rcases Bool.eq_false_or_eq_true ((decide ((x0.length:Int)≠(x1.length:Int)))) with b2 | b2
 ·simp only [XF,IFJ,b2] at hres
  cases hres
  simp only [VI,Qd,COL,Zch,Zgm,reduceAdd,reduceLeDiff,Nat.reduceBEq,b2]
  try rfl
 ·simp only [XF,IFJ,b2] at hres
  have hk3:∀ (hp3:HP),hp0.length≤hp3.length→∀ res,Xm=some res→(Qd C.G (Za C M) C.L hp0) hp3 none=some ((AV.bool res),hp0,none):=by
   intro hp3 hh3  res hres
   simp only [Xm,IFJ] at hres
   cases hres
   simp only [VI,Qd,COL,Zch,Zgm,reduceAdd,reduceLeDiff,Nat.reduceBEq,b2]
   try rfl
  have hb':x0.length≤4611686018427387:=(by have:=(okx0).1; omega)
  have hx:=TQ hC M x0 x1 (by omega) hp0 okx1 hb' (Qd C.G (Za C M) C.L hp0) (Xm) hk3 x0 [] C.L hp0 rfl (by have:=hC.L; omega) (by omega) res hres
  try simp only [NIL] at hx
  simp only [VI,Qd,COL,Zch,Zgm,reduceAdd,reduceLeDiff,Nat.reduceBEq,b2,hx]
  try rfl
noncomputable def Tc (x0:Zc1)(x1:Zc1):Option Bool :=
 if ((decide (x0.Name=x1.Name)) && (decide (x0.Total=x1.Total)))=true then (Jp ((XF x0.Terms x1.Terms)) fun v2=>some v2) else some false
theorem ZrJ {C:Cfg}(hC:Sr C)(N:Nat)(x0:Zc1)(x1:Zc1)(hN:2≤N)(hp0:HP)(okx0:ZjO x0)(okx1:ZjO x1){res}(hres:Tc x0 x1=some res):Za C N Lj [(.agg (DV x0)),(.agg (DV x1))] hp0=some ((AV.bool res),hp0,none):=by
 obtain ⟨M,rfl,hh⟩:=exM hp0 (by omega:1≤N)
 refine Zni (by rw [hC.T]; rfl) ?_
 obtain ⟨h2,hh2,g3,l4⟩:=mkH hp0 (Z5.cells (DV x0) V5)
 obtain ⟨h5,hh5,g6,l7⟩:=mkH h2 (Z5.cells (DV x1) V5)
 have g8:=keA hh5 g3
 rcases Bool.eq_false_or_eq_true (((decide (x0.Name=x1.Name)) && (decide (x0.Total=x1.Total)))) with b9 | b9
 ·cases q12:(XF x0.Terms x1.Terms) with
  | none =>
   simp only [Tc,IFJ,WT,b9,q12] at hres; cases hres
  | some v11 =>
   have c10:=fun hp:HP=>Zae hC M x0.Terms x1.Terms (by omega) hp okx0.Terms okx1.Terms q12
   simp only [Tc,IFJ,b9,q12,Zj] at hres
   cases hres
   simp only [Zdf,COL,UA,reduceAdd,reduceLeDiff,Nat.reduceBEq,hh2,hh5,LG g8,LG g6,b9,c10]
   try rfl
 ·simp only [Tc,IFJ,b9] at hres
  cases hres
  simp only [Zdf,COL,UA,reduceAdd,reduceLeDiff,Nat.reduceBEq,hh2,hh5,LG g8,LG g6,b9]
  try rfl
noncomputable def Zn (x1:List Zc1)(k0T:Option Bool):List Zc1→List Zc1→Option Bool
 | [],q0=>k0T
 | x0 :: r0,q0=>Jp (PN x1 (q0.length:Int)) fun y2=>Jp ((Tc x0 y2)) fun v3=>if (!v3)=true then some false else (Zn x1 k0T r0) (q0 ++ [x0])
theorem Vk {C:Cfg}(hC:Sr C)(M:Nat)(x0:List Zc1)(x1:List Zc1)(hM:2≤M)(hp0:HP)(okx0:OkL 48 ZjO x0)(okx1:OkL 48 ZjO x1)(hb:x0.length≤4611686018427387)(k0:HP→Eff→KR)(k0T:Option Bool)(hk0:HkB hp0 k0 k0T):∀ (r6 q6:List Zc1) (m:Nat) (hp:HP),x0=q6 ++ r6→r6.length < m→hp0.length≤hp.length→∀ res,Zn x1 k0T r6 q6=some res→Yr C.G (Za C M) C.L hp0 k0 m (.lst 3 (x1.map DV)) (.fn Lj [] []) (.lst 3 (x0.map DV)) (.int .i64 (x0.length:Int)) (.int .i64 (q6.length:Int)) hp none=some ((AV.bool res),hp0,none)
 | _,_,0,_,_,h,_,_,_=>by omega
 | [],q6,m + 1,hp,h,hr,hh,res,hres=>by
  have l0:=lp0 h
  simp only [Zn,IFJ] at hres
  have hx:=hk0  hp (by omega) res hres
  simp only [Yr,COL,UA,reduceAdd,reduceLeDiff,Nat.reduceBEq,l0,hx]
  try rfl
 | x6 :: r6,q6,m + 1,hp,h,hr,hh,res,hres=>by
  obtain ⟨a1,-,a3,a4,a5⟩:=lp (DV) h hb
  have me6:=a5
  have a2:(x0.map DV)[q6.length]? = some (DV x6):=(lp (DV) h hb).2.1
  have okx6:=(okx0).2 _ a5
  have ix6:Y4 (.slice 3) (.lst 3 (x0.map DV)) (.int .i64 (q6.length:Int))=some (.ref (DV x6)):=by rw [Qu,a2]; rfl
  obtain ⟨h7,hh7,g8,l9⟩:=mkH hp (Z5.cells [(.str []),(.own 3 []),(.int .i64 0)] V5)
  obtain ⟨h10,hh10,g11,l12⟩:=seH g8 (Z5.cells (DV x6) V5)
  have e13:stV hp0.length 3 (.ptr hp.length 0) (.agg (DV x6)) h7 none=some (h10,none):=by rw [← hh10]; exact DW g8 (by first | rfl | exact Zi0 _) (by simp) rfl (by omega) (by rw [Gx]; exact UH (by exact Zi0 _) (by rfl))
  cases q15:PN x1 (q6.length:Int) with
  | none =>
   simp only [Zn,IFJ,WT,q15] at hres; cases hres
  | some y14 =>
   have y14e:Y4 (.slice 3) (.lst 3 (x1.map DV)) (.int .i64 (q6.length:Int))=some (.ref (DV y14)):=MR (row := DV) q15
   have oky14:=(okx1).2 _ (WJ q15)
   have memy14:=WJ q15
   obtain ⟨h16,hh16,g17,l18⟩:=mkH h10 (Z5.cells [(.str []),(.own 3 []),(.int .i64 0)] V5)
   have g19:=keA hh16 g11
   obtain ⟨h20,hh20,g21,l22⟩:=seH g17 (Z5.cells (DV y14) V5)
   have g23:=keS hh20 g19 (by omega)
   have e24:stV hp0.length 3 (.ptr h10.length 0) (.agg (DV y14)) h16 none=some (h20,none):=by rw [← hh20]; exact DW g17 (by first | rfl | exact Zi0 _) (by simp) rfl (by omega) (by rw [Gx]; exact UH (by exact Zi0 _) (by rfl))
   have e25:Uo (Za C M) (.fn Lj [] []) [(.agg (DV x6)),(.agg (DV y14))] h20=Za C M Lj [(.agg (DV x6)),(.agg (DV y14))] h20:=rfl
   cases q28:(Tc x6 y14) with
   | none =>
    simp only [Zn,IFJ,WT,q15,Zj,q28] at hres; cases hres
   | some v27 =>
    have c26:=fun hp:HP=>ZrJ hC M x6 y14 (by omega) hp okx6 oky14 q28
    rcases Bool.eq_false_or_eq_true ((!v27)) with b29 | b29
    ·simp only [Zn,IFJ,q15,Zj,q28,b29] at hres
     cases hres
     simp only [Yr,COL,UA,reduceAdd,reduceLeDiff,Nat.reduceBEq,a1,a3,ix6,hh7,e13,y14e,hh16,e24,LG g23,LG g21,e25,c26,b29]
     try rfl
    ·simp only [Zn,IFJ,q15,Zj,q28,b29] at hres
     have hx:=Vk hC M x0 x1 hM hp0 okx0 okx1 hb k0 k0T hk0 r6 (q6 ++ [x6]) m h20 a4 (by simpa using hr) (by omega) res hres
     simp only [Yr,COL,UA,reduceAdd,reduceLeDiff,Nat.reduceBEq,a1,a3,ix6,hh7,e13,y14e,hh16,e24,LG g23,LG g21,e25,c26,b29,hx]
     try rfl
def Yv:Option Bool :=
 some true
noncomputable def Yy (x0:List Zc1)(x1:List Zc1):Option Bool :=
 if (decide ((x0.length:Int)≠(x1.length:Int)))=true then some false else Zn x1 (Yv) x0 []
theorem GL {C:Cfg}(hC:Sr C)(N:Nat)(x0:List Zc1)(x1:List Zc1)(hN:3≤N)(hp0:HP)(okx0:OkL 48 ZjO x0)(okx1:OkL 48 ZjO x1){res}(hres:Yy x0 x1=some res):Za C N Vo [(.lst 3 (x0.map DV)),(.lst 3 (x1.map DV)),(.fn Lj [] [])] hp0=some ((AV.bool res),hp0,none):=by
 obtain ⟨M,rfl,hh⟩:=exM hp0 (by omega:1≤N)
 refine TC (by rw [hC.T]; rfl) ?_
 rcases Bool.eq_false_or_eq_true ((decide ((x0.length:Int)≠(x1.length:Int)))) with b2 | b2
 ·simp only [Yy,IFJ,b2] at hres
  cases hres
  simp only [Qi,Yq,COL,UA,reduceAdd,reduceLeDiff,Nat.reduceBEq,b2]
  try rfl
 ·simp only [Yy,IFJ,b2] at hres
  have hk3:∀ (hp3:HP),hp0.length≤hp3.length→∀ res,Yv=some res→(Yq C.G (Za C M) C.L hp0) hp3 none=some ((AV.bool res),hp0,none):=by
   intro hp3 hh3  res hres
   simp only [Yv,IFJ] at hres
   cases hres
   simp only [Qi,Yq,COL,UA,reduceAdd,reduceLeDiff,Nat.reduceBEq,b2]
   try rfl
  have hb':x0.length≤4611686018427387:=(by have:=(okx0).1; omega)
  have hx:=Vk hC M x0 x1 (by omega) hp0 okx0 okx1 hb' (Yq C.G (Za C M) C.L hp0) (Yv) hk3 x0 [] C.L hp0 rfl (by have:=hC.L; omega) (by omega) res hres
  try simp only [NIL] at hx
  simp only [Qi,Yq,COL,UA,reduceAdd,reduceLeDiff,Nat.reduceBEq,b2,hx]
  try rfl
noncomputable def YF (x0:Zo)(x1:Zo):Option Bool :=
 if (decide (x0.Name=x1.Name))=true then (Jp ((Qm x0.Vars x1.Vars)) fun v2=>if v2=true then (Jp ((Zx x0.Resources x1.Resources)) fun v3=>if v3=true then (Jp ((Qs x0.Stores x1.Stores)) fun v4=>if v4=true then (Jp ((Q4 x0.Belts x1.Belts)) fun v5=>if v5=true then (Jp ((YE x0.Queues x1.Queues)) fun v6=>if v6=true then (Jp ((YE x0.Streams x1.Streams)) fun v7=>if v7=true then (Jp ((YE x0.Tallies x1.Tallies)) fun v8=>if v8=true then (Jp ((YE x0.Levels x1.Levels)) fun v9=>if v9=true then (Jp ((YE x0.Counts x1.Counts)) fun v10=>if v10=true then (Jp ((ZM x0.Routines x1.Routines)) fun v11=>if v11=true then (Jp ((ZZ x0.Starts x1.Starts)) fun v12=>if v12=true then (Jp ((Yy x0.Laws x1.Laws)) fun v13=>some v13) else some false) else some false) else some false) else some false) else some false) else some false) else some false) else some false) else some false) else some false) else some false) else some false
theorem Zpi {C:Cfg}(hC:Sr C)(N:Nat)(x0:Zo)(x1:Zo)(hN:6 * SizeOf.sizeOf x0 + 5≤N)(hp0:HP)(okx0:YO x0)(okx1:YO x1){res}(hres:YF x0 x1=some res):Za C N Tq [(.agg (Zk x0)),(.agg (Zk x1))] hp0=some ((AV.bool res),hp0,none):=by
 obtain ⟨M,rfl,hh⟩:=exM hp0 (by omega:1≤N)
 refine ZlZ (by rw [hC.T]; rfl) ?_
 obtain ⟨h2,hh2,g3,l4⟩:=mkH hp0 (Z5.cells (Zk x0) Zb)
 obtain ⟨h5,hh5,g6,l7⟩:=mkH h2 (Z5.cells (Zk x1) Zb)
 have g8:=keA hh5 g3
 rcases Bool.eq_false_or_eq_true ((decide (x0.Name=x1.Name))) with b9 | b9
 ·cases q12:(Qm x0.Vars x1.Vars) with
  | none =>
   simp only [YF,IFJ,WT,b9,q12] at hres; cases hres
  | some v11 =>
   have c10:=fun hp:HP=>MW hC M x0.Vars x1.Vars (by omega) hp okx0.Vars okx1.Vars q12
   rcases Bool.eq_false_or_eq_true (v11) with b13 | b13
   ·cases q16:(Zx x0.Resources x1.Resources) with
    | none =>
     simp only [YF,IFJ,WT,b9,q12,Zj,b13,q16] at hres; cases hres
    | some v15 =>
     have c14:=fun hp:HP=>XQ hC M x0.Resources x1.Resources (by omega) hp okx0.Resources okx1.Resources q16
     rcases Bool.eq_false_or_eq_true (v15) with b17 | b17
     ·cases q20:(Qs x0.Stores x1.Stores) with
      | none =>
       simp only [YF,IFJ,WT,b9,q12,Zj,b13,q16,Zj,b17,q20] at hres; cases hres
      | some v19 =>
       have c18:=fun hp:HP=>Ph hC M x0.Stores x1.Stores (by omega) hp okx0.Stores okx1.Stores q20
       rcases Bool.eq_false_or_eq_true (v19) with b21 | b21
       ·cases q24:(Q4 x0.Belts x1.Belts) with
        | none =>
         simp only [YF,IFJ,WT,b9,q12,Zj,b13,q16,Zj,b17,q20,Zj,b21,q24] at hres; cases hres
        | some v23 =>
         have c22:=fun hp:HP=>NE hC M x0.Belts x1.Belts (by omega) hp okx0.Belts okx1.Belts q24
         rcases Bool.eq_false_or_eq_true (v23) with b25 | b25
         ·cases q28:(YE x0.Queues x1.Queues) with
          | none =>
           simp only [YF,IFJ,WT,b9,q12,Zj,b13,q16,Zj,b17,q20,Zj,b21,q24,Zj,b25,q28] at hres; cases hres
          | some v27 =>
           have c26:=fun hp:HP=>Uc hC M x0.Queues x1.Queues (by omega) hp okx0.Queues okx1.Queues q28
           rcases Bool.eq_false_or_eq_true (v27) with b29 | b29
           ·cases q32:(YE x0.Streams x1.Streams) with
            | none =>
             simp only [YF,IFJ,WT,b9,q12,Zj,b13,q16,Zj,b17,q20,Zj,b21,q24,Zj,b25,q28,Zj,b29,q32] at hres; cases hres
            | some v31 =>
             have c30:=fun hp:HP=>Uc hC M x0.Streams x1.Streams (by omega) hp okx0.Streams okx1.Streams q32
             rcases Bool.eq_false_or_eq_true (v31) with b33 | b33
             ·cases q36:(YE x0.Tallies x1.Tallies) with
              | none =>
               simp only [YF,IFJ,WT,b9,q12,Zj,b13,q16,Zj,b17,q20,Zj,b21,q24,Zj,b25,q28,Zj,b29,q32,Zj,b33,q36] at hres; cases hres
              | some v35 =>
               have c34:=fun hp:HP=>Uc hC M x0.Tallies x1.Tallies (by omega) hp okx0.Tallies okx1.Tallies q36
               rcases Bool.eq_false_or_eq_true (v35) with b37 | b37
               ·cases q40:(YE x0.Levels x1.Levels) with
                | none =>
                 simp only [YF,IFJ,WT,b9,q12,Zj,b13,q16,Zj,b17,q20,Zj,b21,q24,Zj,b25,q28,Zj,b29,q32,Zj,b33,q36,Zj,b37,q40] at hres; cases hres
                | some v39 =>
                 have c38:=fun hp:HP=>Uc hC M x0.Levels x1.Levels (by omega) hp okx0.Levels okx1.Levels q40
                 rcases Bool.eq_false_or_eq_true (v39) with b41 | b41
                 ·cases q44:(YE x0.Counts x1.Counts) with
                  | none =>
                   simp only [YF,IFJ,WT,b9,q12,Zj,b13,q16,Zj,b17,q20,Zj,b21,q24,Zj,b25,q28,Zj,b29,q32,Zj,b33,q36,Zj,b37,q40,Zj,b41,q44] at hres; cases hres
                  | some v43 =>
                   have c42:=fun hp:HP=>Uc hC M x0.Counts x1.Counts (by omega) hp okx0.Counts okx1.Counts q44
                   rcases Bool.eq_false_or_eq_true (v43) with b45 | b45
                   ·cases q48:(ZM x0.Routines x1.Routines) with
                    | none =>
                     simp only [YF,IFJ,WT,b9,q12,Zj,b13,q16,Zj,b17,q20,Zj,b21,q24,Zj,b25,q28,Zj,b29,q32,Zj,b33,q36,Zj,b37,q40,Zj,b41,q44,Zj,b45,q48] at hres; cases hres
                    | some v47 =>
                     have c46:=fun hp:HP=>JA hC M x0.Routines x1.Routines (by have:=Zcl x0; omega) hp okx0.Routines okx1.Routines q48
                     rcases Bool.eq_false_or_eq_true (v47) with b49 | b49
                     ·cases q52:(ZZ x0.Starts x1.Starts) with
                      | none =>
                       simp only [YF,IFJ,WT,b9,q12,Zj,b13,q16,Zj,b17,q20,Zj,b21,q24,Zj,b25,q28,Zj,b29,q32,Zj,b33,q36,Zj,b37,q40,Zj,b41,q44,Zj,b45,q48,Zj,b49,q52] at hres; cases hres
                      | some v51 =>
                       have c50:=fun hp:HP=>UD hC M x0.Starts x1.Starts (by omega) hp okx0.Starts okx1.Starts q52
                       rcases Bool.eq_false_or_eq_true (v51) with b53 | b53
                       ·cases q56:(Yy x0.Laws x1.Laws) with
                        | none =>
                         simp only [YF,IFJ,WT,b9,q12,Zj,b13,q16,Zj,b17,q20,Zj,b21,q24,Zj,b25,q28,Zj,b29,q32,Zj,b33,q36,Zj,b37,q40,Zj,b41,q44,Zj,b45,q48,Zj,b49,q52,Zj,b53,q56] at hres; cases hres
                        | some v55 =>
                         have c54:=fun hp:HP=>GL hC M x0.Laws x1.Laws (by omega) hp okx0.Laws okx1.Laws q56
                         simp only [YF,IFJ,b9,q12,Zj,b13,q16,b17,q20,b21,q24,b25,q28,b29,q32,b33,q36,b37,q40,b41,q44,b45,q48,b49,q52,b53,q56] at hres
                         cases hres
                         simp only [V6,COL,ZY,reduceAdd,reduceLeDiff,Nat.reduceBEq,hh2,hh5,LG g8,LG g6,b9,c10,b13,c14,b17,c18,b21,c22,b25,c26,b29,c30,b33,c34,b37,c38,b41,c42,b45,c46,b49,c50,b53,c54]
                         try rfl
                       ·simp only [YF,IFJ,b9,q12,Zj,b13,q16,b17,q20,b21,q24,b25,q28,b29,q32,b33,q36,b37,q40,b41,q44,b45,q48,b49,q52,b53] at hres
                        cases hres
                        simp only [V6,COL,ZY,reduceAdd,reduceLeDiff,Nat.reduceBEq,hh2,hh5,LG g8,LG g6,b9,c10,b13,c14,b17,c18,b21,c22,b25,c26,b29,c30,b33,c34,b37,c38,b41,c42,b45,c46,b49,c50,b53]
                        try rfl
                     ·simp only [YF,IFJ,b9,q12,Zj,b13,q16,b17,q20,b21,q24,b25,q28,b29,q32,b33,q36,b37,q40,b41,q44,b45,q48,b49] at hres
                      cases hres
                      simp only [V6,COL,ZY,reduceAdd,reduceLeDiff,Nat.reduceBEq,hh2,hh5,LG g8,LG g6,b9,c10,b13,c14,b17,c18,b21,c22,b25,c26,b29,c30,b33,c34,b37,c38,b41,c42,b45,c46,b49]
                      try rfl
                   ·simp only [YF,IFJ,b9,q12,Zj,b13,q16,b17,q20,b21,q24,b25,q28,b29,q32,b33,q36,b37,q40,b41,q44,b45] at hres
                    cases hres
                    simp only [V6,COL,ZY,reduceAdd,reduceLeDiff,Nat.reduceBEq,hh2,hh5,LG g8,LG g6,b9,c10,b13,c14,b17,c18,b21,c22,b25,c26,b29,c30,b33,c34,b37,c38,b41,c42,b45]
                    try rfl
                 ·simp only [YF,IFJ,b9,q12,Zj,b13,q16,b17,q20,b21,q24,b25,q28,b29,q32,b33,q36,b37,q40,b41] at hres
                  cases hres
                  simp only [V6,COL,ZY,reduceAdd,reduceLeDiff,Nat.reduceBEq,hh2,hh5,LG g8,LG g6,b9,c10,b13,c14,b17,c18,b21,c22,b25,c26,b29,c30,b33,c34,b37,c38,b41]
                  try rfl
               ·simp only [YF,IFJ,b9,q12,Zj,b13,q16,b17,q20,b21,q24,b25,q28,b29,q32,b33,q36,b37] at hres
                cases hres
                simp only [V6,COL,ZY,reduceAdd,reduceLeDiff,Nat.reduceBEq,hh2,hh5,LG g8,LG g6,b9,c10,b13,c14,b17,c18,b21,c22,b25,c26,b29,c30,b33,c34,b37]
                try rfl
             ·simp only [YF,IFJ,b9,q12,Zj,b13,q16,b17,q20,b21,q24,b25,q28,b29,q32,b33] at hres
              cases hres
              simp only [V6,COL,ZY,reduceAdd,reduceLeDiff,Nat.reduceBEq,hh2,hh5,LG g8,LG g6,b9,c10,b13,c14,b17,c18,b21,c22,b25,c26,b29,c30,b33]
              try rfl
           ·simp only [YF,IFJ,b9,q12,Zj,b13,q16,b17,q20,b21,q24,b25,q28,b29] at hres
            cases hres
            simp only [V6,COL,ZY,reduceAdd,reduceLeDiff,Nat.reduceBEq,hh2,hh5,LG g8,LG g6,b9,c10,b13,c14,b17,c18,b21,c22,b25,c26,b29]
            try rfl
         ·simp only [YF,IFJ,b9,q12,Zj,b13,q16,b17,q20,b21,q24,b25] at hres
          cases hres
          simp only [V6,COL,ZY,reduceAdd,reduceLeDiff,Nat.reduceBEq,hh2,hh5,LG g8,LG g6,b9,c10,b13,c14,b17,c18,b21,c22,b25]
          try rfl
       ·simp only [YF,IFJ,b9,q12,Zj,b13,q16,b17,q20,b21] at hres
        cases hres
        simp only [V6,COL,ZY,reduceAdd,reduceLeDiff,Nat.reduceBEq,hh2,hh5,LG g8,LG g6,b9,c10,b13,c14,b17,c18,b21]
        try rfl
     ·simp only [YF,IFJ,b9,q12,Zj,b13,q16,b17] at hres
      cases hres
      simp only [V6,COL,ZY,reduceAdd,reduceLeDiff,Nat.reduceBEq,hh2,hh5,LG g8,LG g6,b9,c10,b13,c14,b17]
      try rfl
   ·simp only [YF,IFJ,b9,q12,Zj,b13] at hres
    cases hres
    simp only [V6,COL,ZY,reduceAdd,reduceLeDiff,Nat.reduceBEq,hh2,hh5,LG g8,LG g6,b9,c10,b13]
    try rfl
 ·simp only [YF,IFJ,b9] at hres
  cases hres
  simp only [V6,COL,ZY,reduceAdd,reduceLeDiff,Nat.reduceBEq,hh2,hh5,LG g8,LG g6,b9]
  try rfl
noncomputable def Zg (x1:List Zo)(k0T:Option Bool):List Zo→List Zo→Option Bool
 | [],q0=>k0T
 | x0 :: r0,q0=>Jp (PN x1 (q0.length:Int)) fun y2=>Jp ((YF x0 y2)) fun v3=>if (!v3)=true then some false else (Zg x1 k0T r0) (q0 ++ [x0])
theorem QH {C:Cfg}(hC:Sr C)(M:Nat)(x0:List Zo)(x1:List Zo)(hM:6 * SizeOf.sizeOf x0 + 5≤M)(hp0:HP)(okx0:OkL 304 YO x0)(okx1:OkL 304 YO x1)(hb:x0.length≤4611686018427387)(k0:HP→Eff→KR)(k0T:Option Bool)(hk0:HkB hp0 k0 k0T):∀ (r6 q6:List Zo) (m:Nat) (hp:HP),x0=q6 ++ r6→r6.length < m→hp0.length≤hp.length→∀ res,Zg x1 k0T r6 q6=some res→ZA C.G (Za C M) C.L hp0 k0 m (.lst 13 (x1.map Zk)) (.fn Tq [] []) (.lst 13 (x0.map Zk)) (.int .i64 (x0.length:Int)) (.int .i64 (q6.length:Int)) hp none=some ((AV.bool res),hp0,none)
 | _,_,0,_,_,h,_,_,_=>by omega
 | [],q6,m + 1,hp,h,hr,hh,res,hres=>by
  have l0:=lp0 h
  simp only [Zg,IFJ] at hres
  have hx:=hk0  hp (by omega) res hres
  simp only [ZA,COL,ZY,reduceAdd,reduceLeDiff,Nat.reduceBEq,l0,hx]
  try rfl
 | x6 :: r6,q6,m + 1,hp,h,hr,hh,res,hres=>by
  obtain ⟨a1,-,a3,a4,a5⟩:=lp (Zk) h hb
  have me6:=a5
  have a2:(x0.map Zk)[q6.length]? = some (Zk x6):=(lp (Zk) h hb).2.1
  have okx6:=(okx0).2 _ a5
  have ix6:Y4 (.slice 13) (.lst 13 (x0.map Zk)) (.int .i64 (q6.length:Int))=some (.ref (Zk x6)):=by rw [Qu,a2]; rfl
  obtain ⟨h7,hh7,g8,l9⟩:=mkH hp (Z5.cells [(.str []),(.own 3 []),(.own 17 []),(.own 3 []),(.own 3 []),(.own 1 []),(.own 1 []),(.own 1 []),(.own 1 []),(.own 1 []),(.own 4 []),(.own 5 []),(.own 3 [])] Zb)
  obtain ⟨h10,hh10,g11,l12⟩:=seH g8 (Z5.cells (Zk x6) Zb)
  have e13:stV hp0.length 13 (.ptr hp.length 0) (.agg (Zk x6)) h7 none=some (h10,none):=by rw [← hh10]; exact DW g8 (by first | rfl | exact Ah _) (by simp) rfl (by omega) (by rw [Gx]; exact UH (by exact Ah _) (by rfl))
  cases q15:PN x1 (q6.length:Int) with
  | none =>
   simp only [Zg,IFJ,WT,q15] at hres; cases hres
  | some y14 =>
   have y14e:Y4 (.slice 13) (.lst 13 (x1.map Zk)) (.int .i64 (q6.length:Int))=some (.ref (Zk y14)):=MR (row := Zk) q15
   have oky14:=(okx1).2 _ (WJ q15)
   have memy14:=WJ q15
   obtain ⟨h16,hh16,g17,l18⟩:=mkH h10 (Z5.cells [(.str []),(.own 3 []),(.own 17 []),(.own 3 []),(.own 3 []),(.own 1 []),(.own 1 []),(.own 1 []),(.own 1 []),(.own 1 []),(.own 4 []),(.own 5 []),(.own 3 [])] Zb)
   have g19:=keA hh16 g11
   obtain ⟨h20,hh20,g21,l22⟩:=seH g17 (Z5.cells (Zk y14) Zb)
   have g23:=keS hh20 g19 (by omega)
   have e24:stV hp0.length 13 (.ptr h10.length 0) (.agg (Zk y14)) h16 none=some (h20,none):=by rw [← hh20]; exact DW g17 (by first | rfl | exact Ah _) (by simp) rfl (by omega) (by rw [Gx]; exact UH (by exact Ah _) (by rfl))
   have e25:Uo (Za C M) (.fn Tq [] []) [(.agg (Zk x6)),(.agg (Zk y14))] h20=Za C M Tq [(.agg (Zk x6)),(.agg (Zk y14))] h20:=rfl
   cases q28:(YF x6 y14) with
   | none =>
    simp only [Zg,IFJ,WT,q15,Zj,q28] at hres; cases hres
   | some v27 =>
    have c26:=fun hp:HP=>Zpi hC M x6 y14 (by have:=List.sizeOf_lt_of_mem me6; omega) hp okx6 oky14 q28
    rcases Bool.eq_false_or_eq_true ((!v27)) with b29 | b29
    ·simp only [Zg,IFJ,q15,Zj,q28,b29] at hres
     cases hres
     simp only [ZA,COL,ZY,reduceAdd,reduceLeDiff,Nat.reduceBEq,a1,a3,ix6,hh7,e13,y14e,hh16,e24,LG g23,LG g21,e25,c26,b29]
     try rfl
    ·simp only [Zg,IFJ,q15,Zj,q28,b29] at hres
     have hx:=QH hC M x0 x1 hM hp0 okx0 okx1 hb k0 k0T hk0 r6 (q6 ++ [x6]) m h20 a4 (by simpa using hr) (by omega) res hres
     simp only [ZA,COL,ZY,reduceAdd,reduceLeDiff,Nat.reduceBEq,a1,a3,ix6,hh7,e13,y14e,hh16,e24,LG g23,LG g21,e25,c26,b29,hx]
     try rfl
def ZG:Option Bool :=
 some true
noncomputable def ZK (x0:List Zo)(x1:List Zo):Option Bool :=
 if (decide ((x0.length:Int)≠(x1.length:Int)))=true then some false else Zg x1 (ZG) x0 []
theorem Jw {C:Cfg}(hC:Sr C)(N:Nat)(x0:List Zo)(x1:List Zo)(hN:6 * SizeOf.sizeOf x0 + 6≤N)(hp0:HP)(okx0:OkL 304 YO x0)(okx1:OkL 304 YO x1){res}(hres:ZK x0 x1=some res):Za C N Qv [(.lst 13 (x0.map Zk)),(.lst 13 (x1.map Zk)),(.fn Tq [] [])] hp0=some ((AV.bool res),hp0,none):=by
 obtain ⟨M,rfl,hh⟩:=exM hp0 (by omega:1≤N)
 refine UY (by rw [hC.T]; rfl) ?_
 rcases Bool.eq_false_or_eq_true ((decide ((x0.length:Int)≠(x1.length:Int)))) with b2 | b2
 ·simp only [ZK,IFJ,b2] at hres
  cases hres
  simp only [Y7,Z9,COL,ZY,reduceAdd,reduceLeDiff,Nat.reduceBEq,b2]
  try rfl
 ·simp only [ZK,IFJ,b2] at hres
  have hk3:∀ (hp3:HP),hp0.length≤hp3.length→∀ res,ZG=some res→(Z9 C.G (Za C M) C.L hp0) hp3 none=some ((AV.bool res),hp0,none):=by
   intro hp3 hh3  res hres
   simp only [ZG,IFJ] at hres
   cases hres
   simp only [Y7,Z9,COL,ZY,reduceAdd,reduceLeDiff,Nat.reduceBEq,b2]
   try rfl
  have hb':x0.length≤4611686018427387:=(by have:=(okx0).1; omega)
  have hx:=QH hC M x0 x1 (by omega) hp0 okx0 okx1 hb' (Z9 C.G (Za C M) C.L hp0) (ZG) hk3 x0 [] C.L hp0 rfl (by have:=hC.L; omega) (by omega) res hres
  try simp only [NIL] at hx
  simp only [Y7,Z9,COL,ZY,reduceAdd,reduceLeDiff,Nat.reduceBEq,b2,hx]
  try rfl
noncomputable def YW (x1:List EU)(k0T:Option Bool):List EU→List EU→Option Bool
 | [],q0=>k0T
 | x0 :: r0,q0=>Jp (PN x1 (q0.length:Int)) fun y2=>if (!(eqv x0 y2))=true then some false else (YW x1 k0T r0) (q0 ++ [x0])
theorem TP {C:Cfg}(hC:Sr C)(M:Nat)(x0:List EU)(x1:List EU)(hM:0≤M)(hp0:HP)(okx1:OkL 40 Zvg x1)(hb:x0.length≤4611686018427387)(k0:HP→Eff→KR)(k0T:Option Bool)(hk0:HkB hp0 k0 k0T):∀ (r6 q6:List EU) (m:Nat) (hp:HP),x0=q6 ++ r6→r6.length < m→hp0.length≤hp.length→∀ res,YW x1 k0T r6 q6=some res→Qc C.G (Za C M) C.L hp0 k0 m (.lst 3 (x0.map GH)) (.lst 3 (x1.map GH)) (.int .i64 (x0.length:Int)) (.int .i64 (q6.length:Int)) hp none=some ((AV.bool res),hp0,none)
 | _,_,0,_,_,h,_,_,_=>by omega
 | [],q6,m + 1,hp,h,hr,hh,res,hres=>by
  have l0:=lp0 h
  simp only [YW,IFJ] at hres
  have hx:=hk0  hp (by omega) res hres
  simp only [Qc,COL,EI,ZbG,reduceAdd,reduceLeDiff,Nat.reduceBEq,l0,hx]
  try rfl
 | x6 :: r6,q6,m + 1,hp,h,hr,hh,res,hres=>by
  obtain ⟨a1,-,a3,a4,a5⟩:=lp (GH) h hb
  have me6:=a5
  have a2:(x0.map GH)[q6.length]? = some (GH x6):=(lp (GH) h hb).2.1
  have ix6:Y4 (.slice 3) (.lst 3 (x0.map GH)) (.int .i64 (q6.length:Int))=some (.ref (GH x6)):=by rw [Qu,a2]; rfl
  cases q8:PN x1 (q6.length:Int) with
  | none =>
   simp only [YW,IFJ,WT,q8] at hres; cases hres
  | some y7 =>
   have y7e:Y4 (.slice 3) (.lst 3 (x1.map GH)) (.int .i64 (q6.length:Int))=some (.ref (GH y7)):=MR (row := GH) q8
   have oky7:=(okx1).2 _ (WJ q8)
   have memy7:=WJ q8
   rcases Bool.eq_false_or_eq_true ((!(eqv x6 y7))) with b9 | b9
   ·simp only [YW,IFJ,q8,Zj,b9] at hres
    cases hres
    simp only [Qc,COL,EI,ZbG,reduceAdd,reduceLeDiff,Nat.reduceBEq,a1,a3,ix6,y7e,b9]
    try rfl
   ·simp only [YW,IFJ,q8,Zj,b9] at hres
    have hx:=TP hC M x0 x1 hM hp0 okx1 hb k0 k0T hk0 r6 (q6 ++ [x6]) m hp a4 (by simpa using hr) (by omega) res hres
    simp only [Qc,COL,EI,ZbG,reduceAdd,reduceLeDiff,Nat.reduceBEq,a1,a3,ix6,y7e,b9,hx]
    try rfl
def Xl:Option Bool :=
 some true
noncomputable def XE (x0:List EU)(x1:List EU):Option Bool :=
 if (decide ((x0.length:Int)≠(x1.length:Int)))=true then some false else YW x1 (Xl) x0 []
theorem Zad {C:Cfg}(hC:Sr C)(N:Nat)(x0:List EU)(x1:List EU)(hN:1≤N)(hp0:HP)(okx0:OkL 40 Zvg x0)(okx1:OkL 40 Zvg x1){res}(hres:XE x0 x1=some res):Za C N Hw [(.lst 3 (x0.map GH)),(.lst 3 (x1.map GH))] hp0=some ((AV.bool res),hp0,none):=by
 obtain ⟨M,rfl,hh⟩:=exM hp0 (by omega:1≤N)
 refine FC (by rw [hC.T]; rfl) ?_
 rcases Bool.eq_false_or_eq_true ((decide ((x0.length:Int)≠(x1.length:Int)))) with b2 | b2
 ·simp only [XE,IFJ,b2] at hres
  cases hres
  simp only [VH,Qb,COL,EI,ZbG,reduceAdd,reduceLeDiff,Nat.reduceBEq,b2]
  try rfl
 ·simp only [XE,IFJ,b2] at hres
  have hk3:∀ (hp3:HP),hp0.length≤hp3.length→∀ res,Xl=some res→(Qb C.G (Za C M) C.L hp0) hp3 none=some ((AV.bool res),hp0,none):=by
   intro hp3 hh3  res hres
   simp only [Xl,IFJ] at hres
   cases hres
   simp only [VH,Qb,COL,EI,ZbG,reduceAdd,reduceLeDiff,Nat.reduceBEq,b2]
   try rfl
  have hb':x0.length≤4611686018427387:=(by have:=(okx0).1; omega)
  have hx:=TP hC M x0 x1 (by omega) hp0 okx1 hb' (Qb C.G (Za C M) C.L hp0) (Xl) hk3 x0 [] C.L hp0 rfl (by have:=hC.L; omega) (by omega) res hres
  try simp only [NIL] at hx
  simp only [VH,Qb,COL,EI,ZbG,reduceAdd,reduceLeDiff,Nat.reduceBEq,b2,hx]
  try rfl
noncomputable def MX (x0:JD)(x1:JD):Option Bool :=
 if (decide (x0.Name=x1.Name))=true then (Jp ((Qm x0.Params x1.Params)) fun v2=>if v2=true then (Jp ((ZK x0.Sites x1.Sites)) fun v3=>if v3=true then (Jp ((XE x0.Links x1.Links)) fun v4=>some v4) else some false) else some false) else some false
theorem ZwO {C:Cfg}(hC:Sr C)(N:Nat)(x0:JD)(x1:JD)(hN:6 * SizeOf.sizeOf x0 + 7≤N)(hp0:HP)(okx0:Lp x0)(okx1:Lp x1){res}(hres:MX x0 x1=some res):Za C N Cm [(.agg (Vz x0)),(.agg (Vz x1))] hp0=some ((AV.bool res),hp0,none):=by
 obtain ⟨M,rfl,hh⟩:=exM hp0 (by omega:1≤N)
 refine Zs5 (by rw [hC.T]; rfl) ?_
 obtain ⟨h2,hh2,g3,l4⟩:=mkH hp0 (Z5.cells (Vz x0) Yo)
 obtain ⟨h5,hh5,g6,l7⟩:=mkH h2 (Z5.cells (Vz x1) Yo)
 have g8:=keA hh5 g3
 rcases Bool.eq_false_or_eq_true ((decide (x0.Name=x1.Name))) with b9 | b9
 ·cases q12:(Qm x0.Params x1.Params) with
  | none =>
   simp only [MX,IFJ,WT,b9,q12] at hres; cases hres
  | some v11 =>
   have c10:=fun hp:HP=>MW hC M x0.Params x1.Params (by omega) hp okx0.Params okx1.Params q12
   rcases Bool.eq_false_or_eq_true (v11) with b13 | b13
   ·cases q16:(ZK x0.Sites x1.Sites) with
    | none =>
     simp only [MX,IFJ,WT,b9,q12,Zj,b13,q16] at hres; cases hres
    | some v15 =>
     have c14:=fun hp:HP=>Jw hC M x0.Sites x1.Sites (by have:=ZjJ x0; omega) hp okx0.Sites okx1.Sites q16
     rcases Bool.eq_false_or_eq_true (v15) with b17 | b17
     ·cases q20:(XE x0.Links x1.Links) with
      | none =>
       simp only [MX,IFJ,WT,b9,q12,Zj,b13,q16,Zj,b17,q20] at hres; cases hres
      | some v19 =>
       have c18:=fun hp:HP=>Zad hC M x0.Links x1.Links (by omega) hp okx0.Links okx1.Links q20
       simp only [MX,IFJ,b9,q12,Zj,b13,q16,b17,q20] at hres
       cases hres
       simp only [ZbA,COL,PP,reduceAdd,reduceLeDiff,Nat.reduceBEq,hh2,hh5,LG g8,LG g6,b9,c10,b13,c14,b17,c18]
       try rfl
     ·simp only [MX,IFJ,b9,q12,Zj,b13,q16,b17] at hres
      cases hres
      simp only [ZbA,COL,PP,reduceAdd,reduceLeDiff,Nat.reduceBEq,hh2,hh5,LG g8,LG g6,b9,c10,b13,c14,b17]
      try rfl
   ·simp only [MX,IFJ,b9,q12,Zj,b13] at hres
    cases hres
    simp only [ZbA,COL,PP,reduceAdd,reduceLeDiff,Nat.reduceBEq,hh2,hh5,LG g8,LG g6,b9,c10,b13]
    try rfl
 ·simp only [MX,IFJ,b9] at hres
  cases hres
  simp only [ZbA,COL,PP,reduceAdd,reduceLeDiff,Nat.reduceBEq,hh2,hh5,LG g8,LG g6,b9]
  try rfl
noncomputable def Jn (x1:List Uy)(k0T:Option Bool):List Uy→List Uy→Option Bool
 | [],q0=>k0T
 | x0 :: r0,q0=>Jp (PN x1 (q0.length:Int)) fun y2=>if (!(eqv x0 y2))=true then some false else (Jn x1 k0T r0) (q0 ++ [x0])
theorem Zdt {C:Cfg}(hC:Sr C)(M:Nat)(x0:List Uy)(x1:List Uy)(hM:0≤M)(hp0:HP)(okx1:OkL 32 ZcD x1)(hb:x0.length≤4611686018427387)(k0:HP→Eff→KR)(k0T:Option Bool)(hk0:HkB hp0 k0 k0T):∀ (r6 q6:List Uy) (m:Nat) (hp:HP),x0=q6 ++ r6→r6.length < m→hp0.length≤hp.length→∀ res,Jn x1 k0T r6 q6=some res→UU C.G (Za C M) C.L hp0 k0 m (.lst 3 (x0.map X7)) (.lst 3 (x1.map X7)) (.int .i64 (q6.length:Int)) hp none=some ((AV.bool res),hp0,none)
 | _,_,0,_,_,h,_,_,_=>by omega
 | [],q6,m + 1,hp,h,hr,hh,res,hres=>by
  have l0:=lp0 h
  simp only [Jn,IFJ] at hres
  have hx:=hk0  hp (by omega) res hres
  simp only [UU,COL,FQ,Zcg,reduceAdd,reduceLeDiff,Nat.reduceBEq,l0,hx]
  try rfl
 | x6 :: r6,q6,m + 1,hp,h,hr,hh,res,hres=>by
  obtain ⟨a1,-,a3,a4,a5⟩:=lp (X7) h hb
  have me6:=a5
  have a2:(x0.map X7)[q6.length]? = some (X7 x6):=(lp (X7) h hb).2.1
  have ix6:Y4 (.slice 3) (.lst 3 (x0.map X7)) (.int .i64 (q6.length:Int))=some (.ref (X7 x6)):=by rw [Qu,a2]; rfl
  cases q8:PN x1 (q6.length:Int) with
  | none =>
   simp only [Jn,IFJ,WT,q8] at hres; cases hres
  | some y7 =>
   have y7e:Y4 (.slice 3) (.lst 3 (x1.map X7)) (.int .i64 (q6.length:Int))=some (.ref (X7 y7)):=MR (row := X7) q8
   have oky7:=(okx1).2 _ (WJ q8)
   have memy7:=WJ q8
   rcases Bool.eq_false_or_eq_true ((!(eqv x6 y7))) with b9 | b9
   ·simp only [Jn,IFJ,q8,Zj,b9] at hres
    cases hres
    simp only [UU,COL,FQ,Zcg,reduceAdd,reduceLeDiff,Nat.reduceBEq,a1,a3,ix6,y7e,b9]
    try rfl
   ·simp only [Jn,IFJ,q8,Zj,b9] at hres
    have hx:=Zdt hC M x0 x1 hM hp0 okx1 hb k0 k0T hk0 r6 (q6 ++ [x6]) m hp a4 (by simpa using hr) (by omega) res hres
    simp only [UU,COL,FQ,Zcg,reduceAdd,reduceLeDiff,Nat.reduceBEq,a1,a3,ix6,y7e,b9,hx]
    try rfl
def Ou:Option Bool :=
 some true
noncomputable def I7 (x0:List Uy)(x1:List Uy):Option Bool :=
 if (decide ((x0.length:Int)≠(x1.length:Int)))=true then some false else Jn x1 (Ou) x0 []
theorem Zgq {C:Cfg}(hC:Sr C)(N:Nat)(x0:List Uy)(x1:List Uy)(hN:1≤N)(hp0:HP)(okx0:OkL 32 ZcD x0)(okx1:OkL 32 ZcD x1){res}(hres:I7 x0 x1=some res):Za C N FK [(.lst 3 (x0.map X7)),(.lst 3 (x1.map X7))] hp0=some ((AV.bool res),hp0,none):=by
 obtain ⟨M,rfl,hh⟩:=exM hp0 (by omega:1≤N)
 refine Zmf (by rw [hC.T]; rfl) ?_
 rcases Bool.eq_false_or_eq_true ((decide ((x0.length:Int)≠(x1.length:Int)))) with b2 | b2
 ·simp only [I7,IFJ,b2] at hres
  cases hres
  simp only [Ns,UT,COL,FQ,Zcg,reduceAdd,reduceLeDiff,Nat.reduceBEq,b2]
  try rfl
 ·simp only [I7,IFJ,b2] at hres
  have hk3:∀ (hp3:HP),hp0.length≤hp3.length→∀ res,Ou=some res→(UT C.G (Za C M) C.L hp0) hp3 none=some ((AV.bool res),hp0,none):=by
   intro hp3 hh3  res hres
   simp only [Ou,IFJ] at hres
   cases hres
   simp only [Ns,UT,COL,FQ,Zcg,reduceAdd,reduceLeDiff,Nat.reduceBEq,b2]
   try rfl
  have hb':x0.length≤4611686018427387:=(by have:=(okx0).1; omega)
  have hx:=Zdt hC M x0 x1 (by omega) hp0 okx1 hb' (UT C.G (Za C M) C.L hp0) (Ou) hk3 x0 [] C.L hp0 rfl (by have:=hC.L; omega) (by omega) res hres
  try simp only [NIL] at hx
  simp only [Ns,UT,COL,FQ,Zcg,reduceAdd,reduceLeDiff,Nat.reduceBEq,b2,hx]
  try rfl
def JP (x1:List (List UInt8))(k0T:Option Bool):List (List UInt8)→List (List UInt8)→Option Bool
 | [],q0=>k0T
 | x0 :: r0,q0=>Jp (PN x1 (q0.length:Int)) fun y2=>if (decide (x0≠y2))=true then some false else (JP x1 k0T r0) (q0 ++ [x0])
theorem ZdV {C:Cfg}(hC:Sr C)(M:Nat)(x0:List (List UInt8))(x1:List (List UInt8))(hM:0≤M)(hp0:HP)(okx1:OkL 16 (fun y=>y.length≤140737488351232) x1)(hb:x0.length≤4611686018427387)(k0:HP→Eff→KR)(k0T:Option Bool)(hk0:HkB hp0 k0 k0T):∀ (r6 q6:List (List UInt8)) (m:Nat) (hp:HP),x0=q6 ++ r6→r6.length < m→hp0.length≤hp.length→∀ res,JP x1 k0T r6 q6=some res→Gm C.G (Za C M) C.L hp0 k0 m (.lst 1 (strs x0)) (.lst 1 (strs x1)) (.int .i64 (q6.length:Int)) hp none=some ((AV.bool res),hp0,none)
 | _,_,0,_,_,h,_,_,_=>by omega
 | [],q6,m + 1,hp,h,hr,hh,res,hres=>by
  have l0:=lp0 h
  simp only [JP,IFJ] at hres
  have hx:=hk0  hp (by omega) res hres
  simp only [Gm,COL,reduceAdd,reduceLeDiff,Nat.reduceBEq,l0,hx]
  try rfl
 | x6 :: r6,q6,m + 1,hp,h,hr,hh,res,hres=>by
  obtain ⟨a1,-,a3,a4,a5⟩:=lp ((fun x=>[(AV.str x)])) h hb
  have me6:=a5
  have a2:(strs x0)[q6.length]? = some [(AV.str x6)]:=(lp ((fun x=>[(AV.str x)])) h hb).2.1
  have ix6:Y4 (.slice 1) (.lst 1 (strs x0)) (.int .i64 (q6.length:Int))=some (.ref [(AV.str x6)]):=by rw [Qu,a2]; rfl
  cases q8:PN x1 (q6.length:Int) with
  | none =>
   simp only [JP,IFJ,WT,q8] at hres; cases hres
  | some y7 =>
   have y7e:Y4 (.slice 1) (.lst 1 (strs x1)) (.int .i64 (q6.length:Int))=some (.ref [(AV.str y7)]):=MR (row := (fun x=>[(AV.str x)])) q8
   have oky7:=(okx1).2 _ (WJ q8)
   have memy7:=WJ q8
   rcases Bool.eq_false_or_eq_true ((decide (x6≠y7))) with b9 | b9
   ·simp only [JP,IFJ,q8,Zj,b9] at hres
    cases hres
    simp only [Gm,COL,reduceAdd,reduceLeDiff,Nat.reduceBEq,a1,a3,ix6,y7e,b9]
    try rfl
   ·simp only [JP,IFJ,q8,Zj,b9] at hres
    have hx:=ZdV hC M x0 x1 hM hp0 okx1 hb k0 k0T hk0 r6 (q6 ++ [x6]) m hp a4 (by simpa using hr) (by omega) res hres
    simp only [Gm,COL,reduceAdd,reduceLeDiff,Nat.reduceBEq,a1,a3,ix6,y7e,b9,hx]
    try rfl
def Tn:Option Bool :=
 some true
def Jg (x0:List (List UInt8))(x1:List (List UInt8)):Option Bool :=
 if (decide ((x0.length:Int)≠(x1.length:Int)))=true then some false else JP x1 (Tn) x0 []
theorem EN {C:Cfg}(hC:Sr C)(N:Nat)(x0:List (List UInt8))(x1:List (List UInt8))(hN:1≤N)(hp0:HP)(okx0:OkL 16 (fun y=>y.length≤140737488351232) x0)(okx1:OkL 16 (fun y=>y.length≤140737488351232) x1){res}(hres:Jg x0 x1=some res):Za C N Ll [(.lst 1 (strs x0)),(.lst 1 (strs x1))] hp0=some ((AV.bool res),hp0,none):=by
 obtain ⟨M,rfl,hh⟩:=exM hp0 (by omega:1≤N)
 refine Znw (by rw [hC.T]; rfl) ?_
 rcases Bool.eq_false_or_eq_true ((decide ((x0.length:Int)≠(x1.length:Int)))) with b2 | b2
 ·simp only [Jg,IFJ,b2] at hres
  cases hres
  simp only [Ey,Gl,COL,reduceAdd,reduceLeDiff,Nat.reduceBEq,b2]
  try rfl
 ·simp only [Jg,IFJ,b2] at hres
  have hk3:∀ (hp3:HP),hp0.length≤hp3.length→∀ res,Tn=some res→(Gl C.G (Za C M) C.L hp0) hp3 none=some ((AV.bool res),hp0,none):=by
   intro hp3 hh3  res hres
   simp only [Tn,IFJ] at hres
   cases hres
   simp only [Ey,Gl,COL,reduceAdd,reduceLeDiff,Nat.reduceBEq,b2]
   try rfl
  have hb':x0.length≤4611686018427387:=(by have:=(okx0).1; omega)
  have hx:=ZdV hC M x0 x1 (by omega) hp0 okx1 hb' (Gl C.G (Za C M) C.L hp0) (Tn) hk3 x0 [] C.L hp0 rfl (by have:=hC.L; omega) (by omega) res hres
  try simp only [NIL] at hx
  simp only [Ey,Gl,COL,reduceAdd,reduceLeDiff,Nat.reduceBEq,b2,hx]
  try rfl
noncomputable def V4 (x1:Zy)(k0T:Option Bool):List Kq→List Kq→Option Bool
 | [],q0=>k0T
 | x0 :: r0,q0=>Jp (PN x1.Shift (q0.length:Int)) fun y2=>if (!(eqv x0 y2))=true then some false else (V4 x1 k0T r0) (q0 ++ [x0])
theorem ZbM {C:Cfg}(hC:Sr C)(M:Nat)(x0:Zy)(x1:Zy)(hM:2≤M)(hp0:HP)(okx1:VF x1)(g_2864_0:Nat)(g_2864_1:Nat)(hb:x0.Shift.length≤4611686018427387)(k0:AV→AV→HP→Eff→KR)(k0T:Option Bool)(hk0:∀ (hp:HP),hp0.length≤hp.length→hp[g_2864_0]? = some (.cells (Zh x0) Yj)→hp[g_2864_1]? = some (.cells (Zh x1) Yj)→∀ res,k0T=some res→k0 (.ptr g_2864_0 0) (.ptr g_2864_1 0) hp none=some ((AV.bool res),hp0,none)):∀ (r6 q6:List Kq) (m:Nat) (hp:HP),x0.Shift=q6 ++ r6→r6.length < m→hp0.length≤hp.length→hp[g_2864_0]? = some (.cells (Zh x0) Yj)→hp[g_2864_1]? = some (.cells (Zh x1) Yj)→∀ res,V4 x1 k0T r6 q6=some res→JY C.G (Za C M) C.L hp0 k0 m (.ptr g_2864_0 0) (.ptr g_2864_1 0) (.int .i64 (q6.length:Int)) hp none=some ((AV.bool res),hp0,none)
 | _,_,0,_,_,h,_,_,_,_,_=>by omega
 | [],q6,m + 1,hp,h,hr,hh,f2864_0,f2864_1,res,hres=>by
  have l0:=lp0 h
  have lt_f2864_0:=(List.getElem?_eq_some_iff.1 f2864_0).1
  have lt_f2864_1:=(List.getElem?_eq_some_iff.1 f2864_1).1
  simp only [V4,IFJ] at hres
  have hx:=hk0  hp (by omega) f2864_0 f2864_1 res hres
  simp only [JY,COL,N8,Dc,ZL,FO,reduceAdd,reduceLeDiff,Nat.reduceBEq,l0,LG f2864_0,hx]
  try rfl
 | x6 :: r6,q6,m + 1,hp,h,hr,hh,f2864_0,f2864_1,res,hres=>by
  obtain ⟨a1,-,a3,a4,a5⟩:=lp (Vg) h hb
  have me6:=a5
  have a2:(x0.Shift.map Vg)[q6.length]? = some (Vg x6):=(lp (Vg) h hb).2.1
  have lt_f2864_0:=(List.getElem?_eq_some_iff.1 f2864_0).1
  have lt_f2864_1:=(List.getElem?_eq_some_iff.1 f2864_1).1
  have ix6:Y4 (.slice 2) (.lst 2 (x0.Shift.map Vg)) (.int .i64 (q6.length:Int))=some (.ref (Vg x6)):=by rw [Qu,a2]; rfl
  cases q8:PN x1.Shift (q6.length:Int) with
  | none =>
   simp only [V4,IFJ,WT,q8] at hres; cases hres
  | some y7 =>
   have y7e:Y4 (.slice 2) (.lst 2 (x1.Shift.map Vg)) (.int .i64 (q6.length:Int))=some (.ref (Vg y7)):=MR (row := Vg) q8
   have oky7:=(okx1.Shift).2 _ (WJ q8)
   have memy7:=WJ q8
   rcases Bool.eq_false_or_eq_true ((!(eqv x6 y7))) with b9 | b9
   ·simp only [V4,IFJ,q8,Zj,b9] at hres
    cases hres
    simp only [JY,COL,N8,Dc,ZL,FO,reduceAdd,reduceLeDiff,Nat.reduceBEq,a1,a3,LG f2864_0,ix6,LG f2864_1,y7e,b9]
    try rfl
   ·simp only [V4,IFJ,q8,Zj,b9] at hres
    have hx:=ZbM hC M x0 x1 hM hp0 okx1 g_2864_0 g_2864_1 hb k0 k0T hk0 r6 (q6 ++ [x6]) m hp a4 (by simpa using hr) (by omega) f2864_0 f2864_1 res hres
    simp only [JY,COL,N8,Dc,ZL,FO,reduceAdd,reduceLeDiff,Nat.reduceBEq,a1,a3,LG f2864_0,ix6,LG f2864_1,y7e,b9,hx]
    try rfl
noncomputable def UZ (x0:Zy)(x1:Zy):Option Bool :=
 some ((eqv x0.Fault.Up x1.Fault.Up) && (eqv x0.Fault.Down x1.Fault.Down))
noncomputable def Gn (x0:Zy)(x1:Zy):Option Bool :=
 if (((((decide (x0.Name≠x1.Name)) || (decide (x0.Units≠x1.Units))) || (decide ((x0.Shift.length:Int)≠(x1.Shift.length:Int)))) || (decide (x0.Cycle≠x1.Cycle))) || (decide (x0.Fault.Stream≠x1.Fault.Stream)))=true then some false else V4 x1 (UZ x0 x1) x0.Shift []
theorem Zms {C:Cfg}(hC:Sr C)(N:Nat)(x0:Zy)(x1:Zy)(hN:3≤N)(hp0:HP)(okx0:VF x0)(okx1:VF x1){res}(hres:Gn x0 x1=some res):Za C N Zaj [(.agg (Zh x0)),(.agg (Zh x1))] hp0=some ((AV.bool res),hp0,none):=by
 obtain ⟨M,rfl,hh⟩:=exM hp0 (by omega:1≤N)
 refine ZiT (by rw [hC.T]; rfl) ?_
 obtain ⟨h2,hh2,g3,l4⟩:=mkH hp0 (Z5.cells (Zh x0) Yj)
 obtain ⟨h5,hh5,g6,l7⟩:=mkH h2 (Z5.cells (Zh x1) Yj)
 have g8:=keA hh5 g3
 rcases Bool.eq_false_or_eq_true ((((((decide (x0.Name≠x1.Name)) || (decide (x0.Units≠x1.Units))) || (decide ((x0.Shift.length:Int)≠(x1.Shift.length:Int)))) || (decide (x0.Cycle≠x1.Cycle))) || (decide (x0.Fault.Stream≠x1.Fault.Stream)))) with b9 | b9
 ·simp only [Gn,IFJ,b9] at hres
  cases hres
  simp only [Bl,JX,COL,N8,Dc,ZL,FO,reduceAdd,reduceLeDiff,Nat.reduceBEq,hh2,hh5,LG g8,LG g6,b9]
  try rfl
 ·simp only [Gn,IFJ,b9] at hres
  have hk10:∀ (hp10:HP),hp0.length≤hp10.length→hp10[hp0.length]? = some (.cells (Zh x0) Yj)→hp10[h2.length]? = some (.cells (Zh x1) Yj)→∀ res,UZ x0 x1=some res→(JX C.G (Za C M) C.L hp0) (.ptr hp0.length 0) (.ptr h2.length 0) hp10 none=some ((AV.bool res),hp0,none):=by
   intro hp10 hh10 fz2868_0 fz2868_1 res hres
   have lt_fz2868_0:=(List.getElem?_eq_some_iff.1 fz2868_0).1
   have lt_fz2868_1:=(List.getElem?_eq_some_iff.1 fz2868_1).1
   have e11:Zt hp10 6 (.ptr hp0.length 5)=some (.agg (H8 x0.Fault.Up)):=Ti fz2868_0 (by rw [X4]; omega) (by first | exact rResourceDecl_at_Up _ | rfl | (simp only [rResourceDecl_eq]; rfl)) (by exact PQ _)
   have e12:Zt hp10 6 (.ptr h2.length 5)=some (.agg (H8 x1.Fault.Up)):=Ti fz2868_1 (by rw [X4]; omega) (by first | exact rResourceDecl_at_Up _ | rfl | (simp only [rResourceDecl_eq]; rfl)) (by exact PQ _)
   have c13:=fun hp:HP=>ZhQ hC.toI8 M (by omega) hp x0.Fault.Up x1.Fault.Up okx0.Fault.Up okx1.Fault.Up
   have e14:Zt hp10 6 (.ptr hp0.length 11)=some (.agg (H8 x0.Fault.Down)):=Ti fz2868_0 (by rw [X4]; omega) (by first | exact rResourceDecl_at_Down _ | rfl | (simp only [rResourceDecl_eq]; rfl)) (by exact PQ _)
   have e15:Zt hp10 6 (.ptr h2.length 11)=some (.agg (H8 x1.Fault.Down)):=Ti fz2868_1 (by rw [X4]; omega) (by first | exact rResourceDecl_at_Down _ | rfl | (simp only [rResourceDecl_eq]; rfl)) (by exact PQ _)
   have c16:=fun hp:HP=>ZhQ hC.toI8 M (by omega) hp x0.Fault.Down x1.Fault.Down okx0.Fault.Down okx1.Fault.Down
   simp only [UZ,IFJ] at hres
   cases hres
   simp only [Bl,JX,COL,N8,Dc,ZL,FO,reduceAdd,reduceLeDiff,Nat.reduceBEq,hh2,hh5,LG g8,LG g6,b9,e11,e12,c13,e14,e15,c16]
   try rfl
  have hb':x0.Shift.length≤4611686018427387:=(by have:=(okx0.Shift).1; omega)
  have hx:=ZbM hC M x0 x1 (by omega) hp0 okx1 hp0.length h2.length hb' (JX C.G (Za C M) C.L hp0) (UZ x0 x1) hk10 x0.Shift [] C.L h5 rfl (by have:=hC.L; omega) (by omega) g8 g6 res hres
  try simp only [NIL] at hx
  simp only [Bl,JX,COL,N8,Dc,ZL,FO,reduceAdd,reduceLeDiff,Nat.reduceBEq,hh2,hh5,LG g8,LG g6,b9,hx]
  try rfl
noncomputable def Jm (x1:List KD)(k0T:Option Bool):List KD→List KD→Option Bool
 | [],q0=>k0T
 | x0 :: r0,q0=>Jp (PN x1 (q0.length:Int)) fun y2=>if (!(eqv x0 y2))=true then some false else (Jm x1 k0T r0) (q0 ++ [x0])
theorem Zds {C:Cfg}(hC:Sr C)(M:Nat)(x0:List KD)(x1:List KD)(hM:0≤M)(hp0:HP)(okx1:OkL 24 ZdY x1)(hb:x0.length≤4611686018427387)(k0:HP→Eff→KR)(k0T:Option Bool)(hk0:HkB hp0 k0 k0T):∀ (r6 q6:List KD) (m:Nat) (hp:HP),x0=q6 ++ r6→r6.length < m→hp0.length≤hp.length→∀ res,Jm x1 k0T r6 q6=some res→UR C.G (Za C M) C.L hp0 k0 m (.lst 2 (x0.map Vh)) (.lst 2 (x1.map Vh)) (.int .i64 (q6.length:Int)) hp none=some ((AV.bool res),hp0,none)
 | _,_,0,_,_,h,_,_,_=>by omega
 | [],q6,m + 1,hp,h,hr,hh,res,hres=>by
  have l0:=lp0 h
  simp only [Jm,IFJ] at hres
  have hx:=hk0  hp (by omega) res hres
  simp only [UR,COL,FP,Zcf,reduceAdd,reduceLeDiff,Nat.reduceBEq,l0,hx]
  try rfl
 | x6 :: r6,q6,m + 1,hp,h,hr,hh,res,hres=>by
  obtain ⟨a1,-,a3,a4,a5⟩:=lp (Vh) h hb
  have me6:=a5
  have a2:(x0.map Vh)[q6.length]? = some (Vh x6):=(lp (Vh) h hb).2.1
  have ix6:Y4 (.slice 2) (.lst 2 (x0.map Vh)) (.int .i64 (q6.length:Int))=some (.ref (Vh x6)):=by rw [Qu,a2]; rfl
  cases q8:PN x1 (q6.length:Int) with
  | none =>
   simp only [Jm,IFJ,WT,q8] at hres; cases hres
  | some y7 =>
   have y7e:Y4 (.slice 2) (.lst 2 (x1.map Vh)) (.int .i64 (q6.length:Int))=some (.ref (Vh y7)):=MR (row := Vh) q8
   have oky7:=(okx1).2 _ (WJ q8)
   have memy7:=WJ q8
   rcases Bool.eq_false_or_eq_true ((!(eqv x6 y7))) with b9 | b9
   ·simp only [Jm,IFJ,q8,Zj,b9] at hres
    cases hres
    simp only [UR,COL,FP,Zcf,reduceAdd,reduceLeDiff,Nat.reduceBEq,a1,a3,ix6,y7e,b9]
    try rfl
   ·simp only [Jm,IFJ,q8,Zj,b9] at hres
    have hx:=Zds hC M x0 x1 hM hp0 okx1 hb k0 k0T hk0 r6 (q6 ++ [x6]) m hp a4 (by simpa using hr) (by omega) res hres
    simp only [UR,COL,FP,Zcf,reduceAdd,reduceLeDiff,Nat.reduceBEq,a1,a3,ix6,y7e,b9,hx]
    try rfl
def Oi:Option Bool :=
 some true
noncomputable def I5 (x0:List KD)(x1:List KD):Option Bool :=
 if (decide ((x0.length:Int)≠(x1.length:Int)))=true then some false else Jm x1 (Oi) x0 []
theorem Zgp {C:Cfg}(hC:Sr C)(N:Nat)(x0:List KD)(x1:List KD)(hN:1≤N)(hp0:HP)(okx0:OkL 24 ZdY x0)(okx1:OkL 24 ZdY x1){res}(hres:I5 x0 x1=some res):Za C N FI [(.lst 2 (x0.map Vh)),(.lst 2 (x1.map Vh))] hp0=some ((AV.bool res),hp0,none):=by
 obtain ⟨M,rfl,hh⟩:=exM hp0 (by omega:1≤N)
 refine Zme (by rw [hC.T]; rfl) ?_
 rcases Bool.eq_false_or_eq_true ((decide ((x0.length:Int)≠(x1.length:Int)))) with b2 | b2
 ·simp only [I5,IFJ,b2] at hres
  cases hres
  simp only [Nr,UQ,COL,FP,Zcf,reduceAdd,reduceLeDiff,Nat.reduceBEq,b2]
  try rfl
 ·simp only [I5,IFJ,b2] at hres
  have hk3:∀ (hp3:HP),hp0.length≤hp3.length→∀ res,Oi=some res→(UQ C.G (Za C M) C.L hp0) hp3 none=some ((AV.bool res),hp0,none):=by
   intro hp3 hh3  res hres
   simp only [Oi,IFJ] at hres
   cases hres
   simp only [Nr,UQ,COL,FP,Zcf,reduceAdd,reduceLeDiff,Nat.reduceBEq,b2]
   try rfl
  have hb':x0.length≤4611686018427387:=(by have:=(okx0).1; omega)
  have hx:=Zds hC M x0 x1 (by omega) hp0 okx1 hb' (UQ C.G (Za C M) C.L hp0) (Oi) hk3 x0 [] C.L hp0 rfl (by have:=hC.L; omega) (by omega) res hres
  try simp only [NIL] at hx
  simp only [Nr,UQ,COL,FP,Zcf,reduceAdd,reduceLeDiff,Nat.reduceBEq,b2,hx]
  try rfl
def Ux (x1:List Int)(k0T:Option Bool):List Int→List Int→Option Bool
 | [],q0=>k0T
 | x0 :: r0,q0=>Jp (PN x1 (q0.length:Int)) fun y2=>if (decide (x0≠y2))=true then some false else (Ux x1 k0T r0) (q0 ++ [x0])
theorem Zfe {C:Cfg}(hC:Sr C)(M:Nat)(x0:List Int)(x1:List Int)(hM:0≤M)(hp0:HP)(okx1:OkL 8 (fun y=>-9223372036854775808≤y∧y≤9223372036854775807) x1)(hb:x0.length≤4611686018427387)(k0:HP→Eff→KR)(k0T:Option Bool)(hk0:HkB hp0 k0 k0T):∀ (r6 q6:List Int) (m:Nat) (hp:HP),x0=q6 ++ r6→r6.length < m→hp0.length≤hp.length→∀ res,Ux x1 k0T r6 q6=some res→Hr C.G (Za C M) C.L hp0 k0 m (.lst 1 (ints x0)) (.lst 1 (ints x1)) (.int .i64 (q6.length:Int)) hp none=some ((AV.bool res),hp0,none)
 | _,_,0,_,_,h,_,_,_=>by omega
 | [],q6,m + 1,hp,h,hr,hh,res,hres=>by
  have l0:=lp0 h
  simp only [Ux,IFJ] at hres
  have hx:=hk0  hp (by omega) res hres
  simp only [Hr,COL,reduceAdd,reduceLeDiff,Nat.reduceBEq,l0,hx]
  try rfl
 | x6 :: r6,q6,m + 1,hp,h,hr,hh,res,hres=>by
  obtain ⟨a1,-,a3,a4,a5⟩:=lp ((fun x=>[(AV.int .i64 x)])) h hb
  have me6:=a5
  have a2:(ints x0)[q6.length]? = some [(AV.int .i64 x6)]:=(lp ((fun x=>[(AV.int .i64 x)])) h hb).2.1
  have ix6:Y4 (.slice 1) (.lst 1 (ints x0)) (.int .i64 (q6.length:Int))=some (.ref [(AV.int .i64 x6)]):=by rw [Qu,a2]; rfl
  cases q8:PN x1 (q6.length:Int) with
  | none =>
   simp only [Ux,IFJ,WT,q8] at hres; cases hres
  | some y7 =>
   have y7e:Y4 (.slice 1) (.lst 1 (ints x1)) (.int .i64 (q6.length:Int))=some (.ref [(AV.int .i64 y7)]):=MR (row := (fun x=>[(AV.int .i64 x)])) q8
   have oky7:=(okx1).2 _ (WJ q8)
   have memy7:=WJ q8
   rcases Bool.eq_false_or_eq_true ((decide (x6≠y7))) with b9 | b9
   ·simp only [Ux,IFJ,q8,Zj,b9] at hres
    cases hres
    simp only [Hr,COL,reduceAdd,reduceLeDiff,Nat.reduceBEq,a1,a3,ix6,y7e,b9]
    try rfl
   ·simp only [Ux,IFJ,q8,Zj,b9] at hres
    have hx:=Zfe hC M x0 x1 hM hp0 okx1 hb k0 k0T hk0 r6 (q6 ++ [x6]) m hp a4 (by simpa using hr) (by omega) res hres
    simp only [Hr,COL,reduceAdd,reduceLeDiff,Nat.reduceBEq,a1,a3,ix6,y7e,b9,hx]
    try rfl
def Le:Option Bool :=
 some true
def NT (x0:List Int)(x1:List Int):Option Bool :=
 if (decide ((x0.length:Int)≠(x1.length:Int)))=true then some false else Ux x1 (Le) x0 []
theorem Ztb {C:Cfg}(hC:Sr C)(N:Nat)(x0:List Int)(x1:List Int)(hN:1≤N)(hp0:HP)(okx0:OkL 8 (fun y=>-9223372036854775808≤y∧y≤9223372036854775807) x0)(okx1:OkL 8 (fun y=>-9223372036854775808≤y∧y≤9223372036854775807) x1){res}(hres:NT x0 x1=some res):Za C N ZdX [(.lst 1 (ints x0)),(.lst 1 (ints x1))] hp0=some ((AV.bool res),hp0,none):=by
 obtain ⟨M,rfl,hh⟩:=exM hp0 (by omega:1≤N)
 refine ZoY (by rw [hC.T]; rfl) ?_
 rcases Bool.eq_false_or_eq_true ((decide ((x0.length:Int)≠(x1.length:Int)))) with b2 | b2
 ·simp only [NT,IFJ,b2] at hres
  cases hres
  simp only [Fp,Hq,COL,reduceAdd,reduceLeDiff,Nat.reduceBEq,b2]
  try rfl
 ·simp only [NT,IFJ,b2] at hres
  have hk3:∀ (hp3:HP),hp0.length≤hp3.length→∀ res,Le=some res→(Hq C.G (Za C M) C.L hp0) hp3 none=some ((AV.bool res),hp0,none):=by
   intro hp3 hh3  res hres
   simp only [Le,IFJ] at hres
   cases hres
   simp only [Fp,Hq,COL,reduceAdd,reduceLeDiff,Nat.reduceBEq,b2]
   try rfl
  have hb':x0.length≤4611686018427387:=(by have:=(okx0).1; omega)
  have hx:=Zfe hC M x0 x1 (by omega) hp0 okx1 hb' (Hq C.G (Za C M) C.L hp0) (Le) hk3 x0 [] C.L hp0 rfl (by have:=hC.L; omega) (by omega) res hres
  try simp only [NIL] at hx
  simp only [Fp,Hq,COL,reduceAdd,reduceLeDiff,Nat.reduceBEq,b2,hx]
  try rfl
noncomputable def Ko (x1:Zc1)(k0T:Option Bool):List PY→List PY→Option Bool
 | [],q0=>k0T
 | x0 :: r0,q0=>Jp (PN x1.Terms (q0.length:Int)) fun y2=>if (!(eqv x0 y2))=true then some false else (Ko x1 k0T r0) (q0 ++ [x0])
theorem Zgr {C:Cfg}(hC:Sr C)(M:Nat)(x0:Zc1)(x1:Zc1)(hM:0≤M)(hp0:HP)(okx1:ZjO x1)(g_3179_0:Nat)(g_3179_1:Nat)(hb:x0.Terms.length≤4611686018427387)(k0:HP→Eff→KR)(k0T:Option Bool)(hk0:∀ (hp:HP),hp0.length≤hp.length→hp[g_3179_0]? = some (.cells (DV x0) V5)→hp[g_3179_1]? = some (.cells (DV x1) V5)→∀ res,k0T=some res→k0 hp none=some ((AV.bool res),hp0,none)):∀ (r6 q6:List PY) (m:Nat) (hp:HP),x0.Terms=q6 ++ r6→r6.length < m→hp0.length≤hp.length→hp[g_3179_0]? = some (.cells (DV x0) V5)→hp[g_3179_1]? = some (.cells (DV x1) V5)→∀ res,Ko x1 k0T r6 q6=some res→Iz C.G (Za C M) C.L hp0 k0 m (.ptr g_3179_0 0) (.ptr g_3179_1 0) (.int .i64 (q6.length:Int)) hp none=some ((AV.bool res),hp0,none)
 | _,_,0,_,_,h,_,_,_,_,_=>by omega
 | [],q6,m + 1,hp,h,hr,hh,f3179_0,f3179_1,res,hres=>by
  have l0:=lp0 h
  have lt_f3179_0:=(List.getElem?_eq_some_iff.1 f3179_0).1
  have lt_f3179_1:=(List.getElem?_eq_some_iff.1 f3179_1).1
  simp only [Ko,IFJ] at hres
  have hx:=hk0  hp (by omega) f3179_0 f3179_1 res hres
  simp only [Iz,COL,UA,Zch,Zgm,reduceAdd,reduceLeDiff,Nat.reduceBEq,l0,LG f3179_0,hx]
  try rfl
 | x6 :: r6,q6,m + 1,hp,h,hr,hh,f3179_0,f3179_1,res,hres=>by
  obtain ⟨a1,-,a3,a4,a5⟩:=lp (Io) h hb
  have me6:=a5
  have a2:(x0.Terms.map Io)[q6.length]? = some (Io x6):=(lp (Io) h hb).2.1
  have lt_f3179_0:=(List.getElem?_eq_some_iff.1 f3179_0).1
  have lt_f3179_1:=(List.getElem?_eq_some_iff.1 f3179_1).1
  have ix6:Y4 (.slice 3) (.lst 3 (x0.Terms.map Io)) (.int .i64 (q6.length:Int))=some (.ref (Io x6)):=by rw [Qu,a2]; rfl
  cases q8:PN x1.Terms (q6.length:Int) with
  | none =>
   simp only [Ko,IFJ,WT,q8] at hres; cases hres
  | some y7 =>
   have y7e:Y4 (.slice 3) (.lst 3 (x1.Terms.map Io)) (.int .i64 (q6.length:Int))=some (.ref (Io y7)):=MR (row := Io) q8
   have oky7:=(okx1.Terms).2 _ (WJ q8)
   have memy7:=WJ q8
   rcases Bool.eq_false_or_eq_true ((!(eqv x6 y7))) with b9 | b9
   ·simp only [Ko,IFJ,q8,Zj,b9] at hres
    cases hres
    simp only [Iz,COL,UA,Zch,Zgm,reduceAdd,reduceLeDiff,Nat.reduceBEq,a1,a3,LG f3179_0,ix6,LG f3179_1,y7e,b9]
    try rfl
   ·simp only [Ko,IFJ,q8,Zj,b9] at hres
    have hx:=Zgr hC M x0 x1 hM hp0 okx1 g_3179_0 g_3179_1 hb k0 k0T hk0 r6 (q6 ++ [x6]) m hp a4 (by simpa using hr) (by omega) f3179_0 f3179_1 res hres
    simp only [Iz,COL,UA,Zch,Zgm,reduceAdd,reduceLeDiff,Nat.reduceBEq,a1,a3,LG f3179_0,ix6,LG f3179_1,y7e,b9,hx]
    try rfl
def TE:Option Bool :=
 some true
noncomputable def BK (x0:Zc1)(x1:Zc1):Option Bool :=
 if (((decide (x0.Name≠x1.Name)) || (decide (x0.Total≠x1.Total))) || (decide ((x0.Terms.length:Int)≠(x1.Terms.length:Int))))=true then some false else Ko x1 (TE) x0.Terms []
theorem Zva {C:Cfg}(hC:Sr C)(N:Nat)(x0:Zc1)(x1:Zc1)(hN:1≤N)(hp0:HP)(okx0:ZjO x0)(okx1:ZjO x1){res}(hres:BK x0 x1=some res):Za C N Zfl [(.agg (DV x0)),(.agg (DV x1))] hp0=some ((AV.bool res),hp0,none):=by
 obtain ⟨M,rfl,hh⟩:=exM hp0 (by omega:1≤N)
 refine Zrg (by rw [hC.T]; rfl) ?_
 obtain ⟨h2,hh2,g3,l4⟩:=mkH hp0 (Z5.cells (DV x0) V5)
 obtain ⟨h5,hh5,g6,l7⟩:=mkH h2 (Z5.cells (DV x1) V5)
 have g8:=keA hh5 g3
 rcases Bool.eq_false_or_eq_true ((((decide (x0.Name≠x1.Name)) || (decide (x0.Total≠x1.Total))) || (decide ((x0.Terms.length:Int)≠(x1.Terms.length:Int))))) with b9 | b9
 ·simp only [BK,IFJ,b9] at hres
  cases hres
  simp only [Za1,Iy,COL,UA,Zch,Zgm,reduceAdd,reduceLeDiff,Nat.reduceBEq,hh2,hh5,LG g8,LG g6,b9]
  try rfl
 ·simp only [BK,IFJ,b9] at hres
  have hk10:∀ (hp10:HP),hp0.length≤hp10.length→hp10[hp0.length]? = some (.cells (DV x0) V5)→hp10[h2.length]? = some (.cells (DV x1) V5)→∀ res,TE=some res→(Iy C.G (Za C M) C.L hp0) hp10 none=some ((AV.bool res),hp0,none):=by
   intro hp10 hh10 fz3183_0 fz3183_1 res hres
   have lt_fz3183_0:=(List.getElem?_eq_some_iff.1 fz3183_0).1
   have lt_fz3183_1:=(List.getElem?_eq_some_iff.1 fz3183_1).1
   simp only [TE,IFJ] at hres
   cases hres
   simp only [Za1,Iy,COL,UA,Zch,Zgm,reduceAdd,reduceLeDiff,Nat.reduceBEq,hh2,hh5,LG g8,LG g6,b9]
   try rfl
  have hb':x0.Terms.length≤4611686018427387:=(by have:=(okx0.Terms).1; omega)
  have hx:=Zgr hC M x0 x1 (by omega) hp0 okx1 hp0.length h2.length hb' (Iy C.G (Za C M) C.L hp0) (TE) hk10 x0.Terms [] C.L h5 rfl (by have:=hC.L; omega) (by omega) g8 g6 res hres
  try simp only [NIL] at hx
  simp only [Za1,Iy,COL,UA,Zch,Zgm,reduceAdd,reduceLeDiff,Nat.reduceBEq,hh2,hh5,LG g8,LG g6,b9,hx]
  try rfl
noncomputable def JJ (x1:Zo)(k0T:Option Bool):List Zy→List Zy→Option Bool
 | [],q0=>k0T
 | x0 :: r0,q0=>Jp (PN x1.Resources (q0.length:Int)) fun y2=>Jp ((Gn x0 y2)) fun v3=>if (!v3)=true then some false else (JJ x1 k0T r0) (q0 ++ [x0])
theorem ZeZ {C:Cfg}(hC:Sr C)(M:Nat)(x0:Zo)(x1:Zo)(hM:5 * SizeOf.sizeOf x0 + 3≤M)(hp0:HP)(okx0:YO x0)(okx1:YO x1)(g_3505_0:Nat)(g_3505_1:Nat)(hb:x0.Resources.length≤4611686018427387)(k0:AV→AV→HP→Eff→KR)(k0T:Option Bool)(hk0:∀ (hp:HP),hp0.length≤hp.length→hp[g_3505_0]? = some (.cells (Zk x0) Zb)→hp[g_3505_1]? = some (.cells (Zk x1) Zb)→∀ res,k0T=some res→k0 (.ptr g_3505_0 0) (.ptr g_3505_1 0) hp none=some ((AV.bool res),hp0,none)):∀ (r6 q6:List Zy) (m:Nat) (hp:HP),x0.Resources=q6 ++ r6→r6.length < m→hp0.length≤hp.length→hp[g_3505_0]? = some (.cells (Zk x0) Zb)→hp[g_3505_1]? = some (.cells (Zk x1) Zb)→∀ res,JJ x1 k0T r6 q6=some res→Hl C.G (Za C M) C.L hp0 k0 m (.ptr g_3505_0 0) (.ptr g_3505_1 0) (.int .i64 (q6.length:Int)) hp none=some ((AV.bool res),hp0,none)
 | _,_,0,_,_,h,_,_,_,_,_=>by omega
 | [],q6,m + 1,hp,h,hr,hh,f3505_0,f3505_1,res,hres=>by
  have l0:=lp0 h
  have lt_f3505_0:=(List.getElem?_eq_some_iff.1 f3505_0).1
  have lt_f3505_1:=(List.getElem?_eq_some_iff.1 f3505_1).1
  simp only [JJ,IFJ] at hres
  have hx:=hk0  hp (by omega) f3505_0 f3505_1 res hres
  simp only [Hl,COL,WC,UA,ZL,WV,ZY,XB,YU,Qo,WB,reduceAdd,reduceLeDiff,Nat.reduceBEq,l0,LG f3505_0,hx]
  try rfl
 | x6 :: r6,q6,m + 1,hp,h,hr,hh,f3505_0,f3505_1,res,hres=>by
  obtain ⟨a1,-,a3,a4,a5⟩:=lp (Zh) h hb
  have me6:=a5
  have a2:(x0.Resources.map Zh)[q6.length]? = some (Zh x6):=(lp (Zh) h hb).2.1
  have okx6:=(okx0.Resources).2 _ a5
  have lt_f3505_0:=(List.getElem?_eq_some_iff.1 f3505_0).1
  have lt_f3505_1:=(List.getElem?_eq_some_iff.1 f3505_1).1
  have ix6:Y4 (.slice 17) (.lst 17 (x0.Resources.map Zh)) (.int .i64 (q6.length:Int))=some (.ref (Zh x6)):=by rw [Qu,a2]; rfl
  cases q8:PN x1.Resources (q6.length:Int) with
  | none =>
   simp only [JJ,IFJ,WT,q8] at hres; cases hres
  | some y7 =>
   have y7e:Y4 (.slice 17) (.lst 17 (x1.Resources.map Zh)) (.int .i64 (q6.length:Int))=some (.ref (Zh y7)):=MR (row := Zh) q8
   have oky7:=(okx1.Resources).2 _ (WJ q8)
   have memy7:=WJ q8
   cases q11:(Gn x6 y7) with
   | none =>
    simp only [JJ,IFJ,WT,q8,Zj,q11] at hres; cases hres
   | some v10 =>
    have c9:=fun hp:HP=>Zms hC M x6 y7 (by omega) hp okx6 oky7 q11
    rcases Bool.eq_false_or_eq_true ((!v10)) with b12 | b12
    ·simp only [JJ,IFJ,q8,Zj,q11,b12] at hres
     cases hres
     simp only [Hl,COL,WC,UA,ZL,WV,ZY,XB,YU,Qo,WB,reduceAdd,reduceLeDiff,Nat.reduceBEq,a1,a3,LG f3505_0,ix6,LG f3505_1,y7e,c9,b12]
     try rfl
    ·simp only [JJ,IFJ,q8,Zj,q11,b12] at hres
     have hx:=ZeZ hC M x0 x1 hM hp0 okx0 okx1 g_3505_0 g_3505_1 hb k0 k0T hk0 r6 (q6 ++ [x6]) m hp a4 (by simpa using hr) (by omega) f3505_0 f3505_1 res hres
     simp only [Hl,COL,WC,UA,ZL,WV,ZY,XB,YU,Qo,WB,reduceAdd,reduceLeDiff,Nat.reduceBEq,a1,a3,LG f3505_0,ix6,LG f3505_1,y7e,c9,b12,hx]
     try rfl
noncomputable def Uu (x1:Zo)(k2T:Option Bool):List Qr→List Qr→Option Bool
 | [],q0=>k2T
 | x0 :: r0,q0=>Jp (PN x1.Stores (q0.length:Int)) fun y2=>if (!(eqv x0 y2))=true then some false else (Uu x1 k2T r0) (q0 ++ [x0])
theorem Zfa {C:Cfg}(hC:Sr C)(M:Nat)(x0:Zo)(x1:Zo)(hM:5 * SizeOf.sizeOf x0 + 3≤M)(hp0:HP)(okx1:YO x1)(g_3519_0:Nat)(g_3519_1:Nat)(hb:x0.Stores.length≤4611686018427387)(k2:AV→AV→HP→Eff→KR)(k2T:Option Bool)(hk2:∀ (hp:HP),hp0.length≤hp.length→hp[g_3519_0]? = some (.cells (Zk x0) Zb)→hp[g_3519_1]? = some (.cells (Zk x1) Zb)→∀ res,k2T=some res→k2 (.ptr g_3519_0 0) (.ptr g_3519_1 0) hp none=some ((AV.bool res),hp0,none)):∀ (r6 q6:List Qr) (m:Nat) (hp:HP),x0.Stores=q6 ++ r6→r6.length < m→hp0.length≤hp.length→hp[g_3519_0]? = some (.cells (Zk x0) Zb)→hp[g_3519_1]? = some (.cells (Zk x1) Zb)→∀ res,Uu x1 k2T r6 q6=some res→Hm C.G (Za C M) C.L hp0 k2 m (.ptr g_3519_0 0) (.ptr g_3519_1 0) (.int .i64 (q6.length:Int)) hp none=some ((AV.bool res),hp0,none)
 | _,_,0,_,_,h,_,_,_,_,_=>by omega
 | [],q6,m + 1,hp,h,hr,hh,f3519_0,f3519_1,res,hres=>by
  have l0:=lp0 h
  have lt_f3519_0:=(List.getElem?_eq_some_iff.1 f3519_0).1
  have lt_f3519_1:=(List.getElem?_eq_some_iff.1 f3519_1).1
  simp only [Uu,IFJ] at hres
  have hx:=hk2  hp (by omega) f3519_0 f3519_1 res hres
  simp only [ZX,Hm,COL,WC,UA,ZL,WV,ZY,XB,YU,Qo,WB,reduceAdd,reduceLeDiff,Nat.reduceBEq,l0,LG f3519_0,hx]
  try rfl
 | x6 :: r6,q6,m + 1,hp,h,hr,hh,f3519_0,f3519_1,res,hres=>by
  obtain ⟨a1,-,a3,a4,a5⟩:=lp (Yt) h hb
  have me6:=a5
  have a2:(x0.Stores.map Yt)[q6.length]? = some (Yt x6):=(lp (Yt) h hb).2.1
  have lt_f3519_0:=(List.getElem?_eq_some_iff.1 f3519_0).1
  have lt_f3519_1:=(List.getElem?_eq_some_iff.1 f3519_1).1
  have ix6:Y4 (.slice 3) (.lst 3 (x0.Stores.map Yt)) (.int .i64 (q6.length:Int))=some (.ref (Yt x6)):=by rw [Qu,a2]; rfl
  cases q8:PN x1.Stores (q6.length:Int) with
  | none =>
   simp only [Uu,IFJ,WT,q8] at hres; cases hres
  | some y7 =>
   have y7e:Y4 (.slice 3) (.lst 3 (x1.Stores.map Yt)) (.int .i64 (q6.length:Int))=some (.ref (Yt y7)):=MR (row := Yt) q8
   have oky7:=(okx1.Stores).2 _ (WJ q8)
   have memy7:=WJ q8
   rcases Bool.eq_false_or_eq_true ((!(eqv x6 y7))) with b9 | b9
   ·simp only [Uu,IFJ,q8,Zj,b9] at hres
    cases hres
    simp only [ZX,Hm,COL,WC,UA,ZL,WV,ZY,XB,YU,Qo,WB,reduceAdd,reduceLeDiff,Nat.reduceBEq,a1,a3,LG f3519_0,ix6,LG f3519_1,y7e,b9]
    try rfl
   ·simp only [Uu,IFJ,q8,Zj,b9] at hres
    have hx:=Zfa hC M x0 x1 hM hp0 okx1 g_3519_0 g_3519_1 hb k2 k2T hk2 r6 (q6 ++ [x6]) m hp a4 (by simpa using hr) (by omega) f3519_0 f3519_1 res hres
    simp only [ZX,Hm,COL,WC,UA,ZL,WV,ZY,XB,YU,Qo,WB,reduceAdd,reduceLeDiff,Nat.reduceBEq,a1,a3,LG f3519_0,ix6,LG f3519_1,y7e,b9,hx]
    try rfl
noncomputable def Uw (x1:Zo)(k4T:Option Bool):List Xn→List Xn→Option Bool
 | [],q0=>k4T
 | x0 :: r0,q0=>Jp (PN x1.Belts (q0.length:Int)) fun y2=>if (!(eqv x0 y2))=true then some false else (Uw x1 k4T r0) (q0 ++ [x0])
theorem Zfb {C:Cfg}(hC:Sr C)(M:Nat)(x0:Zo)(x1:Zo)(hM:5 * SizeOf.sizeOf x0 + 3≤M)(hp0:HP)(okx1:YO x1)(g_3530_0:Nat)(g_3530_1:Nat)(hb:x0.Belts.length≤4611686018427387)(k4:AV→AV→HP→Eff→KR)(k4T:Option Bool)(hk4:∀ (hp:HP),hp0.length≤hp.length→hp[g_3530_0]? = some (.cells (Zk x0) Zb)→hp[g_3530_1]? = some (.cells (Zk x1) Zb)→∀ res,k4T=some res→k4 (.ptr g_3530_0 0) (.ptr g_3530_1 0) hp none=some ((AV.bool res),hp0,none)):∀ (r6 q6:List Xn) (m:Nat) (hp:HP),x0.Belts=q6 ++ r6→r6.length < m→hp0.length≤hp.length→hp[g_3530_0]? = some (.cells (Zk x0) Zb)→hp[g_3530_1]? = some (.cells (Zk x1) Zb)→∀ res,Uw x1 k4T r6 q6=some res→Ho C.G (Za C M) C.L hp0 k4 m (.ptr g_3530_0 0) (.ptr g_3530_1 0) (.int .i64 (q6.length:Int)) hp none=some ((AV.bool res),hp0,none)
 | _,_,0,_,_,h,_,_,_,_,_=>by omega
 | [],q6,m + 1,hp,h,hr,hh,f3530_0,f3530_1,res,hres=>by
  have l0:=lp0 h
  have lt_f3530_0:=(List.getElem?_eq_some_iff.1 f3530_0).1
  have lt_f3530_1:=(List.getElem?_eq_some_iff.1 f3530_1).1
  simp only [Uw,IFJ] at hres
  have hx:=hk4  hp (by omega) f3530_0 f3530_1 res hres
  simp only [ZX,Yk,Ho,COL,WC,UA,ZL,WV,ZY,XB,YU,Qo,WB,reduceAdd,reduceLeDiff,Nat.reduceBEq,l0,LG f3530_0,hx]
  try rfl
 | x6 :: r6,q6,m + 1,hp,h,hr,hh,f3530_0,f3530_1,res,hres=>by
  obtain ⟨a1,-,a3,a4,a5⟩:=lp (YQ) h hb
  have me6:=a5
  have a2:(x0.Belts.map YQ)[q6.length]? = some (YQ x6):=(lp (YQ) h hb).2.1
  have lt_f3530_0:=(List.getElem?_eq_some_iff.1 f3530_0).1
  have lt_f3530_1:=(List.getElem?_eq_some_iff.1 f3530_1).1
  have ix6:Y4 (.slice 3) (.lst 3 (x0.Belts.map YQ)) (.int .i64 (q6.length:Int))=some (.ref (YQ x6)):=by rw [Qu,a2]; rfl
  cases q8:PN x1.Belts (q6.length:Int) with
  | none =>
   simp only [Uw,IFJ,WT,q8] at hres; cases hres
  | some y7 =>
   have y7e:Y4 (.slice 3) (.lst 3 (x1.Belts.map YQ)) (.int .i64 (q6.length:Int))=some (.ref (YQ y7)):=MR (row := YQ) q8
   have oky7:=(okx1.Belts).2 _ (WJ q8)
   have memy7:=WJ q8
   rcases Bool.eq_false_or_eq_true ((!(eqv x6 y7))) with b9 | b9
   ·simp only [Uw,IFJ,q8,Zj,b9] at hres
    cases hres
    simp only [ZX,Yk,Ho,COL,WC,UA,ZL,WV,ZY,XB,YU,Qo,WB,reduceAdd,reduceLeDiff,Nat.reduceBEq,a1,a3,LG f3530_0,ix6,LG f3530_1,y7e,b9]
    try rfl
   ·simp only [Uw,IFJ,q8,Zj,b9] at hres
    have hx:=Zfb hC M x0 x1 hM hp0 okx1 g_3530_0 g_3530_1 hb k4 k4T hk4 r6 (q6 ++ [x6]) m hp a4 (by simpa using hr) (by omega) f3530_0 f3530_1 res hres
    simp only [ZX,Yk,Ho,COL,WC,UA,ZL,WV,ZY,XB,YU,Qo,WB,reduceAdd,reduceLeDiff,Nat.reduceBEq,a1,a3,LG f3530_0,ix6,LG f3530_1,y7e,b9,hx]
    try rfl
noncomputable def XX (x1:Zo)(k6T:Option Bool):List QJ→List QJ→Option Bool
 | [],q0=>k6T
 | x0 :: r0,q0=>Jp (PN x1.Routines (q0.length:Int)) fun y2=>if (decide (x0.Name≠y2.Name))=true then some false else Jp ((I5 x0.Params y2.Params)) fun v3=>if (!v3)=true then some false else Jp ((I5 x0.Locals y2.Locals)) fun v4=>if ((!v4) || (!(eqv x0.Body y2.Body)))=true then some false else (XX x1 k6T r0) (q0 ++ [x0])
theorem Zfc {C:Cfg}(hC:Sr C)(M:Nat)(x0:Zo)(x1:Zo)(hM:5 * SizeOf.sizeOf x0 + 3≤M)(hp0:HP)(okx0:YO x0)(okx1:YO x1)(g_3579_0:Nat)(g_3579_1:Nat)(hb:x0.Routines.length≤4611686018427387)(k6:AV→AV→HP→Eff→KR)(k6T:Option Bool)(hk6:∀ (hp:HP),hp0.length≤hp.length→hp[g_3579_0]? = some (.cells (Zk x0) Zb)→hp[g_3579_1]? = some (.cells (Zk x1) Zb)→∀ res,k6T=some res→k6 (.ptr g_3579_0 0) (.ptr g_3579_1 0) hp none=some ((AV.bool res),hp0,none)):∀ (r7 q7:List QJ) (m:Nat) (hp:HP),x0.Routines=q7 ++ r7→r7.length < m→hp0.length≤hp.length→hp[g_3579_0]? = some (.cells (Zk x0) Zb)→hp[g_3579_1]? = some (.cells (Zk x1) Zb)→∀ res,XX x1 k6T r7 q7=some res→Us C.G (Za C M) C.L hp0 k6 m (.ptr g_3579_0 0) (.ptr g_3579_1 0) (.int .i64 (q7.length:Int)) hp none=some ((AV.bool res),hp0,none)
 | _,_,0,_,_,h,_,_,_,_,_=>by omega
 | [],q7,m + 1,hp,h,hr,hh,f3579_0,f3579_1,res,hres=>by
  have l0:=lp0 h
  have lt_f3579_0:=(List.getElem?_eq_some_iff.1 f3579_0).1
  have lt_f3579_1:=(List.getElem?_eq_some_iff.1 f3579_1).1
  simp only [XX,IFJ] at hres
  have hx:=hk6  hp (by omega) f3579_0 f3579_1 res hres
  simp only [ZX,Yk,Y2,Us,COL,WC,UA,ZL,WV,ZY,XB,YU,Qo,WB,reduceAdd,reduceLeDiff,Nat.reduceBEq,l0,LG f3579_0,hx]
  try rfl
 | x7 :: r7,q7,m + 1,hp,h,hr,hh,f3579_0,f3579_1,res,hres=>by
  obtain ⟨a1,-,a3,a4,a5⟩:=lp (Y3) h hb
  have me7:=a5
  have a2:(x0.Routines.map Y3)[q7.length]? = some (Y3 x7):=(lp (Y3) h hb).2.1
  have okx7:=(okx0.Routines).2 _ a5
  have lt_f3579_0:=(List.getElem?_eq_some_iff.1 f3579_0).1
  have lt_f3579_1:=(List.getElem?_eq_some_iff.1 f3579_1).1
  have ix7:Y4 (.slice 4) (.lst 4 (x0.Routines.map Y3)) (.int .i64 (q7.length:Int))=some (.ref (Y3 x7)):=by rw [Qu,a2]; rfl
  cases q9:PN x1.Routines (q7.length:Int) with
  | none =>
   simp only [XX,IFJ,WT,q9] at hres; cases hres
  | some y8 =>
   have y8e:Y4 (.slice 4) (.lst 4 (x1.Routines.map Y3)) (.int .i64 (q7.length:Int))=some (.ref (Y3 y8)):=MR (row := Y3) q9
   have oky8:=(okx1.Routines).2 _ (WJ q9)
   have memy8:=WJ q9
   obtain ⟨h10,hh10,g11,l12⟩:=mkH hp (Z5.cells [(.str []),(.own 2 []),(.own 2 []),(.own 21 [])] Wn)
   have g13:=keA hh10 f3579_0
   have g14:=keA hh10 f3579_1
   obtain ⟨h15,hh15,g16,l17⟩:=mkH h10 (Z5.cells [(.str []),(.own 2 []),(.own 2 []),(.own 21 [])] Wn)
   have g18:=keA hh15 g13
   have g19:=keA hh15 g14
   have g20:=keA hh15 g11
   obtain ⟨h21,hh21,g22,l23⟩:=seH g20 (Z5.cells (Y3 x7) Wn)
   have g24:=keS hh21 g18 (by omega)
   have g25:=keS hh21 g19 (by omega)
   have g26:=keS hh21 g16 (by omega)
   have e27:stV hp0.length 4 (.ptr hp.length 0) (.agg (Y3 x7)) h15 none=some (h21,none):=by rw [← hh21]; exact DW g20 (by first | rfl | exact OU _) (by simp) rfl (by omega) (by rw [Gx]; exact UH (by exact OU _) (by rfl))
   obtain ⟨h28,hh28,g29,l30⟩:=seH g26 (Z5.cells (Y3 y8) Wn)
   have g31:=keS hh28 g24 (by omega)
   have g32:=keS hh28 g25 (by omega)
   have g33:=keS hh28 g22 (by omega)
   have e34:stV hp0.length 4 (.ptr h10.length 0) (.agg (Y3 y8)) h21 none=some (h28,none):=by rw [← hh28]; exact DW g26 (by first | rfl | exact OU _) (by simp) rfl (by omega) (by rw [Gx]; exact UH (by exact OU _) (by rfl))
   rcases Bool.eq_false_or_eq_true ((decide (x7.Name≠y8.Name))) with b35 | b35
   ·simp only [XX,IFJ,q9,Zj,b35] at hres
    cases hres
    simp only [ZX,Yk,Y2,Us,COL,WC,UA,ZL,WV,ZY,XB,YU,Qo,WB,reduceAdd,reduceLeDiff,Nat.reduceBEq,a1,a3,LG f3579_0,ix7,LG f3579_1,y8e,hh10,hh15,e27,e34,LG g33,LG g29,b35]
    try rfl
   ·cases q38:(I5 x7.Params y8.Params) with
    | none =>
     simp only [XX,IFJ,WT,q9,Zj,b35,q38] at hres; cases hres
    | some v37 =>
     have c36:=fun hp:HP=>Zgp hC M x7.Params y8.Params (by omega) hp okx7.Params oky8.Params q38
     rcases Bool.eq_false_or_eq_true ((!v37)) with b39 | b39
     ·simp only [XX,IFJ,q9,Zj,b35,q38,b39] at hres
      cases hres
      simp only [ZX,Yk,Y2,Us,COL,WC,UA,ZL,WV,ZY,XB,YU,Qo,WB,reduceAdd,reduceLeDiff,Nat.reduceBEq,a1,a3,LG f3579_0,ix7,LG f3579_1,y8e,hh10,hh15,e27,e34,LG g33,LG g29,b35,c36,b39]
      try rfl
     ·cases q42:(I5 x7.Locals y8.Locals) with
      | none =>
       simp only [XX,IFJ,WT,q9,Zj,b35,q38,Zj,b39,q42] at hres; cases hres
      | some v41 =>
       have c40:=fun hp:HP=>Zgp hC M x7.Locals y8.Locals (by omega) hp okx7.Locals oky8.Locals q42
       have c43:=fun hp:HP=>Zzy hC M x7.Body y8.Body (by have:=Zcl x0; have:=List.sizeOf_lt_of_mem me7; have:=Zit x7; omega) hp okx7.Body oky8.Body
       rcases Bool.eq_false_or_eq_true (((!v41) || (!(eqv x7.Body y8.Body)))) with b44 | b44
       ·simp only [XX,IFJ,q9,Zj,b35,q38,b39,q42,b44] at hres
        cases hres
        simp only [ZX,Yk,Y2,Us,COL,WC,UA,ZL,WV,ZY,XB,YU,Qo,WB,reduceAdd,reduceLeDiff,Nat.reduceBEq,a1,a3,LG f3579_0,ix7,LG f3579_1,y8e,hh10,hh15,e27,e34,LG g33,LG g29,b35,c36,b39,c40,c43,b44]
        try rfl
       ·simp only [XX,IFJ,q9,Zj,b35,q38,b39,q42,b44] at hres
        have hx:=Zfc hC M x0 x1 hM hp0 okx0 okx1 g_3579_0 g_3579_1 hb k6 k6T hk6 r7 (q7 ++ [x7]) m h28 a4 (by simpa using hr) (by omega) g31 g32 res hres
        simp only [ZX,Yk,Y2,Us,COL,WC,UA,ZL,WV,ZY,XB,YU,Qo,WB,reduceAdd,reduceLeDiff,Nat.reduceBEq,a1,a3,LG f3579_0,ix7,LG f3579_1,y8e,hh10,hh15,e27,e34,LG g33,LG g29,b35,c36,b39,c40,c43,b44,hx]
        try rfl
def VU (x1:Zo)(k8T:Option Bool):List KY→List KY→Option Bool
 | [],q0=>k8T
 | x0 :: r0,q0=>Jp (PN x1.Starts (q0.length:Int)) fun y2=>if ((((decide (x0.Routine≠y2.Routine)) || (decide (x0.At_≠y2.At_))) || (decide (x0.Every≠y2.Every))) || (decide (x0.Until≠y2.Until)))=true then some false else Jp ((NT x0.Args y2.Args)) fun v3=>if (!v3)=true then some false else (VU x1 k8T r0) (q0 ++ [x0])
theorem Zfd {C:Cfg}(hC:Sr C)(M:Nat)(x0:Zo)(x1:Zo)(hM:5 * SizeOf.sizeOf x0 + 3≤M)(hp0:HP)(okx0:YO x0)(okx1:YO x1)(g_3659_0:Nat)(g_3659_1:Nat)(hb:x0.Starts.length≤4611686018427387)(k8:AV→AV→HP→Eff→KR)(k8T:Option Bool)(hk8:∀ (hp:HP),hp0.length≤hp.length→hp[g_3659_0]? = some (.cells (Zk x0) Zb)→hp[g_3659_1]? = some (.cells (Zk x1) Zb)→∀ res,k8T=some res→k8 (.ptr g_3659_0 0) (.ptr g_3659_1 0) hp none=some ((AV.bool res),hp0,none)):∀ (r6 q6:List KY) (m:Nat) (hp:HP),x0.Starts=q6 ++ r6→r6.length < m→hp0.length≤hp.length→hp[g_3659_0]? = some (.cells (Zk x0) Zb)→hp[g_3659_1]? = some (.cells (Zk x1) Zb)→∀ res,VU x1 k8T r6 q6=some res→Kz C.G (Za C M) C.L hp0 k8 m (.ptr g_3659_0 0) (.ptr g_3659_1 0) (.int .i64 (q6.length:Int)) hp none=some ((AV.bool res),hp0,none)
 | _,_,0,_,_,h,_,_,_,_,_=>by omega
 | [],q6,m + 1,hp,h,hr,hh,f3659_0,f3659_1,res,hres=>by
  have l0:=lp0 h
  have lt_f3659_0:=(List.getElem?_eq_some_iff.1 f3659_0).1
  have lt_f3659_1:=(List.getElem?_eq_some_iff.1 f3659_1).1
  simp only [VU,IFJ] at hres
  have hx:=hk8  hp (by omega) f3659_0 f3659_1 res hres
  simp only [ZX,Yk,Y2,YR,Kz,COL,WC,UA,ZL,WV,ZY,XB,YU,Qo,WB,reduceAdd,reduceLeDiff,Nat.reduceBEq,l0,LG f3659_0,hx]
  try rfl
 | x6 :: r6,q6,m + 1,hp,h,hr,hh,f3659_0,f3659_1,res,hres=>by
  obtain ⟨a1,-,a3,a4,a5⟩:=lp (Xq) h hb
  have me6:=a5
  have a2:(x0.Starts.map Xq)[q6.length]? = some (Xq x6):=(lp (Xq) h hb).2.1
  have okx6:=(okx0.Starts).2 _ a5
  have lt_f3659_0:=(List.getElem?_eq_some_iff.1 f3659_0).1
  have lt_f3659_1:=(List.getElem?_eq_some_iff.1 f3659_1).1
  have ix6:Y4 (.slice 5) (.lst 5 (x0.Starts.map Xq)) (.int .i64 (q6.length:Int))=some (.ref (Xq x6)):=by rw [Qu,a2]; rfl
  cases q9:PN x1.Starts (q6.length:Int) with
  | none =>
   simp only [VU,IFJ,WT,q9] at hres; cases hres
  | some y7 =>
   have y7e:Y4 (.slice 5) (.lst 5 (x1.Starts.map Xq)) (.int .i64 (q6.length:Int))=some (.ref (Xq y7)):=MR (row := Xq) q9
   have oky7:=(okx1.Starts).2 _ (WJ q9)
   have memy7:=WJ q9
   obtain ⟨h10,hh10,g11,l12⟩:=mkH hp (Z5.cells [(.str []),(.own 1 []),(.int .i64 0),(.int .i64 0),(.int .i64 0)] XO)
   have g13:=keA hh10 f3659_0
   have g14:=keA hh10 f3659_1
   obtain ⟨h15,hh15,g16,l17⟩:=mkH h10 (Z5.cells [(.str []),(.own 1 []),(.int .i64 0),(.int .i64 0),(.int .i64 0)] XO)
   have g18:=keA hh15 g13
   have g19:=keA hh15 g14
   have g20:=keA hh15 g11
   obtain ⟨h21,hh21,g22,l23⟩:=seH g20 (Z5.cells (Xq x6) XO)
   have g24:=keS hh21 g18 (by omega)
   have g25:=keS hh21 g19 (by omega)
   have g26:=keS hh21 g16 (by omega)
   have e27:stV hp0.length 5 (.ptr hp.length 0) (.agg (Xq x6)) h15 none=some (h21,none):=by rw [← hh21]; exact DW g20 (by first | rfl | exact NS _) (by simp) rfl (by omega) (by rw [Gx]; exact UH (by exact NS _) (by rfl))
   obtain ⟨h28,hh28,g29,l30⟩:=seH g26 (Z5.cells (Xq y7) XO)
   have g31:=keS hh28 g24 (by omega)
   have g32:=keS hh28 g25 (by omega)
   have g33:=keS hh28 g22 (by omega)
   have e34:stV hp0.length 5 (.ptr h10.length 0) (.agg (Xq y7)) h21 none=some (h28,none):=by rw [← hh28]; exact DW g26 (by first | rfl | exact NS _) (by simp) rfl (by omega) (by rw [Gx]; exact UH (by exact NS _) (by rfl))
   rcases Bool.eq_false_or_eq_true (((((decide (x6.Routine≠y7.Routine)) || (decide (x6.At_≠y7.At_))) || (decide (x6.Every≠y7.Every))) || (decide (x6.Until≠y7.Until)))) with b35 | b35
   ·simp only [VU,IFJ,q9,Zj,b35] at hres
    cases hres
    simp only [ZX,Yk,Y2,YR,Kz,COL,WC,UA,ZL,WV,ZY,XB,YU,Qo,WB,reduceAdd,reduceLeDiff,Nat.reduceBEq,a1,a3,LG f3659_0,ix6,LG f3659_1,y7e,hh10,hh15,e27,e34,LG g33,LG g29,b35]
    try rfl
   ·cases q38:(NT x6.Args y7.Args) with
    | none =>
     simp only [VU,IFJ,WT,q9,Zj,b35,q38] at hres; cases hres
    | some v37 =>
     have c36:=fun hp:HP=>Ztb hC M x6.Args y7.Args (by omega) hp okx6.Args oky7.Args q38
     rcases Bool.eq_false_or_eq_true ((!v37)) with b39 | b39
     ·simp only [VU,IFJ,q9,Zj,b35,q38,b39] at hres
      cases hres
      simp only [ZX,Yk,Y2,YR,Kz,COL,WC,UA,ZL,WV,ZY,XB,YU,Qo,WB,reduceAdd,reduceLeDiff,Nat.reduceBEq,a1,a3,LG f3659_0,ix6,LG f3659_1,y7e,hh10,hh15,e27,e34,LG g33,LG g29,b35,c36,b39]
      try rfl
     ·simp only [VU,IFJ,q9,Zj,b35,q38,b39] at hres
      have hx:=Zfd hC M x0 x1 hM hp0 okx0 okx1 g_3659_0 g_3659_1 hb k8 k8T hk8 r6 (q6 ++ [x6]) m h28 a4 (by simpa using hr) (by omega) g31 g32 res hres
      simp only [ZX,Yk,Y2,YR,Kz,COL,WC,UA,ZL,WV,ZY,XB,YU,Qo,WB,reduceAdd,reduceLeDiff,Nat.reduceBEq,a1,a3,LG f3659_0,ix6,LG f3659_1,y7e,hh10,hh15,e27,e34,LG g33,LG g29,b35,c36,b39,hx]
      try rfl
noncomputable def Jf (x1:Zo)(k10T:Option Bool):List Zc1→List Zc1→Option Bool
 | [],q0=>k10T
 | x0 :: r0,q0=>Jp (PN x1.Laws (q0.length:Int)) fun y2=>Jp ((BK x0 y2)) fun v3=>if (!v3)=true then some false else (Jf x1 k10T r0) (q0 ++ [x0])
theorem ZdU {C:Cfg}(hC:Sr C)(M:Nat)(x0:Zo)(x1:Zo)(hM:5 * SizeOf.sizeOf x0 + 3≤M)(hp0:HP)(okx0:YO x0)(okx1:YO x1)(g_3704_0:Nat)(g_3704_1:Nat)(hb:x0.Laws.length≤4611686018427387)(k10:HP→Eff→KR)(k10T:Option Bool)(hk10:∀ (hp:HP),hp0.length≤hp.length→hp[g_3704_0]? = some (.cells (Zk x0) Zb)→hp[g_3704_1]? = some (.cells (Zk x1) Zb)→∀ res,k10T=some res→k10 hp none=some ((AV.bool res),hp0,none)):∀ (r6 q6:List Zc1) (m:Nat) (hp:HP),x0.Laws=q6 ++ r6→r6.length < m→hp0.length≤hp.length→hp[g_3704_0]? = some (.cells (Zk x0) Zb)→hp[g_3704_1]? = some (.cells (Zk x1) Zb)→∀ res,Jf x1 k10T r6 q6=some res→Gj C.G (Za C M) C.L hp0 k10 m (.ptr g_3704_0 0) (.ptr g_3704_1 0) (.int .i64 (q6.length:Int)) hp none=some ((AV.bool res),hp0,none)
 | _,_,0,_,_,h,_,_,_,_,_=>by omega
 | [],q6,m + 1,hp,h,hr,hh,f3704_0,f3704_1,res,hres=>by
  have l0:=lp0 h
  have lt_f3704_0:=(List.getElem?_eq_some_iff.1 f3704_0).1
  have lt_f3704_1:=(List.getElem?_eq_some_iff.1 f3704_1).1
  simp only [Jf,IFJ] at hres
  have hx:=hk10  hp (by omega) f3704_0 f3704_1 res hres
  simp only [ZX,Yk,Y2,YR,WR,Gj,COL,WC,UA,ZL,WV,ZY,XB,YU,Qo,WB,reduceAdd,reduceLeDiff,Nat.reduceBEq,l0,LG f3704_0,hx]
  try rfl
 | x6 :: r6,q6,m + 1,hp,h,hr,hh,f3704_0,f3704_1,res,hres=>by
  obtain ⟨a1,-,a3,a4,a5⟩:=lp (DV) h hb
  have me6:=a5
  have a2:(x0.Laws.map DV)[q6.length]? = some (DV x6):=(lp (DV) h hb).2.1
  have okx6:=(okx0.Laws).2 _ a5
  have lt_f3704_0:=(List.getElem?_eq_some_iff.1 f3704_0).1
  have lt_f3704_1:=(List.getElem?_eq_some_iff.1 f3704_1).1
  have ix6:Y4 (.slice 3) (.lst 3 (x0.Laws.map DV)) (.int .i64 (q6.length:Int))=some (.ref (DV x6)):=by rw [Qu,a2]; rfl
  cases q8:PN x1.Laws (q6.length:Int) with
  | none =>
   simp only [Jf,IFJ,WT,q8] at hres; cases hres
  | some y7 =>
   have y7e:Y4 (.slice 3) (.lst 3 (x1.Laws.map DV)) (.int .i64 (q6.length:Int))=some (.ref (DV y7)):=MR (row := DV) q8
   have oky7:=(okx1.Laws).2 _ (WJ q8)
   have memy7:=WJ q8
   cases q12:(BK x6 y7) with
   | none =>
    simp only [Jf,IFJ,WT,q8,Zj,q12] at hres; cases hres
   | some v11 =>
    have c9:=fun hp:HP=>Zva hC M x6 y7 (by omega) hp okx6 oky7 q12
    rcases Bool.eq_false_or_eq_true ((!v11)) with b13 | b13
    ·simp only [Jf,IFJ,q8,Zj,q12,b13] at hres
     cases hres
     simp only [ZX,Yk,Y2,YR,WR,Gj,COL,WC,UA,ZL,WV,ZY,XB,YU,Qo,WB,reduceAdd,reduceLeDiff,Nat.reduceBEq,a1,a3,LG f3704_0,ix6,LG f3704_1,y7e,c9,b13]
     try rfl
    ·simp only [Jf,IFJ,q8,Zj,q12,b13] at hres
     have hx:=ZdU hC M x0 x1 hM hp0 okx0 okx1 g_3704_0 g_3704_1 hb k10 k10T hk10 r6 (q6 ++ [x6]) m hp a4 (by simpa using hr) (by omega) f3704_0 f3704_1 res hres
     simp only [ZX,Yk,Y2,YR,WR,Gj,COL,WC,UA,ZL,WV,ZY,XB,YU,Qo,WB,reduceAdd,reduceLeDiff,Nat.reduceBEq,a1,a3,LG f3704_0,ix6,LG f3704_1,y7e,c9,b13,hx]
     try rfl
def Oj:Option Bool :=
 some true
noncomputable def Ol (x0:Zo)(x1:Zo):Option Bool :=
 Jf x1 (Oj) x0.Laws []
noncomputable def Om (x0:Zo)(x1:Zo):Option Bool :=
 VU x1 (Ol x0 x1) x0.Starts []
noncomputable def Oo (x0:Zo)(x1:Zo):Option Bool :=
 XX x1 (Om x0 x1) x0.Routines []
noncomputable def Oq (x0:Zo)(x1:Zo):Option Bool :=
 Uw x1 (Oo x0 x1) x0.Belts []
noncomputable def Ot (x0:Zo)(x1:Zo):Option Bool :=
 Uu x1 (Oq x0 x1) x0.Stores []
noncomputable def Xv (x0:Zo)(x1:Zo):Option Bool :=
 if (decide (x0.Name≠x1.Name))=true then some false else Jp ((I7 x0.Vars x1.Vars)) fun v2=>if (((((((!v2) || (decide ((x0.Resources.length:Int)≠(x1.Resources.length:Int)))) || (decide ((x0.Stores.length:Int)≠(x1.Stores.length:Int)))) || (decide ((x0.Belts.length:Int)≠(x1.Belts.length:Int)))) || (decide ((x0.Routines.length:Int)≠(x1.Routines.length:Int)))) || (decide ((x0.Starts.length:Int)≠(x1.Starts.length:Int)))) || (decide ((x0.Laws.length:Int)≠(x1.Laws.length:Int))))=true then some false else Jp ((Jg x0.Queues x1.Queues)) fun v3=>if (!v3)=true then some false else Jp ((Jg x0.Streams x1.Streams)) fun v4=>if (!v4)=true then some false else Jp ((Jg x0.Tallies x1.Tallies)) fun v5=>if (!v5)=true then some false else Jp ((Jg x0.Levels x1.Levels)) fun v6=>if (!v6)=true then some false else Jp ((Jg x0.Counts x1.Counts)) fun v7=>if (!v7)=true then some false else JJ x1 (Ot x0 x1) x0.Resources []
theorem Zta {C:Cfg}(hC:Sr C)(N:Nat)(x0:Zo)(x1:Zo)(hN:5 * SizeOf.sizeOf x0 + 4≤N)(hp0:HP)(okx0:YO x0)(okx1:YO x1){res}(hres:Xv x0 x1=some res):Za C N ZdW [(.agg (Zk x0)),(.agg (Zk x1))] hp0=some ((AV.bool res),hp0,none):=by
 obtain ⟨M,rfl,hh⟩:=exM hp0 (by omega:1≤N)
 refine ZoX (by rw [hC.T]; rfl) ?_
 obtain ⟨h2,hh2,g3,l4⟩:=mkH hp0 (Z5.cells (Zk x0) Zb)
 obtain ⟨h5,hh5,g6,l7⟩:=mkH h2 (Z5.cells (Zk x1) Zb)
 have g8:=keA hh5 g3
 rcases Bool.eq_false_or_eq_true ((decide (x0.Name≠x1.Name))) with b9 | b9
 ·simp only [Xv,IFJ,b9] at hres
  cases hres
  simp only [VG,ZX,Qh,Yk,Y2,YR,WR,COL,WC,UA,ZL,WV,ZY,XB,YU,Qo,WB,reduceAdd,reduceLeDiff,Nat.reduceBEq,hh2,hh5,LG g8,LG g6,b9]
  try rfl
 ·cases q12:(I7 x0.Vars x1.Vars) with
  | none =>
   simp only [Xv,IFJ,WT,b9,q12] at hres; cases hres
  | some v11 =>
   have c10:=fun hp:HP=>Zgq hC M x0.Vars x1.Vars (by omega) hp okx0.Vars okx1.Vars q12
   rcases Bool.eq_false_or_eq_true ((((((((!v11) || (decide ((x0.Resources.length:Int)≠(x1.Resources.length:Int)))) || (decide ((x0.Stores.length:Int)≠(x1.Stores.length:Int)))) || (decide ((x0.Belts.length:Int)≠(x1.Belts.length:Int)))) || (decide ((x0.Routines.length:Int)≠(x1.Routines.length:Int)))) || (decide ((x0.Starts.length:Int)≠(x1.Starts.length:Int)))) || (decide ((x0.Laws.length:Int)≠(x1.Laws.length:Int))))) with b13 | b13
   ·simp only [Xv,IFJ,b9,q12,Zj,b13] at hres
    cases hres
    simp only [VG,ZX,Qh,Yk,Y2,YR,WR,COL,WC,UA,ZL,WV,ZY,XB,YU,Qo,WB,reduceAdd,reduceLeDiff,Nat.reduceBEq,hh2,hh5,LG g8,LG g6,b9,c10,b13]
    try rfl
   ·cases q16:(Jg x0.Queues x1.Queues) with
    | none =>
     simp only [Xv,IFJ,WT,b9,q12,Zj,b13,q16] at hres; cases hres
    | some v15 =>
     have c14:=fun hp:HP=>EN hC M x0.Queues x1.Queues (by omega) hp okx0.Queues okx1.Queues q16
     rcases Bool.eq_false_or_eq_true ((!v15)) with b17 | b17
     ·simp only [Xv,IFJ,b9,q12,Zj,b13,q16,b17] at hres
      cases hres
      simp only [VG,ZX,Qh,Yk,Y2,YR,WR,COL,WC,UA,ZL,WV,ZY,XB,YU,Qo,WB,reduceAdd,reduceLeDiff,Nat.reduceBEq,hh2,hh5,LG g8,LG g6,b9,c10,b13,c14,b17]
      try rfl
     ·cases q20:(Jg x0.Streams x1.Streams) with
      | none =>
       simp only [Xv,IFJ,WT,b9,q12,Zj,b13,q16,Zj,b17,q20] at hres; cases hres
      | some v19 =>
       have c18:=fun hp:HP=>EN hC M x0.Streams x1.Streams (by omega) hp okx0.Streams okx1.Streams q20
       rcases Bool.eq_false_or_eq_true ((!v19)) with b21 | b21
       ·simp only [Xv,IFJ,b9,q12,Zj,b13,q16,b17,q20,b21] at hres
        cases hres
        simp only [VG,ZX,Qh,Yk,Y2,YR,WR,COL,WC,UA,ZL,WV,ZY,XB,YU,Qo,WB,reduceAdd,reduceLeDiff,Nat.reduceBEq,hh2,hh5,LG g8,LG g6,b9,c10,b13,c14,b17,c18,b21]
        try rfl
       ·cases q24:(Jg x0.Tallies x1.Tallies) with
        | none =>
         simp only [Xv,IFJ,WT,b9,q12,Zj,b13,q16,Zj,b17,q20,Zj,b21,q24] at hres; cases hres
        | some v23 =>
         have c22:=fun hp:HP=>EN hC M x0.Tallies x1.Tallies (by omega) hp okx0.Tallies okx1.Tallies q24
         rcases Bool.eq_false_or_eq_true ((!v23)) with b25 | b25
         ·simp only [Xv,IFJ,b9,q12,Zj,b13,q16,b17,q20,b21,q24,b25] at hres
          cases hres
          simp only [VG,ZX,Qh,Yk,Y2,YR,WR,COL,WC,UA,ZL,WV,ZY,XB,YU,Qo,WB,reduceAdd,reduceLeDiff,Nat.reduceBEq,hh2,hh5,LG g8,LG g6,b9,c10,b13,c14,b17,c18,b21,c22,b25]
          try rfl
         ·cases q28:(Jg x0.Levels x1.Levels) with
          | none =>
           simp only [Xv,IFJ,WT,b9,q12,Zj,b13,q16,Zj,b17,q20,Zj,b21,q24,Zj,b25,q28] at hres; cases hres
          | some v27 =>
           have c26:=fun hp:HP=>EN hC M x0.Levels x1.Levels (by omega) hp okx0.Levels okx1.Levels q28
           rcases Bool.eq_false_or_eq_true ((!v27)) with b29 | b29
           ·simp only [Xv,IFJ,b9,q12,Zj,b13,q16,b17,q20,b21,q24,b25,q28,b29] at hres
            cases hres
            simp only [VG,ZX,Qh,Yk,Y2,YR,WR,COL,WC,UA,ZL,WV,ZY,XB,YU,Qo,WB,reduceAdd,reduceLeDiff,Nat.reduceBEq,hh2,hh5,LG g8,LG g6,b9,c10,b13,c14,b17,c18,b21,c22,b25,c26,b29]
            try rfl
           ·cases q32:(Jg x0.Counts x1.Counts) with
            | none =>
             simp only [Xv,IFJ,WT,b9,q12,Zj,b13,q16,Zj,b17,q20,Zj,b21,q24,Zj,b25,q28,Zj,b29,q32] at hres; cases hres
            | some v31 =>
             have c30:=fun hp:HP=>EN hC M x0.Counts x1.Counts (by omega) hp okx0.Counts okx1.Counts q32
             rcases Bool.eq_false_or_eq_true ((!v31)) with b33 | b33
             ·simp only [Xv,IFJ,b9,q12,Zj,b13,q16,b17,q20,b21,q24,b25,q28,b29,q32,b33] at hres
              cases hres
              simp only [VG,ZX,Qh,Yk,Y2,YR,WR,COL,WC,UA,ZL,WV,ZY,XB,YU,Qo,WB,reduceAdd,reduceLeDiff,Nat.reduceBEq,hh2,hh5,LG g8,LG g6,b9,c10,b13,c14,b17,c18,b21,c22,b25,c26,b29,c30,b33]
              try rfl
             ·simp only [Xv,IFJ,b9,q12,Zj,b13,q16,b17,q20,b21,q24,b25,q28,b29,q32,b33] at hres
              have hk34:∀ (hp34:HP),hp0.length≤hp34.length→hp34[hp0.length]? = some (.cells (Zk x0) Zb)→hp34[h2.length]? = some (.cells (Zk x1) Zb)→∀ res,Ot x0 x1=some res→(ZX C.G (Za C M) C.L hp0) (.ptr hp0.length 0) (.ptr h2.length 0) hp34 none=some ((AV.bool res),hp0,none):=by
               intro hp34 hh34 fz3512_0 fz3512_1 res hres
               have lt_fz3512_0:=(List.getElem?_eq_some_iff.1 fz3512_0).1
               have lt_fz3512_1:=(List.getElem?_eq_some_iff.1 fz3512_1).1
               simp only [Ot,IFJ] at hres
               have hk35:∀ (hp35:HP),hp0.length≤hp35.length→hp35[hp0.length]? = some (.cells (Zk x0) Zb)→hp35[h2.length]? = some (.cells (Zk x1) Zb)→∀ res,Oq x0 x1=some res→(Yk C.G (Za C M) C.L hp0) (.ptr hp0.length 0) (.ptr h2.length 0) hp35 none=some ((AV.bool res),hp0,none):=by
                intro hp35 hh35 fz3523_0 fz3523_1 res hres
                have lt_fz3523_0:=(List.getElem?_eq_some_iff.1 fz3523_0).1
                have lt_fz3523_1:=(List.getElem?_eq_some_iff.1 fz3523_1).1
                simp only [Oq,IFJ] at hres
                have hk36:∀ (hp36:HP),hp0.length≤hp36.length→hp36[hp0.length]? = some (.cells (Zk x0) Zb)→hp36[h2.length]? = some (.cells (Zk x1) Zb)→∀ res,Oo x0 x1=some res→(Y2 C.G (Za C M) C.L hp0) (.ptr hp0.length 0) (.ptr h2.length 0) hp36 none=some ((AV.bool res),hp0,none):=by
                 intro hp36 hh36 fz3534_0 fz3534_1 res hres
                 have lt_fz3534_0:=(List.getElem?_eq_some_iff.1 fz3534_0).1
                 have lt_fz3534_1:=(List.getElem?_eq_some_iff.1 fz3534_1).1
                 simp only [Oo,IFJ] at hres
                 have hk37:∀ (hp37:HP),hp0.length≤hp37.length→hp37[hp0.length]? = some (.cells (Zk x0) Zb)→hp37[h2.length]? = some (.cells (Zk x1) Zb)→∀ res,Om x0 x1=some res→(YR C.G (Za C M) C.L hp0) (.ptr hp0.length 0) (.ptr h2.length 0) hp37 none=some ((AV.bool res),hp0,none):=by
                  intro hp37 hh37 fz3621_0 fz3621_1 res hres
                  have lt_fz3621_0:=(List.getElem?_eq_some_iff.1 fz3621_0).1
                  have lt_fz3621_1:=(List.getElem?_eq_some_iff.1 fz3621_1).1
                  simp only [Om,IFJ] at hres
                  have hk38:∀ (hp38:HP),hp0.length≤hp38.length→hp38[hp0.length]? = some (.cells (Zk x0) Zb)→hp38[h2.length]? = some (.cells (Zk x1) Zb)→∀ res,Ol x0 x1=some res→(WR C.G (Za C M) C.L hp0) (.ptr hp0.length 0) (.ptr h2.length 0) hp38 none=some ((AV.bool res),hp0,none):=by
                   intro hp38 hh38 fz3694_0 fz3694_1 res hres
                   have lt_fz3694_0:=(List.getElem?_eq_some_iff.1 fz3694_0).1
                   have lt_fz3694_1:=(List.getElem?_eq_some_iff.1 fz3694_1).1
                   simp only [Ol,IFJ] at hres
                   have hk39:∀ (hp39:HP),hp0.length≤hp39.length→hp39[hp0.length]? = some (.cells (Zk x0) Zb)→hp39[h2.length]? = some (.cells (Zk x1) Zb)→∀ res,Oj=some res→(Qh C.G (Za C M) C.L hp0) hp39 none=some ((AV.bool res),hp0,none):=by
                    intro hp39 hh39 fz3711_0 fz3711_1 res hres
                    have lt_fz3711_0:=(List.getElem?_eq_some_iff.1 fz3711_0).1
                    have lt_fz3711_1:=(List.getElem?_eq_some_iff.1 fz3711_1).1
                    simp only [Oj,IFJ] at hres
                    cases hres
                    simp only [VG,ZX,Qh,Yk,Y2,YR,WR,COL,WC,UA,ZL,WV,ZY,XB,YU,Qo,WB,reduceAdd,reduceLeDiff,Nat.reduceBEq,hh2,hh5,LG g8,LG g6,b9,c10,b13,c14,b17,c18,b21,c22,b25,c26,b29,c30,b33]
                    try rfl
                   have hb':x0.Laws.length≤4611686018427387:=(by have:=(okx0.Laws).1; omega)
                   have hx:=ZdU hC M x0 x1 (by omega) hp0 okx0 okx1 hp0.length h2.length hb' (Qh C.G (Za C M) C.L hp0) (Oj) hk39 x0.Laws [] C.L hp38 rfl (by have:=hC.L; omega) (by omega) fz3694_0 fz3694_1 res hres
                   try simp only [NIL] at hx
                   simp only [VG,ZX,Qh,Yk,Y2,YR,WR,COL,WC,UA,ZL,WV,ZY,XB,YU,Qo,WB,reduceAdd,reduceLeDiff,Nat.reduceBEq,hh2,hh5,LG g8,LG g6,b9,c10,b13,c14,b17,c18,b21,c22,b25,c26,b29,c30,b33,hx]
                   try rfl
                  have hb':x0.Starts.length≤4611686018427387:=(by have:=(okx0.Starts).1; omega)
                  have hx:=Zfd hC M x0 x1 (by omega) hp0 okx0 okx1 hp0.length h2.length hb' (WR C.G (Za C M) C.L hp0) (Ol x0 x1) hk38 x0.Starts [] C.L hp37 rfl (by have:=hC.L; omega) (by omega) fz3621_0 fz3621_1 res hres
                  try simp only [NIL] at hx
                  simp only [VG,ZX,Qh,Yk,Y2,YR,WR,COL,WC,UA,ZL,WV,ZY,XB,YU,Qo,WB,reduceAdd,reduceLeDiff,Nat.reduceBEq,hh2,hh5,LG g8,LG g6,b9,c10,b13,c14,b17,c18,b21,c22,b25,c26,b29,c30,b33,hx]
                  try rfl
                 have hb':x0.Routines.length≤4611686018427387:=(by have:=(okx0.Routines).1; omega)
                 have hx:=Zfc hC M x0 x1 (by omega) hp0 okx0 okx1 hp0.length h2.length hb' (YR C.G (Za C M) C.L hp0) (Om x0 x1) hk37 x0.Routines [] C.L hp36 rfl (by have:=hC.L; omega) (by omega) fz3534_0 fz3534_1 res hres
                 try simp only [NIL] at hx
                 simp only [VG,ZX,Qh,Yk,Y2,YR,WR,COL,WC,UA,ZL,WV,ZY,XB,YU,Qo,WB,reduceAdd,reduceLeDiff,Nat.reduceBEq,hh2,hh5,LG g8,LG g6,b9,c10,b13,c14,b17,c18,b21,c22,b25,c26,b29,c30,b33,hx]
                 try rfl
                have hb':x0.Belts.length≤4611686018427387:=(by have:=(okx0.Belts).1; omega)
                have hx:=Zfb hC M x0 x1 (by omega) hp0 okx1 hp0.length h2.length hb' (Y2 C.G (Za C M) C.L hp0) (Oo x0 x1) hk36 x0.Belts [] C.L hp35 rfl (by have:=hC.L; omega) (by omega) fz3523_0 fz3523_1 res hres
                try simp only [NIL] at hx
                simp only [VG,ZX,Qh,Yk,Y2,YR,WR,COL,WC,UA,ZL,WV,ZY,XB,YU,Qo,WB,reduceAdd,reduceLeDiff,Nat.reduceBEq,hh2,hh5,LG g8,LG g6,b9,c10,b13,c14,b17,c18,b21,c22,b25,c26,b29,c30,b33,hx]
                try rfl
               have hb':x0.Stores.length≤4611686018427387:=(by have:=(okx0.Stores).1; omega)
               have hx:=Zfa hC M x0 x1 (by omega) hp0 okx1 hp0.length h2.length hb' (Yk C.G (Za C M) C.L hp0) (Oq x0 x1) hk35 x0.Stores [] C.L hp34 rfl (by have:=hC.L; omega) (by omega) fz3512_0 fz3512_1 res hres
               try simp only [NIL] at hx
               simp only [VG,ZX,Qh,Yk,Y2,YR,WR,COL,WC,UA,ZL,WV,ZY,XB,YU,Qo,WB,reduceAdd,reduceLeDiff,Nat.reduceBEq,hh2,hh5,LG g8,LG g6,b9,c10,b13,c14,b17,c18,b21,c22,b25,c26,b29,c30,b33,hx]
               try rfl
              have hb':x0.Resources.length≤4611686018427387:=(by have:=(okx0.Resources).1; omega)
              have hx:=ZeZ hC M x0 x1 (by omega) hp0 okx0 okx1 hp0.length h2.length hb' (ZX C.G (Za C M) C.L hp0) (Ot x0 x1) hk34 x0.Resources [] C.L h5 rfl (by have:=hC.L; omega) (by omega) g8 g6 res hres
              try simp only [NIL] at hx
              simp only [VG,ZX,Qh,Yk,Y2,YR,WR,COL,WC,UA,ZL,WV,ZY,XB,YU,Qo,WB,reduceAdd,reduceLeDiff,Nat.reduceBEq,hh2,hh5,LG g8,LG g6,b9,c10,b13,c14,b17,c18,b21,c22,b25,c26,b29,c30,b33,hx]
              try rfl
noncomputable def Iq (x1:JD)(k0T:Option Bool):List Zo→List Zo→Option Bool
 | [],q0=>k0T
 | x0 :: r0,q0=>Jp (PN x1.Sites (q0.length:Int)) fun y2=>Jp ((Xv x0 y2)) fun v3=>if (!v3)=true then some false else (Iq x1 k0T r0) (q0 ++ [x0])
theorem Zmq {C:Cfg}(hC:Sr C)(M:Nat)(x0:JD)(x1:JD)(hM:5 * SizeOf.sizeOf x0 + 4≤M)(hp0:HP)(okx0:Lp x0)(okx1:Lp x1)(g_3819_0:Nat)(g_3819_1:Nat)(hb:x0.Sites.length≤4611686018427387)(k0:AV→AV→HP→Eff→KR)(k0T:Option Bool)(hk0:∀ (hp:HP),hp0.length≤hp.length→hp[g_3819_0]? = some (.cells (Vz x0) Yo)→hp[g_3819_1]? = some (.cells (Vz x1) Yo)→∀ res,k0T=some res→k0 (.ptr g_3819_0 0) (.ptr g_3819_1 0) hp none=some ((AV.bool res),hp0,none)):∀ (r6 q6:List Zo) (m:Nat) (hp:HP),x0.Sites=q6 ++ r6→r6.length < m→hp0.length≤hp.length→hp[g_3819_0]? = some (.cells (Vz x0) Yo)→hp[g_3819_1]? = some (.cells (Vz x1) Yo)→∀ res,Iq x1 k0T r6 q6=some res→Bi C.G (Za C M) C.L hp0 k0 m (.ptr g_3819_0 0) (.ptr g_3819_1 0) (.int .i64 (q6.length:Int)) hp none=some ((AV.bool res),hp0,none)
 | _,_,0,_,_,h,_,_,_,_,_=>by omega
 | [],q6,m + 1,hp,h,hr,hh,f3819_0,f3819_1,res,hres=>by
  have l0:=lp0 h
  have lt_f3819_0:=(List.getElem?_eq_some_iff.1 f3819_0).1
  have lt_f3819_1:=(List.getElem?_eq_some_iff.1 f3819_1).1
  simp only [Iq,IFJ] at hres
  have hx:=hk0  hp (by omega) f3819_0 f3819_1 res hres
  simp only [Bi,COL,EI,PP,ZY,ZbG,reduceAdd,reduceLeDiff,Nat.reduceBEq,l0,LG f3819_0,hx]
  try rfl
 | x6 :: r6,q6,m + 1,hp,h,hr,hh,f3819_0,f3819_1,res,hres=>by
  obtain ⟨a1,-,a3,a4,a5⟩:=lp (Zk) h hb
  have me6:=a5
  have a2:(x0.Sites.map Zk)[q6.length]? = some (Zk x6):=(lp (Zk) h hb).2.1
  have okx6:=(okx0.Sites).2 _ a5
  have lt_f3819_0:=(List.getElem?_eq_some_iff.1 f3819_0).1
  have lt_f3819_1:=(List.getElem?_eq_some_iff.1 f3819_1).1
  have ix6:Y4 (.slice 13) (.lst 13 (x0.Sites.map Zk)) (.int .i64 (q6.length:Int))=some (.ref (Zk x6)):=by rw [Qu,a2]; rfl
  cases q8:PN x1.Sites (q6.length:Int) with
  | none =>
   simp only [Iq,IFJ,WT,q8] at hres; cases hres
  | some y7 =>
   have y7e:Y4 (.slice 13) (.lst 13 (x1.Sites.map Zk)) (.int .i64 (q6.length:Int))=some (.ref (Zk y7)):=MR (row := Zk) q8
   have oky7:=(okx1.Sites).2 _ (WJ q8)
   have memy7:=WJ q8
   cases q11:(Xv x6 y7) with
   | none =>
    simp only [Iq,IFJ,WT,q8,Zj,q11] at hres; cases hres
   | some v10 =>
    have c9:=fun hp:HP=>Zta hC M x6 y7 (by have:=ZjJ x0; have:=List.sizeOf_lt_of_mem me6; omega) hp okx6 oky7 q11
    rcases Bool.eq_false_or_eq_true ((!v10)) with b12 | b12
    ·simp only [Iq,IFJ,q8,Zj,q11,b12] at hres
     cases hres
     simp only [Bi,COL,EI,PP,ZY,ZbG,reduceAdd,reduceLeDiff,Nat.reduceBEq,a1,a3,LG f3819_0,ix6,LG f3819_1,y7e,c9,b12]
     try rfl
    ·simp only [Iq,IFJ,q8,Zj,q11,b12] at hres
     have hx:=Zmq hC M x0 x1 hM hp0 okx0 okx1 g_3819_0 g_3819_1 hb k0 k0T hk0 r6 (q6 ++ [x6]) m hp a4 (by simpa using hr) (by omega) f3819_0 f3819_1 res hres
     simp only [Bi,COL,EI,PP,ZY,ZbG,reduceAdd,reduceLeDiff,Nat.reduceBEq,a1,a3,LG f3819_0,ix6,LG f3819_1,y7e,c9,b12,hx]
     try rfl
noncomputable def O9 (x1:JD)(k2T:Option Bool):List EU→List EU→Option Bool
 | [],q0=>k2T
 | x0 :: r0,q0=>Jp (PN x1.Links (q0.length:Int)) fun y2=>if (!(eqv x0 y2))=true then some false else (O9 x1 k2T r0) (q0 ++ [x0])
theorem Zmr {C:Cfg}(hC:Sr C)(M:Nat)(x0:JD)(x1:JD)(hM:5 * SizeOf.sizeOf x0 + 4≤M)(hp0:HP)(okx1:Lp x1)(g_3833_0:Nat)(g_3833_1:Nat)(hb:x0.Links.length≤4611686018427387)(k2:HP→Eff→KR)(k2T:Option Bool)(hk2:∀ (hp:HP),hp0.length≤hp.length→hp[g_3833_0]? = some (.cells (Vz x0) Yo)→hp[g_3833_1]? = some (.cells (Vz x1) Yo)→∀ res,k2T=some res→k2 hp none=some ((AV.bool res),hp0,none)):∀ (r6 q6:List EU) (m:Nat) (hp:HP),x0.Links=q6 ++ r6→r6.length < m→hp0.length≤hp.length→hp[g_3833_0]? = some (.cells (Vz x0) Yo)→hp[g_3833_1]? = some (.cells (Vz x1) Yo)→∀ res,O9 x1 k2T r6 q6=some res→Bj C.G (Za C M) C.L hp0 k2 m (.ptr g_3833_0 0) (.ptr g_3833_1 0) (.int .i64 (q6.length:Int)) hp none=some ((AV.bool res),hp0,none)
 | _,_,0,_,_,h,_,_,_,_,_=>by omega
 | [],q6,m + 1,hp,h,hr,hh,f3833_0,f3833_1,res,hres=>by
  have l0:=lp0 h
  have lt_f3833_0:=(List.getElem?_eq_some_iff.1 f3833_0).1
  have lt_f3833_1:=(List.getElem?_eq_some_iff.1 f3833_1).1
  simp only [O9,IFJ] at hres
  have hx:=hk2  hp (by omega) f3833_0 f3833_1 res hres
  simp only [KA,Bj,COL,EI,PP,ZY,ZbG,reduceAdd,reduceLeDiff,Nat.reduceBEq,l0,LG f3833_0,hx]
  try rfl
 | x6 :: r6,q6,m + 1,hp,h,hr,hh,f3833_0,f3833_1,res,hres=>by
  obtain ⟨a1,-,a3,a4,a5⟩:=lp (GH) h hb
  have me6:=a5
  have a2:(x0.Links.map GH)[q6.length]? = some (GH x6):=(lp (GH) h hb).2.1
  have lt_f3833_0:=(List.getElem?_eq_some_iff.1 f3833_0).1
  have lt_f3833_1:=(List.getElem?_eq_some_iff.1 f3833_1).1
  have ix6:Y4 (.slice 3) (.lst 3 (x0.Links.map GH)) (.int .i64 (q6.length:Int))=some (.ref (GH x6)):=by rw [Qu,a2]; rfl
  cases q8:PN x1.Links (q6.length:Int) with
  | none =>
   simp only [O9,IFJ,WT,q8] at hres; cases hres
  | some y7 =>
   have y7e:Y4 (.slice 3) (.lst 3 (x1.Links.map GH)) (.int .i64 (q6.length:Int))=some (.ref (GH y7)):=MR (row := GH) q8
   have oky7:=(okx1.Links).2 _ (WJ q8)
   have memy7:=WJ q8
   rcases Bool.eq_false_or_eq_true ((!(eqv x6 y7))) with b9 | b9
   ·simp only [O9,IFJ,q8,Zj,b9] at hres
    cases hres
    simp only [KA,Bj,COL,EI,PP,ZY,ZbG,reduceAdd,reduceLeDiff,Nat.reduceBEq,a1,a3,LG f3833_0,ix6,LG f3833_1,y7e,b9]
    try rfl
   ·simp only [O9,IFJ,q8,Zj,b9] at hres
    have hx:=Zmr hC M x0 x1 hM hp0 okx1 g_3833_0 g_3833_1 hb k2 k2T hk2 r6 (q6 ++ [x6]) m hp a4 (by simpa using hr) (by omega) f3833_0 f3833_1 res hres
    simp only [KA,Bj,COL,EI,PP,ZY,ZbG,reduceAdd,reduceLeDiff,Nat.reduceBEq,a1,a3,LG f3833_0,ix6,LG f3833_1,y7e,b9,hx]
    try rfl
def PU:Option Bool :=
 some true
noncomputable def PV (x0:JD)(x1:JD):Option Bool :=
 O9 x1 (PU) x0.Links []
noncomputable def CU (x0:JD)(x1:JD):Option Bool :=
 if (decide (x0.Name≠x1.Name))=true then some false else Jp ((I7 x0.Params x1.Params)) fun v2=>if (((!v2) || (decide ((x0.Sites.length:Int)≠(x1.Sites.length:Int)))) || (decide ((x0.Links.length:Int)≠(x1.Links.length:Int))))=true then some false else Iq x1 (PV x0 x1) x0.Sites []
theorem ZzY {C:Cfg}(hC:Sr C)(N:Nat)(x0:JD)(x1:JD)(hN:5 * SizeOf.sizeOf x0 + 5≤N)(hp0:HP)(okx0:Lp x0)(okx1:Lp x1){res}(hres:CU x0 x1=some res):Za C N Zix [(.agg (Vz x0)),(.agg (Vz x1))] hp0=some ((AV.bool res),hp0,none):=by
 obtain ⟨M,rfl,hh⟩:=exM hp0 (by omega:1≤N)
 refine Zww (by rw [hC.T]; rfl) ?_
 obtain ⟨h2,hh2,g3,l4⟩:=mkH hp0 (Z5.cells (Vz x0) Yo)
 obtain ⟨h5,hh5,g6,l7⟩:=mkH h2 (Z5.cells (Vz x1) Yo)
 have g8:=keA hh5 g3
 rcases Bool.eq_false_or_eq_true ((decide (x0.Name≠x1.Name))) with b9 | b9
 ·simp only [CU,IFJ,b9] at hres
  cases hres
  simp only [Zbk,KA,O5,COL,EI,PP,ZY,ZbG,reduceAdd,reduceLeDiff,Nat.reduceBEq,hh2,hh5,LG g8,LG g6,b9]
  try rfl
 ·cases q12:(I7 x0.Params x1.Params) with
  | none =>
   simp only [CU,IFJ,WT,b9,q12] at hres; cases hres
  | some v11 =>
   have c10:=fun hp:HP=>Zgq hC M x0.Params x1.Params (by omega) hp okx0.Params okx1.Params q12
   rcases Bool.eq_false_or_eq_true ((((!v11) || (decide ((x0.Sites.length:Int)≠(x1.Sites.length:Int)))) || (decide ((x0.Links.length:Int)≠(x1.Links.length:Int))))) with b13 | b13
   ·simp only [CU,IFJ,b9,q12,Zj,b13] at hres
    cases hres
    simp only [Zbk,KA,O5,COL,EI,PP,ZY,ZbG,reduceAdd,reduceLeDiff,Nat.reduceBEq,hh2,hh5,LG g8,LG g6,b9,c10,b13]
    try rfl
   ·simp only [CU,IFJ,b9,q12,Zj,b13] at hres
    have hk14:∀ (hp14:HP),hp0.length≤hp14.length→hp14[hp0.length]? = some (.cells (Vz x0) Yo)→hp14[h2.length]? = some (.cells (Vz x1) Yo)→∀ res,PV x0 x1=some res→(KA C.G (Za C M) C.L hp0) (.ptr hp0.length 0) (.ptr h2.length 0) hp14 none=some ((AV.bool res),hp0,none):=by
     intro hp14 hh14 fz3826_0 fz3826_1 res hres
     have lt_fz3826_0:=(List.getElem?_eq_some_iff.1 fz3826_0).1
     have lt_fz3826_1:=(List.getElem?_eq_some_iff.1 fz3826_1).1
     simp only [PV,IFJ] at hres
     have hk15:∀ (hp15:HP),hp0.length≤hp15.length→hp15[hp0.length]? = some (.cells (Vz x0) Yo)→hp15[h2.length]? = some (.cells (Vz x1) Yo)→∀ res,PU=some res→(O5 C.G (Za C M) C.L hp0) hp15 none=some ((AV.bool res),hp0,none):=by
      intro hp15 hh15 fz3837_0 fz3837_1 res hres
      have lt_fz3837_0:=(List.getElem?_eq_some_iff.1 fz3837_0).1
      have lt_fz3837_1:=(List.getElem?_eq_some_iff.1 fz3837_1).1
      simp only [PU,IFJ] at hres
      cases hres
      simp only [Zbk,KA,O5,COL,EI,PP,ZY,ZbG,reduceAdd,reduceLeDiff,Nat.reduceBEq,hh2,hh5,LG g8,LG g6,b9,c10,b13]
      try rfl
     have hb':x0.Links.length≤4611686018427387:=(by have:=(okx0.Links).1; omega)
     have hx:=Zmr hC M x0 x1 (by omega) hp0 okx1 hp0.length h2.length hb' (O5 C.G (Za C M) C.L hp0) (PU) hk15 x0.Links [] C.L hp14 rfl (by have:=hC.L; omega) (by omega) fz3826_0 fz3826_1 res hres
     try simp only [NIL] at hx
     simp only [Zbk,KA,O5,COL,EI,PP,ZY,ZbG,reduceAdd,reduceLeDiff,Nat.reduceBEq,hh2,hh5,LG g8,LG g6,b9,c10,b13,hx]
     try rfl
    have hb':x0.Sites.length≤4611686018427387:=(by have:=(okx0.Sites).1; omega)
    have hx:=Zmq hC M x0 x1 (by omega) hp0 okx0 okx1 hp0.length h2.length hb' (KA C.G (Za C M) C.L hp0) (PV x0 x1) hk14 x0.Sites [] C.L h5 rfl (by have:=hC.L; omega) (by omega) g8 g6 res hres
    try simp only [NIL] at hx
    simp only [Zbk,KA,O5,COL,EI,PP,ZY,ZbG,reduceAdd,reduceLeDiff,Nat.reduceBEq,hh2,hh5,LG g8,LG g6,b9,c10,b13,hx]
    try rfl
end Go.Proofs.YtlmfmmclnboglaaGreat
end
section
namespace Go.Proofs.YtlmfmmclnboglaaGreat
open Go Go.RowKit Go.Proofs.YtlmfmmclnboglaaGreat.Abs
open Nat (reduceAdd reduceLeDiff)
set_option maxRecDepth 100000
set_option maxHeartbeats 0
theorem MS (x0 x1:List Uy):Qm x0 x1=some (eqv x0 x1):=by
 refine CJ (fun r q=>YL x1 QY r q) x0 x1 (fun q=>by simp only [YL,QY]) (fun x y r q h=>?_)
 simp only [YL,h,Zj,Ju,X9]
 try (cases eqv x y <;> rfl)
theorem Af (x0 x1:List Kq):Xe x0 x1=some (eqv x0 x1):=by
 refine CJ (fun r q=>Y8 x1 QI r q) x0 x1 (fun q=>by simp only [Y8,QI]) (fun x y r q h=>?_)
 simp only [Y8,h,Zj,Ju,X9]
 try (cases eqv x y <;> rfl)
theorem Pe (x0 x1:List Qr):Qs x0 x1=some (eqv x0 x1):=by
 refine CJ (fun r q=>Yp x1 WZ r q) x0 x1 (fun q=>by simp only [Yp,WZ]) (fun x y r q h=>?_)
 simp only [Yp,h,Zj,Ju,X9]
 try (cases eqv x y <;> rfl)
theorem N9 (x0 x1:List Xn):Q4 x0 x1=some (eqv x0 x1):=by
 refine CJ (fun r q=>Yw x1 Qp r q) x0 x1 (fun q=>by simp only [Yw,Qp]) (fun x y r q h=>?_)
 simp only [Yw,h,Zj,Ju,X9]
 try (cases eqv x y <;> rfl)
theorem F8 (x0 x1:List KD):Ql x0 x1=some (eqv x0 x1):=by
 refine CJ (fun r q=>YK x1 QX r q) x0 x1 (fun q=>by simp only [YK,QX]) (fun x y r q h=>?_)
 simp only [YK,h,Zj,Ju,X9]
 try (cases eqv x y <;> rfl)
theorem Zac (x0 x1:List PY):XF x0 x1=some (eqv x0 x1):=by
 refine CJ (fun r q=>YX x1 Xm r q) x0 x1 (fun q=>by simp only [YX,Xm]) (fun x y r q h=>?_)
 simp only [YX,h,Zj,Ju,X9]
 try (cases eqv x y <;> rfl)
theorem Zab (x0 x1:List EU):XE x0 x1=some (eqv x0 x1):=by
 refine CJ (fun r q=>YW x1 Xl r q) x0 x1 (fun q=>by simp only [YW,Xl]) (fun x y r q h=>?_)
 simp only [YW,h,Zj,Ju,X9]
 try (cases eqv x y <;> rfl)
theorem ZbH (x0 x1:List (List UInt8)):YE x0 x1=some (eqv x0 x1):=by
 refine CJ (fun r q=>WH x1 XY r q) x0 x1 (fun q=>by simp only [WH,XY]) (fun x y r q h=>?_)
 simp only [WH,h,Zj,Ju,X9]
 try (cases eqv x y <;> rfl)
theorem ZeW (x0 x1:List Int):UI x0 x1=some (eqv x0 x1):=by
 refine CJ (fun r q=>QR x1 JK r q) x0 x1 (fun q=>by simp only [QR,JK]) (fun x y r q h=>?_)
 simp only [QR,h,Zj,Ju,X9]
 try (cases eqv x y <;> rfl)
theorem ZiS (x0 x1:Zy):U0 x0 x1=some (eqv x0 x1):=by
 simp only [U0,Zj,X9,Ju,Zcd,Zqr,Af]
 cases eqv x0.Name x1.Name <;> cases eqv x0.Units x1.Units <;> cases eqv x0.Shift x1.Shift <;> cases eqv x0.Cycle x1.Cycle <;> cases eqv x0.Fault.Stream x1.Fault.Stream <;> cases eqv x0.Fault.Up x1.Fault.Up <;> cases eqv x0.Fault.Down x1.Fault.Down <;> rfl
theorem XP (x0 x1:List Zy):Zx x0 x1=some (eqv x0 x1):=by
 refine CJ (fun r q=>Ze x1 Zv r q) x0 x1 (fun q=>by simp only [Ze,Zv]) (fun x y r q h=>?_)
 simp only [Ze,h,Zj,Ju,X9,ZiS]
 try (cases eqv x y <;> rfl)
theorem ZkL (x0 x1:QJ):Jl x0 x1=some (eqv x0 x1):=by
 simp only [Jl,Zj,X9,Ju,Zqt,F8]
 cases eqv x0.Name x1.Name <;> cases eqv x0.Params x1.Params <;> cases eqv x0.Locals x1.Locals <;> cases eqv x0.Body x1.Body <;> rfl
theorem J9 (x0 x1:List QJ):ZM x0 x1=some (eqv x0 x1):=by
 refine CJ (fun r q=>Zi x1 ZJ r q) x0 x1 (fun q=>by simp only [Zi,ZJ]) (fun x y r q h=>?_)
 simp only [Zi,h,Zj,Ju,X9,ZkL]
 try (cases eqv x y <;> rfl)
theorem Znu (x0 x1:KY):Hu x0 x1=some (eqv x0 x1):=by
 simp only [Hu,Zj,X9,Ju,ZvM,ZeW]
 cases eqv x0.Routine x1.Routine <;> cases eqv x0.Args x1.Args <;> cases eqv x0.At_ x1.At_ <;> cases eqv x0.Every x1.Every <;> cases eqv x0.Until x1.Until <;> rfl
theorem UB (x0 x1:List KY):ZZ x0 x1=some (eqv x0 x1):=by
 refine CJ (fun r q=>Zl x1 ZU r q) x0 x1 (fun q=>by simp only [Zl,ZU]) (fun x y r q h=>?_)
 simp only [Zl,h,Zj,Ju,X9,Znu]
 try (cases eqv x y <;> rfl)
theorem Zrc (x0 x1:Zc1):Tc x0 x1=some (eqv x0 x1):=by
 simp only [Tc,Zj,X9,Ju,Zxn,Zac]
 cases eqv x0.Name x1.Name <;> cases eqv x0.Terms x1.Terms <;> cases eqv x0.Total x1.Total <;> rfl
theorem GG (x0 x1:List Zc1):Yy x0 x1=some (eqv x0 x1):=by
 refine CJ (fun r q=>Zn x1 Yv r q) x0 x1 (fun q=>by simp only [Zn,Yv]) (fun x y r q h=>?_)
 simp only [Zn,h,Zj,Ju,X9,Zrc]
 try (cases eqv x y <;> rfl)
theorem ZoU (x0 x1:Zo):YF x0 x1=some (eqv x0 x1):=by
 simp only [YF,Zj,X9,Ju,ZhX,MS,Pe,N9,ZbH,XP,J9,UB,GG]
 simp only [Z5A,Bool.and_assoc]
 try rfl
 try (congr 1; ac_rfl)
theorem Jv (x0 x1:List Zo):ZK x0 x1=some (eqv x0 x1):=by
 refine CJ (fun r q=>Zg x1 ZG r q) x0 x1 (fun q=>by simp only [Zg,ZG]) (fun x y r q h=>?_)
 simp only [Zg,h,Zj,Ju,X9,ZoU]
 try (cases eqv x y <;> rfl)
theorem Zws (x0 x1:JD):MX x0 x1=some (eqv x0 x1):=by
 simp only [MX,Zj,X9,Ju,Zqs,MS,Zab,Jv]
 simp only [Z5A,Bool.and_assoc]
 try rfl
 try (congr 1; ac_rfl)
theorem FT (x0 x1:List Uy):I7 x0 x1=some (eqv x0 x1):=by
 refine CJ (fun r q=>Jn x1 Ou r q) x0 x1 (fun q=>by simp only [Jn,Ou]) (fun x y r q h=>?_)
 simp only [Jn,h,Zj,Ju,X9]
 try (cases eqv x y <;> rfl)
theorem Zij (x0 x1:List (List UInt8)):Jg x0 x1=some (eqv x0 x1):=by
 refine CJ (fun r q=>JP x1 Tn r q) x0 x1 (fun q=>by simp only [JP,Tn]) (fun x y r q h=>?_)
 simp only [JP,h,Zj,Ju,X9]
 try (cases eqv x y <;> rfl)
theorem ZoV (x0 x1:List KD):I5 x0 x1=some (eqv x0 x1):=by
 refine CJ (fun r q=>Jm x1 Oi r q) x0 x1 (fun q=>by simp only [Jm,Oi]) (fun x y r q h=>?_)
 simp only [Jm,h,Zj,Ju,X9]
 try (cases eqv x y <;> rfl)
theorem ZsS (x0 x1:List Int):NT x0 x1=some (eqv x0 x1):=by
 refine CJ (fun r q=>Ux x1 Le r q) x0 x1 (fun q=>by simp only [Ux,Le]) (fun x y r q h=>?_)
 simp only [Ux,h,Zj,Ju,X9]
 try (cases eqv x y <;> rfl)
theorem Zmd (x0 x1:Zy):Gn x0 x1=some (eqv x0 x1):=by
 by_cases hl:x0.Shift.length=x1.Shift.length
 ·have l0:=hl
  have e0:=ZhW (fun r q=>V4 x1 (UZ x0 x1) r q) x0.Shift x1.Shift (UZ x0 x1) (fun q=>by simp only [V4]) (fun x y r q h=>by
   simp only [V4,h,Zj,Ju,X9]
   try (cases eqv x y <;> rfl)) l0
  simp only [Gn,ZjG,l0,Zj,decide_true,Bool.not_true,Bool.or_false,Bool.false_or]
  simp only [X9,Ju,Zcd,Zqr]
  try rw [e0]
  try simp only [UZ]
  simp only [Z5A,Z7c,Bool.not_not,Bool.not_or,Bool.and_assoc,Bool.and_true,Bool.true_and,X9]
  try rfl
  try (congr 1; ac_rfl)
 ·have hm:¬ x0.Shift.length=x1.Shift.length:=by
   by_cases m0:x0.Shift.length=x1.Shift.length
   case neg=>exact m0
   exact absurd (m0) hl
  have h:=hm
  all_goals
   have hf:eqv x0 x1=false:=by
    simp only [Zcd,Zqr,ZhY h,Bool.and_false,Bool.false_and]
   rw [hf]
   simp only [Gn,ZjG,h,decide_false,Bool.not_false,Bool.or_true,Bool.true_or,if_true,Zj,ite_self]
   try simp only [ite_self]
theorem ZuG (x0 x1:Zc1):BK x0 x1=some (eqv x0 x1):=by
 by_cases hl:x0.Terms.length=x1.Terms.length
 ·have l0:=hl
  have e0:=ZhW (fun r q=>Ko x1 (TE) r q) x0.Terms x1.Terms (TE) (fun q=>by simp only [Ko]) (fun x y r q h=>by
   simp only [Ko,h,Zj,Ju,X9]
   try (cases eqv x y <;> rfl)) l0
  simp only [BK,ZjG,l0,Zj,decide_true,Bool.not_true,Bool.or_false,Bool.false_or]
  simp only [X9,Ju,Zxn]
  try rw [e0]
  try simp only [TE]
  simp only [Z5A,Z7c,Bool.not_not,Bool.not_or,Bool.and_assoc,Bool.and_true,Bool.true_and,X9]
  try rfl
  try (congr 1; ac_rfl)
 ·have hm:¬ x0.Terms.length=x1.Terms.length:=by
   by_cases m0:x0.Terms.length=x1.Terms.length
   case neg=>exact m0
   exact absurd (m0) hl
  have h:=hm
  all_goals
   have hf:eqv x0 x1=false:=by
    simp only [Zxn,ZhY h,Bool.and_false,Bool.false_and]
   rw [hf]
   simp only [BK,ZjG,h,decide_false,Bool.not_false,Bool.or_true,Bool.true_or,if_true,Zj,ite_self]
   try simp only [ite_self]
theorem ZsR (x0 x1:Zo):Xv x0 x1=some (eqv x0 x1):=by
 by_cases hl:x0.Resources.length=x1.Resources.length∧x0.Stores.length=x1.Stores.length∧x0.Belts.length=x1.Belts.length∧x0.Routines.length=x1.Routines.length∧x0.Starts.length=x1.Starts.length∧x0.Laws.length=x1.Laws.length
 ·obtain ⟨l0,l1,l2,l3,l4,l5⟩:=hl
  have e0:=ZhW (fun r q=>JJ x1 (Ot x0 x1) r q) x0.Resources x1.Resources (Ot x0 x1) (fun q=>by simp only [JJ]) (fun x y r q h=>by
   simp only [JJ,h,Zj,Ju,X9,Zmd]
   try (cases eqv x y <;> rfl)) l0
  have e1:=ZhW (fun r q=>Uu x1 (Oq x0 x1) r q) x0.Stores x1.Stores (Oq x0 x1) (fun q=>by simp only [Uu]) (fun x y r q h=>by
   simp only [Uu,h,Zj,Ju,X9]
   try (cases eqv x y <;> rfl)) l1
  have e2:=ZhW (fun r q=>Uw x1 (Oo x0 x1) r q) x0.Belts x1.Belts (Oo x0 x1) (fun q=>by simp only [Uw]) (fun x y r q h=>by
   simp only [Uw,h,Zj,Ju,X9]
   try (cases eqv x y <;> rfl)) l2
  have e3:=ZhW (fun r q=>XX x1 (Om x0 x1) r q) x0.Routines x1.Routines (Om x0 x1) (fun q=>by simp only [XX]) (fun x y r q h=>by
   simp only [XX,h,Zj,Ju,X9,ZoV,Zqt]
   try (cases eqv x.Name y.Name <;> cases eqv x.Params y.Params <;> cases eqv x.Locals y.Locals <;> cases eqv x.Body y.Body <;> rfl)) l3
  have e4:=ZhW (fun r q=>VU x1 (Ol x0 x1) r q) x0.Starts x1.Starts (Ol x0 x1) (fun q=>by simp only [VU]) (fun x y r q h=>by
   simp only [VU,h,Zj,Ju,X9,ZsS,ZvM]
   try (cases eqv x.Routine y.Routine <;> cases eqv x.Args y.Args <;> cases eqv x.At_ y.At_ <;> cases eqv x.Every y.Every <;> cases eqv x.Until y.Until <;> rfl)) l4
  have e5:=ZhW (fun r q=>Jf x1 (Oj) r q) x0.Laws x1.Laws (Oj) (fun q=>by simp only [Jf]) (fun x y r q h=>by
   simp only [Jf,h,Zj,Ju,X9,ZuG]
   try (cases eqv x y <;> rfl)) l5
  simp only [Xv,ZjG,l0,l1,l2,l3,l4,l5,Zj,decide_true,Bool.not_true,Bool.or_false,Bool.false_or,FT,Zij]
  simp only [X9,Ju,ZhX]
  try rw [e0]
  try simp only [Ot]
  try rw [e1]
  try simp only [Oq]
  try rw [e2]
  try simp only [Oo]
  try rw [e3]
  try simp only [Om]
  try rw [e4]
  try simp only [Ol]
  try rw [e5]
  try simp only [Oj]
  simp only [Z5A,Z7c,Bool.not_not,Bool.not_or,Bool.and_assoc,Bool.and_true,Bool.true_and,X9]
  try rfl
  try (congr 1; ac_rfl)
 ·have hm:¬ x0.Resources.length=x1.Resources.length∨¬ x0.Stores.length=x1.Stores.length∨¬ x0.Belts.length=x1.Belts.length∨¬ x0.Routines.length=x1.Routines.length∨¬ x0.Starts.length=x1.Starts.length∨¬ x0.Laws.length=x1.Laws.length:=by
   by_cases m0:x0.Resources.length=x1.Resources.length
   case neg=>exact .inl m0
   by_cases m1:x0.Stores.length=x1.Stores.length
   case neg=>exact .inr (.inl m1)
   by_cases m2:x0.Belts.length=x1.Belts.length
   case neg=>exact .inr (.inr (.inl m2))
   by_cases m3:x0.Routines.length=x1.Routines.length
   case neg=>exact .inr (.inr (.inr (.inl m3)))
   by_cases m4:x0.Starts.length=x1.Starts.length
   case neg=>exact .inr (.inr (.inr (.inr (.inl m4))))
   by_cases m5:x0.Laws.length=x1.Laws.length
   case neg=>exact .inr (.inr (.inr (.inr (.inr (m5)))))
   exact absurd (⟨m0,m1,m2,m3,m4,m5⟩) hl
  rcases hm with h | h | h | h | h | h
  all_goals
   have hf:eqv x0 x1=false:=by
    simp only [ZhX,ZhY h,Bool.and_false,Bool.false_and]
   rw [hf]
   simp only [Xv,ZjG,h,decide_false,Bool.not_false,Bool.or_true,Bool.true_or,if_true,Zj,ite_self,FT,Zij]
   try simp only [ite_self]
theorem ZzK (x0 x1:JD):CU x0 x1=some (eqv x0 x1):=by
 by_cases hl:x0.Sites.length=x1.Sites.length∧x0.Links.length=x1.Links.length
 ·obtain ⟨l0,l1⟩:=hl
  have e0:=ZhW (fun r q=>Iq x1 (PV x0 x1) r q) x0.Sites x1.Sites (PV x0 x1) (fun q=>by simp only [Iq]) (fun x y r q h=>by
   simp only [Iq,h,Zj,Ju,X9,ZsR]
   try (cases eqv x y <;> rfl)) l0
  have e1:=ZhW (fun r q=>O9 x1 (PU) r q) x0.Links x1.Links (PU) (fun q=>by simp only [O9]) (fun x y r q h=>by
   simp only [O9,h,Zj,Ju,X9]
   try (cases eqv x y <;> rfl)) l1
  simp only [CU,ZjG,l0,l1,Zj,decide_true,Bool.not_true,Bool.or_false,Bool.false_or,FT]
  simp only [X9,Ju,Zqs]
  try rw [e0]
  try simp only [PV]
  try rw [e1]
  try simp only [PU]
  simp only [Z5A,Z7c,Bool.not_not,Bool.not_or,Bool.and_assoc,Bool.and_true,Bool.true_and,X9]
  try rfl
  try (congr 1; ac_rfl)
 ·have hm:¬ x0.Sites.length=x1.Sites.length∨¬ x0.Links.length=x1.Links.length:=by
   by_cases m0:x0.Sites.length=x1.Sites.length
   case neg=>exact .inl m0
   by_cases m1:x0.Links.length=x1.Links.length
   case neg=>exact .inr (m1)
   exact absurd (⟨m0,m1⟩) hl
  rcases hm with h | h
  all_goals
   have hf:eqv x0 x1=false:=by
    simp only [Zqs,ZhY h,Bool.and_false,Bool.false_and]
   rw [hf]
   simp only [CU,ZjG,h,decide_false,Bool.not_false,Bool.or_true,Bool.true_or,if_true,Zj,ite_self,FT]
   try simp only [ite_self]
end Go.Proofs.YtlmfmmclnboglaaGreat
end
section
namespace Go.Proofs.YtlmfmmclnboglaaGreat
open Go Go.RowKit Go.Proofs.YtlmfmmclnboglaaGreat.Abs
open Nat (reduceAdd reduceLeDiff)
set_option maxRecDepth 100000
def Z0e (hp:List Z5)(r:KR):Prop:=∃ b,r=some (.bool b,hp,none)
section
variable {C:Cfg}(hC:I8 C)
include hC
theorem Zyr (K:FuncId→List AV→List Z5→KR)(hp0 hp:List Z5)(k2:AV→AV→AV→List Z5→Eff→KR)(x1 x4:AV)(ls:List (List (List AV)))(hl:ls.length≤100)(hk:∀ k,Z0e hp0 (k2 x1 (.int .i64 k) x4 hp none)) :
  ∀ (r q:List (List (List AV))) (m:Nat) (k:Int),ls=q ++ r→r.length < m→Z0e hp0 (Tt C.G K C.L hp0 k2 m x1 (.int .i64 k) x4 (.lst 1 (ls.map fun l=>[.lst 1 l])) (.int .i64 q.length) hp none)
 | _,_,0,_,_,h=>by omega
 | [],q,m + 1,k,hs,_=>by
  have hlen:((ls.map fun l=>[AV.lst 1 l]).length:Int)=q.length:=by rw [hs]; simp
  obtain ⟨b,h⟩:=hk k
  exact ⟨b,by simp only [Tt,EVQ,hlen,Int.lt_irrefl,decide_false,Bool.false_eq_true,if_false,h]⟩
 | x :: r,q,m + 1,k,hs,hm=>by
  have hlen:((ls.map fun l=>[AV.lst 1 l]).length:Int)=q.length + (r.length + 1):=by rw [hs]; simp
  have hlt:(q.length:Int) < q.length + (r.length + 1):=by omega
  have hql:q.length + (r.length + 1)≤100:=by rw [hs] at hl; simpa using hl
  have hg:(ls.map fun l=>[AV.lst 1 l])[q.length]? = some [.lst 1 x]:=by rw [hs]; simp
  have l0:∀ v:AV,Qn hp (.ref [v])=some v.ro:=fun v=>rfl
  have hwr:=SE q.length (by omega)
  obtain ⟨b,ih⟩:=Zyr K hp0 hp k2 x1 x4 ls hl hk r (q ++ [x]) m (IntKind.i64.wrap (k + x.length)) (by rw [hs]; simp) (by simpa using hm)
  simp only [List.length_append,List.length_cons,List.length_nil,Nat.zero_add] at ih
  exact ⟨b,by simp only [Tt,EVQ,hlen,hlt,decide_true,if_true,Qu,hg,l0,hwr,ih]⟩
theorem Zyq (n:Nat)(hp0:List Z5)(m0:Mdl)(hm:Z2p m0)(hs:m0.sites.length≤8796093022208):∀ (r q:List Zi4) (m:Nat) (k:Int),m0.sites=q ++ r→r.length < m →
  Z0e hp0 (Un C.G (Za C (n + 1)) C.L hp0 (Rx C.G (Za C (n + 1)) C.L hp0) m (.ptr hp0.length 0) (.int .i64 k) (.int .i64 q.length) (hp0 ++ [Z5.cells (mrow m0) Yo]) none)
 | _,_,0,_,_,h=>by omega
 | [],q,m + 1,k,hq,_=>by
  have hlen:((m0.sites.map Rz).length:Int)=q.length:=by rw [hq]; simp
  have lf:Qn (hp0 ++ [Z5.cells (mrow m0) Yo]) (.ptr hp0.length (0 + 2))=some (.lst 13 (m0.sites.map Rz)):=IB (Wj _ _) 2
  exact ⟨_,by simp only [Un,Rx,EVQ,lf,hlen,Int.lt_irrefl,decide_false,Bool.false_eq_true,if_false]; rfl⟩
 | x :: r,q,m + 1,k,hq,hlm=>by
  have hlen:((m0.sites.map Rz).length:Int)=q.length + (r.length + 1):=by rw [hq]; simp
  have hlt:(q.length:Int) < q.length + (r.length + 1):=by omega
  have hql:q.length + (r.length + 1)≤8796093022208:=by rw [hq] at hs; simpa using hs
  have hg:(m0.sites.map Rz)[q.length]? = some (Rz x):=by rw [hq]; simp
  have hx:=hm.site x (by rw [hq]; simp)
  have lf:Qn (hp0 ++ [Z5.cells (mrow m0) Yo]) (.ptr hp0.length (0 + 2))=some (.lst 13 (m0.sites.map Rz)):=IB (Wj _ _) 2
  have hwr:=SE q.length (by omega)
  have hld:=Zq8 (hp0 ++ [Z5.cells (mrow m0) Yo]) 13 (Rz x) (by simp [Rz])
  have hro:((Rz x).take 13).map AV.ro=Rz x:=rfl
  have hn:=Z4L hC n (hp0 ++ [Z5.cells (mrow m0) Yo]) x hx
  have l11:∀ H,Qn H (.ref ((Rz x).drop 11))=some (.lst 5 x.starts):=fun H=>rfl
  have l12:∀ H,Qn H (.ref ((Rz x).drop 12))=some (.lst 3 x.laws):=fun H=>rfl
  have h1:=Zyr hC (Za C (n + 1)) hp0 (hp0 ++ [Z5.cells (mrow m0) Yo]) (Nk C.G (Za C (n + 1)) C.L hp0 (Rw C.G (Za C (n + 1)) C.L hp0 (Un C.G (Za C (n + 1)) C.L hp0 (Rx C.G (Za C (n + 1)) C.L hp0) m))) (.ptr hp0.length 0) (.int .i64 q.length) (Zt7 x) (by simp [Zt7,kinds]) (fun k'=>by
    obtain ⟨b,ih⟩:=Zyq n hp0 m0 hm hs r (q ++ [x]) m (IntKind.i64.wrap (k' + IntKind.i64.wrap (x.starts.length + x.laws.length))) (by rw [hq]; simp) (by simpa using hlm)
    simp only [List.length_append,List.length_cons,List.length_nil,Nat.zero_add] at ih
    exact ⟨b,by simp only [Nk,Rw,EVQ,lf,Qu,hg,l11,l12,hwr,ih]⟩) (Zt7 x) [] C.L k rfl (by have:=hC.L; simp [Zt7,kinds]; omega)
  obtain ⟨b,h1⟩:=h1
  exact ⟨b,by simp only [Un,EVQ,lf,hlen,hlt,decide_true,if_true,Qu,hg,hld,hro,hn]; exact h1⟩
theorem Z4J (n:Nat)(hp:List Z5)(m:Mdl)(hm:Z2p m):Z0e hp (Za C (n + 2) Zah [.agg (mrow m)] hp):=by
 have l1:Qn (hp ++ [Z5.cells (mrow m) Yo]) (.ptr hp.length (0 + 1))=some (.lst 3 m.params):=IB (Wj _ _) 1
 have l2:Qn (hp ++ [Z5.cells (mrow m) Yo]) (.ptr hp.length (0 + 2))=some (.lst 13 (m.sites.map Rz)):=IB (Wj _ _) 2
 have l3:Qn (hp ++ [Z5.cells (mrow m) Yo]) (.ptr hp.length (0 + 3))=some (.lst 3 m.links):=IB (Wj _ _) 3
 obtain ⟨b,h⟩:=Zyq hC n hp m hm hm.sites m.sites [] C.L 0 rfl (by have:=hC.L; have:=hm.sites; omega)
 have h0:((([]:List Zi4).length:Nat):Int)=0:=rfl
 rw [h0] at h
 by_cases c1:((m.sites.map Rz).length:Int) > 20
 ·exact ⟨false,Za7 (by rw [hC.T]; rfl) (by simp only [Ac,EVQ,Zea 4 (mrow m) rfl,l1,l2,l3,c1,decide_true,if_true,Bool.true_or])⟩
 by_cases c2:(m.params.length:Int) > 40
 ·exact ⟨false,Za7 (by rw [hC.T]; rfl) (by simp only [Ac,EVQ,Zea 4 (mrow m) rfl,l1,l2,l3,c1,c2,decide_true,decide_false,if_true,Bool.false_or,Bool.true_or])⟩
 by_cases c3:(m.links.length:Int) > 40
 ·exact ⟨false,Za7 (by rw [hC.T]; rfl) (by simp only [Ac,EVQ,Zea 4 (mrow m) rfl,l1,l2,l3,c1,c2,c3,decide_true,decide_false,if_true,Bool.false_or,Bool.true_or])⟩
 exact ⟨b,Za7 (by rw [hC.T]; rfl) (by simp only [Ac,EVQ,Zea 4 (mrow m) rfl,l1,l2,l3,c1,c2,c3,decide_false,Bool.false_eq_true,if_false,Bool.false_or]; exact h)⟩
end
end Go.Proofs.YtlmfmmclnboglaaGreat
end
section
namespace Go.Proofs.YtlmfmmclnboglaaGreat
open Go Go.RowKit Go.Proofs.YtlmfmmclnboglaaGreat.Abs
open Nat (reduceAdd reduceLeDiff)
set_option maxRecDepth 100000
theorem Zyc {C:Cfg}(hC:I8 C)(N:Nat)(hN:2≤N)(hp:HP)(m:JD)(hm:Lp m):Z0e hp (Za C N Zah [.agg (Vz m)] hp):=by
 obtain ⟨n,rfl⟩:∃ n,N=n + 2:=⟨N - 2,by omega⟩
 rw [← Zyu]; exact Z4J hC n hp (Z2m m) (Z1e hm)
end Go.Proofs.YtlmfmmclnboglaaGreat
end
section
namespace Go.Proofs.YtlmfmmclnboglaaGreat
open Go Go.RowKit Go.Proofs.YtlmfmmclnboglaaGreat.Abs
open Nat (reduceAdd reduceLeDiff)
set_option maxRecDepth 100000
set_option maxHeartbeats 0
theorem ZhO {C:Cfg}(hC:Sr C)(N:Nat)(x0:JD)(x1:JD)(hN:6 * SizeOf.sizeOf x0 + 7≤N)(hp0:HP)(okx0:Lp x0)(okx1:Lp x1):Za C N Cm [(.agg (Vz x0)),(.agg (Vz x1))] hp0=some ((AV.bool (eqv x0 x1)),hp0,none):=ZwO hC N x0 x1 hN hp0 okx0 okx1 (Zws x0 x1)
theorem Zzz {C:Cfg}(hC:Sr C)(N:Nat)(x0:JD)(x1:JD)(hN:5 * SizeOf.sizeOf x0 + 5≤N)(hp0:HP)(okx0:Lp x0)(okx1:Lp x1):Za C N Zix [(.agg (Vz x0)),(.agg (Vz x1))] hp0=some ((AV.bool (eqv x0 x1)),hp0,none):=ZzY hC N x0 x1 hN hp0 okx0 okx1 (ZzK x0 x1)
theorem Z1Y {C:Cfg}(hC:Sr C)(N:Nat)(hp:HP)(a b:JD)(hN:7 * SizeOf.sizeOf a + 7 * SizeOf.sizeOf b + SizeOf.sizeOf b + 40≤N)(oa:Lp a)(ob:Lp b):Za C (N + 1) ZaU [.agg (Vz a),.agg (Vz b)] hp=some (.bool true,hp,none):=by
 refine ZkC (by rw [hC.T]; rfl) ?_
 obtain ⟨la,hla⟩:=Zyc hC.toI8 N (by omega) (hp ++ [Z5.cells (Vz a) Yo] ++ [Z5.cells (Vz b) Yo]) a oa
 obtain ⟨lb,hlb⟩:=Zyc hC.toI8 N (by omega) (hp ++ [Z5.cells (Vz a) Yo] ++ [Z5.cells (Vz b) Yo]) b ob
 have haw:=fun hp=>hC.AW N hp (by omega)
 have q1:=fun hp=>ZhO hC N a b (by omega) hp oa ob
 have q2:=fun hp=>ZhO hC N b a (by omega) hp ob oa
 have q3:=fun hp=>ZhO hC N a a (by omega) hp oa oa
 have q4:=fun hp=>Zzz hC N a b (by omega) hp oa ob
 have k1:=fun hp=>ZlN hC.toI8 N hp a (by omega) oa
 have k2:=fun hp=>ZlN hC.toI8 N hp b (by omega) ob
 generalize Za C N=K at *
 cases la with
 | false=>simp only [DD,COe,reduceAdd,reduceLeDiff,Nat.reduceBEq,SC,hla,haw]
 | true =>
  cases lb with
  | false=>simp only [DD,COe,reduceAdd,reduceLeDiff,Nat.reduceBEq,SC,hla,hlb,haw]
  | true =>
   rw [Z2B b a] at q2
   rw [Zf7] at q3
   cases hs:eqv a b with
   | false =>
    rw [hs] at q1 q2 q4
    simp only [DD,COe,reduceAdd,reduceLeDiff,Nat.reduceBEq,SC,hla,hlb,haw,q1,q2,q3,q4,k1,k2,eqB,Zf7]
   | true =>
    rw [hs] at q1 q2 q4
    obtain rfl:=Oa.1 hs
    simp only [DD,COe,reduceAdd,reduceLeDiff,Nat.reduceBEq,SC,hla,hlb,haw,q1,q2,q3,q4,k1,k2,eqB,Zf7,decide_true]
end Go.Proofs.YtlmfmmclnboglaaGreat
end
section
namespace Go.Proofs.YtlmfmmclnboglaaGreat.Abs
open Go Go.RowKit Go.ChangeShapes Go.WideShapes Go.Deep
open Nat (reduceAdd reduceLeDiff)
def Z6T (P:Program):List Field→Nat→Nat→Bool
 | [],o,n=>o == n
 | f :: r,o,n=>(f.offset == o) && Z6T P r (o + P.cellsOf f.type) n
def Z3C {H:Type}(P:Program):Nat→TypeId→List AV→DataW H→Prop
 | 0,_,_,_=>False
 | n + 1,t,az,d=>match P.underlying t with
  | some .bool=>∃ b,az=[.bool b]∧d=.lit (.bool b)
  | some (.int k)=>∃ x,az=[.int k x]∧d=.lit (.int k x)∧(Lit.int k x).wf=true
  | some .string=>∃ s,az=[.str s]∧d=.lit (.string s)∧s.length≤140737488351232
  | some (.slice e)=>∃ rows,az=[.lst (P.cellsOf e) rows]∧rows.length≤140737488351232∧((rows=[]∧d=.nil)∨∃ D ds spare,d=.slice ds spare∧ds=(List.range rows.length).map D∧∀ (i:Nat) (r:List AV),rows[i]? = some r→Z3C P n e r (D i))
  | some (.struct fs)=>az.length=P.cellsOf t∧∃ ds,d=.agg ds∧ds.length=fs.size∧∀ (i:Nat) (f:Field),fs.toList[i]? = some f→∃ di,ds[i]? = some di∧Z3C P n f.type ((az.drop f.offset).take (P.cellsOf f.type)) di
  | _=>False
structure Shp {H:Type}(P:Program)(n:Nat)(t:TypeId)(az:List AV)(d:DataW H):Prop where
 ok:Z3C P n t az d
theorem ZyZ {n:Nat}(h:n≤reachBytes):n≤140737488351232:=h
theorem Shp.bool {H:Type}{P:Program}{n:Nat}{t:TypeId}{az:List AV}{d:DataW H}(h:Shp P (n + 1) t az d)(hu:P.underlying t=some .bool):∃ b,az=[.bool b]∧d=.lit (.bool b):=by
 have h:=h.ok; rw [Z3C,hu] at h; exact h
theorem Shp.int {H:Type}{P:Program}{n:Nat}{t:TypeId}{k:IntKind}{az:List AV}{d:DataW H}(h:Shp P (n + 1) t az d)(hu:P.underlying t=some (.int k)):∃ x,az=[.int k x]∧d=.lit (.int k x)∧k.min≤x∧x≤k.max:=by
 have h:=h.ok
 rw [Z3C,hu] at h
 obtain ⟨x,h1,h2,h3⟩:=h
 simp only [Lit.wf,Bool.and_eq_true,decide_eq_true_eq] at h3
 exact ⟨x,h1,h2,h3⟩
theorem Shp.i64 {H:Type}{P:Program}{n:Nat}{t:TypeId}{az:List AV}{d:DataW H}(h:Shp P (n + 1) t az d)(hu:P.underlying t=some (.int .i64)):∃ x,az=[.int .i64 x]∧d=.lit (.int .i64 x)∧-9223372036854775808≤x∧x≤9223372036854775807:=by
 obtain ⟨x,h1,h2,h3⟩:=h.int hu
 exact ⟨x,h1,h2,by simpa [IntKind.min,IntKind.max,IntKind.signed,IntKind.bits] using h3⟩
theorem Shp.str {H:Type}{P:Program}{n:Nat}{t:TypeId}{az:List AV}{d:DataW H}(h:Shp P (n + 1) t az d)(hu:P.underlying t=some .string):∃ s,az=[.str s]∧d=.lit (.string s)∧s.length≤140737488351232:=by
 have h:=h.ok; rw [Z3C,hu] at h; exact h
theorem Shp.slice {H:Type}{P:Program}{n:Nat}{t e:TypeId}{az:List AV}{d:DataW H}(h:Shp P (n + 1) t az d)(hu:P.underlying t=some (.slice e)):∃ rows,az=[.lst (P.cellsOf e) rows]∧rows.length≤140737488351232∧((rows=[]∧d=.nil)∨∃ D ds spare,d=.slice ds spare∧ds=(List.range rows.length).map D∧∀ (i:Nat) (r:List AV),rows[i]? = some r→Shp P n e r (D i)):=by
 have h:=h.ok
 rw [Z3C,hu] at h
 obtain ⟨rows,h1,h2,h3⟩:=h
 refine ⟨rows,h1,h2,h3.imp id ?_⟩
 rintro ⟨D,ds,spare,e1,e2,e3⟩
 exact ⟨D,ds,spare,e1,e2,fun i r hr=>⟨e3 i r hr⟩⟩
theorem Shp.struct {H:Type}{P:Program}{n:Nat}{t:TypeId}{fs:Array Field}{az:List AV}{d:DataW H}(h:Shp P (n + 1) t az d)(hu:P.underlying t=some (.struct fs)):az.length=P.cellsOf t∧∃ ds,d=.agg ds∧ds.length=fs.size∧∀ (i:Nat) (f:Field),fs.toList[i]? = some f→∃ di,ds[i]? = some di∧Shp P n f.type ((az.drop f.offset).take (P.cellsOf f.type)) di:=by
 have h:=h.ok
 rw [Z3C,hu] at h
 obtain ⟨h1,ds,h2,h3,h4⟩:=h
 exact ⟨h1,ds,h2,h3,fun i f hf=>let ⟨di,e1,e2⟩:=h4 i f hf; ⟨di,e1,⟨e2⟩⟩⟩
def ZjM (Γ:QS)(w:World)(a:AV)(v:Value):Prop:=Rep Γ w a v∧a.one=true∧a.noId1=true∧∀ k r,a≠.own k r
variable {H:Type}{enc:TypeId×Value→H}{P:Program}{w:World}{base:Nat}{sp:Nat→Bool}{held:Bool}{Γ:QS}
theorem Z2j {H:Type}{P:Program}{e:TypeId}{d:DataW H}{y:Nat}:∀ {ds:List (DataW H)},d ∈ ds→y ∈ d.weights P e→y ∈ DataW.weightsAll P e ds
 | [],h,_=>by simp at h
 | z :: ds,h,hy=>by
  rw [DataW.weightsAll,List.mem_append]
  rcases List.mem_cons.1 h with rfl | h
  ·exact .inl hy
  ·exact .inr (Z2j h hy)
theorem sized_arg {H:Type}{P:Program}{ts:List TypeId}{ds:List (DataW H)}(h:(DataW.weightsEach P ts ds).all (·≤reachBytes)=true){j:Nat}{t:TypeId}{d:DataW H}(ht:ts[j]? = some t)(hd:ds[j]? = some d):∀ y ∈ d.weights P t,y≤reachBytes:=fun y hy=>by
 have:=List.all_eq_true.1 h _ (DataW.weights_mem_each ht hd y hy)
 simpa using this
theorem arg_stays {t:TypeId}{v:Value}{d:DataW H}{ps:List MemPlace}{W W':World}(hl:laidOutB P=true)(hr:P.readableRec t=true)(hrow:t < P.types.size)(h:DataW.Trod enc P W 0 (fun _=>true) true t v d ps)(hb:Below W.heap.size W W')(hlt:∀ p ∈ ps,p.block < W.heap.size) :
  DataW.Trod enc P W' 0 (fun b=>decide (b < W.heap.size)) true t v d ps :=
 WideElems.Trod_stays hl hr hrow h (fun p hp=>hb.same (hlt p hp)) (fun p hp=>by simpa using hlt p hp)
end Go.Proofs.YtlmfmmclnboglaaGreat.Abs
end
section
namespace Go.Proofs.YtlmfmmclnboglaaGreat.Abs
open Go Go.RowKit Go.ChangeShapes Go.WideShapes Go.Deep
open Nat (reduceAdd reduceLeDiff)
def Z4Z (P:Program)(S:List TypeId):Bool :=
 S.all fun t=>match P.underlying t with
  | some .bool=>true
  | some (.int _)=>true
  | some .string=>true
  | some (.slice e)=>(decide (0 < P.cellsOf e) && decide (0 < P.bytesOf e)) && S.contains e
  | some (.struct fs)=>Z6T P fs.toList 0 (P.cellsOf t) && fs.toList.all fun f=>S.contains f.type
  | _=>false
inductive ZgD {H:Type}(P:Program):TypeId→List AV→DataW H→Prop
 | bool (t:TypeId) (b:Bool) (hu:P.underlying t=some .bool):ZgD P t [.bool b] (.lit (.bool b))
 | int (t:TypeId) (k:IntKind) (x:Int) (hu:P.underlying t=some (.int k)) (hw:(Lit.int k x).wf=true):ZgD P t [.int k x] (.lit (.int k x))
 | str (t:TypeId) (s:List UInt8) (hu:P.underlying t=some .string) (hl:s.length≤140737488351232):ZgD P t [.str s] (.lit (.string s))
 | nil (t e:TypeId) (hu:P.underlying t=some (.slice e)):ZgD P t [.lst (P.cellsOf e) []] .nil
 | slice (t e:TypeId) (rows:List (List AV)) (D:Nat→DataW H) (spare:List (DataW H)) (hu:P.underlying t=some (.slice e)) (hl:rows.length * P.bytesOf e≤140737488351232) (h:∀ (i:Nat) (r:List AV),rows[i]? = some r→ZgD P e r (D i)) :
   ZgD P t [.lst (P.cellsOf e) rows] (.slice ((List.range rows.length).map D) spare)
 | struct (t:TypeId) (fs:Array Field) (cs:List AV) (D:Nat→DataW H) (hu:P.underlying t=some (.struct fs)) (hl:cs.length=P.cellsOf t)
   (h:∀ (i:Nat) (f:Field),fs.toList[i]? = some f→ZgD P f.type ((cs.drop f.offset).take (P.cellsOf f.type)) (D i)):ZgD P t cs (.agg ((List.range fs.size).map D))
section
variable {H:Type}{P:Program}{t:TypeId}{cs:List AV}{d:DataW H}
theorem ZgD.toBool (h:ZgD P t cs d)(hu:P.underlying t=some .bool):∃ b,cs=[.bool b]∧d=.lit (.bool b):=by
 cases h <;> rename_i h2 <;> first | exact ⟨_,rfl,rfl⟩ | (simp_all; done)
theorem ZgD.toInt (h:ZgD P t cs d){k:IntKind}(hu:P.underlying t=some (.int k)):∃ x,cs=[.int k x]∧d=.lit (.int k x)∧k.min≤x∧x≤k.max:=by
 cases h with
 | int _ k' x h1 hw =>
  rw [hu] at h1; cases h1
  simp only [Lit.wf,Bool.and_eq_true,decide_eq_true_eq] at hw
  exact ⟨x,rfl,rfl,hw⟩
 | _=>simp_all
theorem ZgD.toI64 (h:ZgD P t cs d)(hu:P.underlying t=some (.int .i64)):∃ x,cs=[.int .i64 x]∧d=.lit (.int .i64 x)∧-9223372036854775808≤x∧x≤9223372036854775807:=by
 obtain ⟨x,h1,h2,h3⟩:=h.toInt hu
 exact ⟨x,h1,h2,by simpa [IntKind.min,IntKind.max,IntKind.signed,IntKind.bits] using h3⟩
theorem ZgD.toStr (h:ZgD P t cs d)(hu:P.underlying t=some .string):∃ s,cs=[.str s]∧d=.lit (.string s)∧s.length≤140737488351232:=by
 cases h with
 | str _ s h1 hl=>exact ⟨s,rfl,rfl,hl⟩
 | _=>simp_all
theorem ZgD.toSlice (h:ZgD P t cs d){e:TypeId}(hu:P.underlying t=some (.slice e)):∃ rows,cs=[.lst (P.cellsOf e) rows]∧rows.length * P.bytesOf e≤140737488351232∧∃ D:Nat→DataW H,(∀ (i:Nat) (r:List AV),rows[i]? = some r→ZgD P e r (D i))∧((rows=[]∧d=.nil)∨∃ spare,d=.slice ((List.range rows.length).map D) spare):=by
 cases h with
 | nil _ e' h1=>rw [hu] at h1; cases h1; exact ⟨[],rfl,by simp,fun _=>.nil,fun i r hr=>by simp at hr,.inl ⟨rfl,rfl⟩⟩
 | slice _ e' rows D spare h1 hl h=>rw [hu] at h1; cases h1; exact ⟨rows,rfl,hl,D,h,.inr ⟨spare,rfl⟩⟩
 | _=>simp_all
theorem ZgD.toStruct (h:ZgD P t cs d){fs:Array Field}(hu:P.underlying t=some (.struct fs)):cs.length=P.cellsOf t∧∃ D:Nat→DataW H,d=.agg ((List.range fs.size).map D)∧∀ (i:Nat) (f:Field),fs.toList[i]? = some f→ZgD P f.type ((cs.drop f.offset).take (P.cellsOf f.type)) (D i):=by
 cases h with
 | struct _ fs' _ D h1 hl h=>rw [hu] at h1; cases h1; exact ⟨hl,D,rfl,h⟩
 | _=>simp_all
end
def Of (P:Program)(t:TypeId)(cs:List AV):Prop:=∃ (H:Type) (d:DataW H),ZgD P t cs d
theorem ZgD.of {H:Type}{P:Program}{t:TypeId}{cs:List AV}{d:DataW H}(h:ZgD P t cs d):Of P t cs:=⟨H,d,h⟩
theorem Of.toBool {P:Program}{t:TypeId}{cs:List AV}(h:Of P t cs)(hu:P.underlying t=some .bool):∃ b,cs=[.bool b]:=by
 obtain ⟨H,d,h⟩:=h; obtain ⟨b,h1,_⟩:=h.toBool hu; exact ⟨b,h1⟩
theorem Of.toInt {P:Program}{t:TypeId}{cs:List AV}(h:Of P t cs){k:IntKind}(hu:P.underlying t=some (.int k)):∃ x,cs=[.int k x]∧k.min≤x∧x≤k.max:=by
 obtain ⟨H,d,h⟩:=h; obtain ⟨x,h1,_,h2⟩:=h.toInt hu; exact ⟨x,h1,h2⟩
theorem Of.toI64 {P:Program}{t:TypeId}{cs:List AV}(h:Of P t cs)(hu:P.underlying t=some (.int .i64)):∃ x,cs=[.int .i64 x]∧-9223372036854775808≤x∧x≤9223372036854775807:=by
 obtain ⟨H,d,h⟩:=h; obtain ⟨x,h1,_,h2⟩:=h.toI64 hu; exact ⟨x,h1,h2⟩
theorem Of.toStr {P:Program}{t:TypeId}{cs:List AV}(h:Of P t cs)(hu:P.underlying t=some .string):∃ s,cs=[.str s]∧s.length≤140737488351232:=by
 obtain ⟨H,d,h⟩:=h; obtain ⟨x,h1,_,h2⟩:=h.toStr hu; exact ⟨x,h1,h2⟩
theorem Of.toSlice {P:Program}{t:TypeId}{cs:List AV}(h:Of P t cs){e:TypeId}(hu:P.underlying t=some (.slice e)):∃ rows,cs=[.lst (P.cellsOf e) rows]∧rows.length * P.bytesOf e≤140737488351232∧∀ r ∈ rows,Of P e r:=by
 obtain ⟨H,d,h⟩:=h
 obtain ⟨rows,h1,h2,D,h3,_⟩:=h.toSlice hu
 exact ⟨rows,h1,h2,fun r hr=>by obtain ⟨i,hi⟩:=List.mem_iff_getElem?.1 hr; exact (h3 i r hi).of⟩
theorem Of.toStruct {P:Program}{t:TypeId}{cs:List AV}(h:Of P t cs){fs:Array Field}(hu:P.underlying t=some (.struct fs)):cs.length=P.cellsOf t∧∀ (i:Nat) (f:Field),fs.toList[i]? = some f→Of P f.type ((cs.drop f.offset).take (P.cellsOf f.type)):=by
 obtain ⟨H,d,h⟩:=h
 obtain ⟨h1,D,_,h2⟩:=h.toStruct hu
 exact ⟨h1,fun i f hf=>(h2 i f hf).of⟩
variable {H:Type}{enc:TypeId×Value→H}{P:Program}{w:World}{base:Nat}{sp:Nat→Bool}{held:Bool}{Γ:QS}
theorem Zx8 {t e:TypeId}{fuel:Nat}{cs:List Value}{x:DataW H×List MemPlace}(ht:P.underlying t=some (.slice e))(h:DataW.trod enc P w base sp held (fuel + 1) t cs=some x) :
  (cs=[.slice none 0 0]∧x=(.nil,[])) ∨
  ∃ (a:Addr) (len cap m n:Nat) (D:Nat→DataW H) (Pl:Nat→List MemPlace),n=fuel∧cs=[.slice (some a) len cap]∧base≤a.block∧len≤cap∧cap≤maxLen∧m=(if sp a.block then cap else len) ∧
   x=(.slice ((List.range len).map D) ((List.range (m - len)).map fun j=>D (len + j)),MemPlace.row a (m * P.cellsOf e) ++ (List.range m).flatMap Pl) ∧
   ∀ i,i < m→∃ cs',w.cells? base (a.add (i * P.cellsOf e)) (P.cellsOf e)=some cs'∧DataW.trod enc P w base sp held n e cs'=some (D i,Pl i):=by
 rcases DataW.trod_slice ht h with h0 | ⟨a,len,cap,elems,rest,n,hn,rfl,rfl,hb,hl,hm,hlen,hel,hsp,hns⟩
 ·exact Or.inl h0
 right
 have hrl:rest.length=(if sp a.block then cap else len) - len:=by
  cases hs:sp a.block with
  | true=>simpa [hs] using (hsp hs).1
  | false=>simp [hns hs]
 have hle:len≤(if sp a.block then cap else len):=by split <;> omega
 have hall:(elems ++ rest).length=(if sp a.block then cap else len):=by rw [List.length_append,hlen,hrl]; omega
 refine ⟨a,len,cap,_,n,fun i=>((elems ++ rest).getD i (.nil,[])).1,fun i=>((elems ++ rest).getD i (.nil,[])).2,by omega,rfl,hb,hl,hm,rfl,?_,?_⟩
 ·refine Prod.ext ?_ ?_
  ·show DataW.slice (elems.map (·.1)) (rest.map (·.1))=_
   congr 1
   ·rw [map_by_index elems (.nil,[]) (·.1),hlen]
    refine List.map_congr_left fun i hi=>?_
    have hi':i < elems.length:=by rw [hlen]; simpa using hi
    simp [List.getD,List.getElem?_append_left hi']
   ·rw [map_by_index rest (.nil,[]) (·.1),hrl]
    refine List.map_congr_left fun j _=>?_
    simp [List.getD,List.getElem?_append_right (show elems.length≤len + j by omega),hlen]
  ·show MemPlace.row a ((elems.length + rest.length) * P.cellsOf e) ++ (elems ++ rest).flatMap (·.2)=_
   rw [flatMap_by_index (elems ++ rest) (.nil,[]) (·.2),hall,← List.length_append,hall]
 ·intro i hi
  have key:(w.cells? base (a.add (i * P.cellsOf e)) (P.cellsOf e)).bind (DataW.trod enc P w base sp held n e)=(elems ++ rest)[i]?:=by
   by_cases hil:i < len
   ·rw [hel i hil,List.getElem?_append_left (by omega)]
   ·have hs:sp a.block=true:=by
     cases hs:sp a.block with
     | true=>rfl
     | false=>simp [hs] at hi; omega
    have:=(hsp hs).2 (i - len) (by simp [hs] at hi; omega)
    rw [show len + (i - len)=i by omega] at this
    rw [this,List.getElem?_append_right (by omega),hlen]
  rw [List.getElem?_eq_getElem (by omega)] at key
  obtain ⟨cs',h1,h2⟩:=Option.bind_eq_some_iff.1 key
  refine ⟨cs',h1,?_⟩
  rw [h2]
  simp [List.getD,List.getElem?_eq_getElem (show i < (elems ++ rest).length by omega)]
theorem Zqy (S:List TypeId)(fuel:Nat)(cs:List Value)
  (ih:∀ (t:TypeId) (cs:List Value) (x:DataW H×List MemPlace),S.contains t=true→DataW.trod enc P w base sp held fuel t cs=some x→(∀ y ∈ x.1.weights P t,y≤reachBytes)→∃ az:List AV,ZgD P t az x.1∧az.length=cs.length∧∀ j a,az[j]? = some a→ZjM Γ w a (cs.getD j Go.undef)) :
  ∀ (fs:List Field) (xs:List (DataW H×List MemPlace)) (o m:Nat),Z6T P fs o m=true→m=cs.length→(fs.all fun f=>S.contains f.type)=true→(∀ (i:Nat) (f:Field),fs[i]? = some f→∃ x,xs[i]? = some x∧DataW.trod enc P w base sp held fuel f.type ((cs.drop f.offset).take (P.cellsOf f.type))=some x∧∀ y ∈ x.1.weights P f.type,y≤reachBytes) →
   o≤m∧∃ az:List AV,az.length=m - o∧(∀ (i:Nat) (f:Field),fs[i]? = some f→o≤f.offset∧∃ x,xs[i]? = some x∧ZgD P f.type ((az.drop (f.offset - o)).take (P.cellsOf f.type)) x.1)∧∀ j a,az[j]? = some a→ZjM Γ w a (cs.getD (o + j) Go.undef)
 | [],xs,o,m,ht,hm,_,_=>by
  have:o=m:=by simpa [Z6T] using ht
  subst this
  exact ⟨Nat.le_refl _,[],by simp,fun i f hf=>by simp at hf,fun j a h=>by simp at h⟩
 | f :: r,xs,o,m,ht,hm,hok,hx=>by
  simp only [Z6T,Bool.and_eq_true,beq_iff_eq] at ht
  simp only [List.all_cons,Bool.and_eq_true] at hok
  obtain ⟨x,hx0,hxf,hxw⟩:=hx 0 f rfl
  obtain ⟨xs,rfl⟩:∃ xs',xs=x :: xs':=by
   cases xs with
   | nil=>simp at hx0
   | cons y ys=>simp at hx0; exact ⟨ys,by rw [hx0]⟩
  obtain ⟨hle,az,hl,hs,hr⟩:=Zqy S fuel cs ih r xs _ m ht.2 hm hok.2 (fun i g hg=>hx (i + 1) g hg)
  obtain ⟨a1,s1,l1,r1⟩:=ih _ _ _ hok.1 hxf hxw
  have hlen:((cs.drop f.offset).take (P.cellsOf f.type)).length=P.cellsOf f.type:=by
   rw [List.length_take,List.length_drop]; omega
  rw [hlen] at l1
  refine ⟨by omega,a1 ++ az,by rw [List.length_append]; omega,fun i g hg=>?_,fun j a hj=>?_⟩
  ·cases i with
   | zero =>
    simp only [List.getElem?_cons_zero,Option.some.injEq] at hg
    subst hg
    refine ⟨by omega,x,rfl,?_⟩
    rw [ht.1,Nat.sub_self,List.drop_zero,List.take_append_of_le_length (by omega),List.take_of_length_le (by omega)]
    exact s1
   | succ i =>
    simp only [List.getElem?_cons_succ] at hg
    obtain ⟨q1,q2⟩:=hs i g hg
    refine ⟨by omega,?_⟩
    rw [List.drop_append,List.drop_eq_nil_of_le (by omega),List.nil_append,l1]
    rw [show g.offset - o - P.cellsOf f.type=g.offset - (o + P.cellsOf f.type) by omega]
    simpa using q2
  ·by_cases hj2:j < a1.length
   ·rw [List.getElem?_append_left hj2] at hj
    have:=r1 j a hj
    have e:((cs.drop f.offset).take (P.cellsOf f.type)).getD j Go.undef=cs.getD (o + j) Go.undef:=by
     rw [List.getD_eq_getElem?_getD,List.getD_eq_getElem?_getD,List.getElem?_take_of_lt (by omega),List.getElem?_drop,ht.1]
    rwa [e] at this
   ·rw [List.getElem?_append_right (by omega)] at hj
    have:=hr _ a hj
    rwa [show o + P.cellsOf f.type + (j - a1.length)=o + j by omega] at this
theorem ZmC (hΓ:∀ b,Γ b=.imm){S:List TypeId}(hS:Z4Z P S=true):∀ (fuel:Nat) (t:TypeId) (cs:List Value) (x:DataW H×List MemPlace),S.contains t=true→DataW.trod enc P w base sp held fuel t cs=some x→(∀ y ∈ x.1.weights P t,y≤reachBytes) →
  ∃ az:List AV,ZgD P t az x.1∧az.length=cs.length∧∀ j a,az[j]? = some a→ZjM Γ w a (cs.getD j Go.undef)
 | 0,_,_,_,_,h,_=>by cases h
 | fuel + 1,t,cs,x,hc,h,hwt=>by
  have ho:=List.all_eq_true.1 hS t (by simpa using hc)
  cases hu:P.underlying t with
  | none=>simp [hu] at ho
  | some d =>
  have one:∀ (c:AV) (v:Value),ZjM Γ w c v→∀ j a,[c][j]? = some a→ZjM Γ w a ([v].getD j Go.undef):=fun c v hc j a hj=>by
   match j,hj with
   | 0,hj=>cases hj; exact hc
   | j + 1,hj=>simp at hj
  cases d <;> simp only [hu,Bool.false_eq_true] at ho
  case bool =>
   obtain ⟨b,rfl,rfl⟩:=DataW.trod_bool hu h
   exact ⟨[.bool b],.bool t b hu,rfl,one _ _ ⟨.bool b,rfl,rfl,fun k r e=>by cases e⟩⟩
  case int k =>
   obtain ⟨x,rfl,rfl,hw⟩:=DataW.trod_int hu h
   exact ⟨[.int k x],.int t k x hu hw,rfl,one _ _ ⟨.int k x,rfl,rfl,fun k r e=>by cases e⟩⟩
  case string =>
   obtain ⟨b,rfl,rfl,hb⟩:=DataW.trod_string hu h
   have e:b=⟨b.data.toList.toArray⟩:=by cases b; simp
   refine ⟨[.str b.data.toList],.str t _ hu (ZyZ (hwt _ (by simp [DataW.weights]))),rfl,one _ _ ⟨?_,rfl,rfl,fun k r e=>by cases e⟩⟩
   have:Rep Γ w (.str b.data.toList) (.string ⟨b.data.toList.toArray⟩):=.str _
   rwa [← e] at this
  case slice e =>
   simp only [Bool.and_eq_true,decide_eq_true_eq] at ho
   rcases Zx8 hu h with ⟨rfl,rfl⟩ | ⟨A,len,cap,m,n',D,Pl,hn',rfl,hb,hl,hm,hmm,rfl,hi⟩
   ·exact ⟨[.lst (P.cellsOf e) []],.nil t e hu,rfl,one _ _ ⟨.lstNil _,rfl,rfl,fun k r e=>by cases e⟩⟩
   ·have hlm:len≤m:=by rw [hmm]; split <;> omega
    have hwe:∀ i,i < len→∀ y ∈ (D i).weights P e,y≤reachBytes:=fun i hi y hy=>by
     refine hwt y ?_
     simp only [DataW.weights,hu]
     exact List.mem_cons_of_mem _ (List.mem_append_left _ (Z2j (List.mem_map.2 ⟨i,by simpa using hi,rfl⟩) hy))
    have hlr:len * P.bytesOf e≤140737488351232:=by
     refine ZyZ (Nat.le_trans ?_ (hwt ((((List.range len).map D).length + ((List.range (m - len)).map fun j=>D (len + j)).length) * P.bytesOf e) ?_))
     ·simp only [List.length_map,List.length_range]
      exact Nat.mul_le_mul_right _ (Nat.le_add_right _ _)
     ·simp only [DataW.weights,hu]
      exact List.mem_cons_self ..
    have hrow:∀ i,∃ r:List AV,i < len→ZgD P e r (D i)∧r.length=P.cellsOf e∧∀ j a,r[j]? = some a→w.cell? ((A.add (i * P.cellsOf e)).add j)=some ((w.cell? ((A.add (i * P.cellsOf e)).add j)).getD Go.undef)∧ZjM Γ w a ((w.cell? ((A.add (i * P.cellsOf e)).add j)).getD Go.undef):=fun i=>by
     by_cases hil:i < len
     ·obtain ⟨cs',hc,ht⟩:=hi i (by omega)
      obtain ⟨_,hlen,hcell⟩:=World.cells?_some hc
      obtain ⟨r,s1,l1,r1⟩:=ZmC hΓ hS n' e cs' _ ho.2 ht (hwe i hil)
      refine ⟨r,fun _=>⟨s1,by omega,fun j a hj=>?_⟩⟩
      have hjl:j < r.length:=(List.getElem?_eq_some_iff.1 hj).1
      have hc2:=hcell j (by omega)
      have hr:=r1 j a hj
      rw [List.getElem?_eq_getElem (by omega)] at hc2
      rw [List.getD_eq_getElem?_getD,List.getElem?_eq_getElem (by omega)] at hr
      rw [hc2]
      exact ⟨rfl,hr⟩
     ·exact ⟨[],fun h=>absurd h hil⟩
    have hf:∃ f:Nat→List AV,∀ i,i < len→ZgD P e (f i) (D i)∧(f i).length=P.cellsOf e∧∀ j a,(f i)[j]? = some a→w.cell? ((A.add (i * P.cellsOf e)).add j)=some ((w.cell? ((A.add (i * P.cellsOf e)).add j)).getD Go.undef)∧ZjM Γ w a ((w.cell? ((A.add (i * P.cellsOf e)).add j)).getD Go.undef) :=
     ⟨fun i=>(hrow i).choose,fun i=>(hrow i).choose_spec⟩
    obtain ⟨f,hf⟩:=hf
    have hget:∀ (i:Nat) (r:List AV),((List.range len).map f)[i]? = some r→i < len∧r=f i:=fun i r hr=>by
     rw [List.getElem?_map] at hr
     obtain ⟨i',hi',rfl⟩:=Option.map_eq_some_iff.1 hr
     have hlt:=(List.getElem?_eq_some_iff.1 hi').1
     rw [List.length_range] at hlt
     rw [List.getElem?_range hlt] at hi'
     obtain rfl:=Option.some.inj hi'
     exact ⟨hlt,rfl⟩
    have hlenf:((List.range len).map f).length=len:=by simp
    have hsl:=ZgD.slice (P := P) t e ((List.range len).map f) D ((List.range (m - len)).map fun j=>D (len + j)) hu (by simpa using hlr) (fun i r hr=>by obtain ⟨h1,rfl⟩:=hget i r hr; exact (hf i h1).1)
    rw [hlenf] at hsl
    refine ⟨[.lst (P.cellsOf e) ((List.range len).map f)],hsl,rfl,one _ _ ⟨?_,rfl,rfl,fun k r e=>by cases e⟩⟩
    ·by_cases hex:∃ (i j:Nat) (a:AV),i < len∧(f i)[j]? = some a
     ·obtain ⟨i0,j0,a0,hi0,hj0⟩:=hex
      have h0:∃ v,w.cell? A=some v:=by
       have hj0l:j0 < (f i0).length:=(List.getElem?_eq_some_iff.1 hj0).1
       have hpos:0 < P.cellsOf e:=by have:=(hf i0 hi0).2.1; omega
       have hz:=(hf 0 (by omega)).2.1
       have:=((hf 0 (by omega)).2.2 0 ((f 0)[0]'(by omega)) (List.getElem?_eq_getElem _)).1
       rw [Nat.zero_mul] at this
       have e1:(A.add 0).add 0=A:=by simp [Addr.add]
       rw [e1] at this
       exact ⟨_,this⟩
      have hsp:A.spot=none:=by
       obtain ⟨v,hv⟩:=h0
       unfold World.cell? at hv
       split at hv
       ·split at hv
        ·cases hv
        ·rename_i hs; simpa using hs
       ·cases hv
      obtain ⟨b,o,q⟩:=A
      simp only at hsp
      subst hsp
      have hadd:∀ i j,((⟨b,o,none⟩:Addr).add (i * P.cellsOf e)).add j=⟨b,o + (i * P.cellsOf e + j),none⟩:=fun i j=>by
       rw [Go.Deep.add_add]
       unfold Addr.add
       split
       ·rename_i h0; simp [h0]
       ·rfl
      have hll:len=((List.range len).map f).length:=by simp
      generalize hrows:(List.range len).map f=rows at *
      subst hll
      refine .lst _ rows b o cap (fun i j=>(w.cell? ⟨b,o + (i * P.cellsOf e + j),none⟩).getD Go.undef) hl (fun r hr=>?_) (fun i j r c hr hc=>?_) (fun i j r c hr hc=>?_)
      ·obtain ⟨i,hi⟩:=List.mem_iff_getElem?.1 hr
       obtain ⟨h1,rfl⟩:=hget i r hi
       exact (hf i h1).2.1
      ·obtain ⟨h1,rfl⟩:=hget i r hr
       have:=(hf i h1).2.2 j c hc
       rw [hadd] at this
       exact ⟨this.1,by show PW _ (Γ b); rw [hΓ]; trivial,this.2.2.2.1⟩
      ·obtain ⟨h1,rfl⟩:=hget i r hr
       have:=(hf i h1).2.2 j c hc
       rw [hadd] at this
       exact this.2.1
     ·have h0:len=0:=by
       rcases Nat.eq_zero_or_pos len with h0 | h0
       ·exact h0
       ·refine absurd ⟨0,0,(f 0)[0]'(by have:=(hf 0 h0).2.1; have:=ho.1.1; omega),h0,List.getElem?_eq_getElem _⟩ hex
      subst h0
      exact .lstE _ A cap
  case struct fs =>
   simp only [Bool.and_eq_true] at ho
   obtain ⟨xs,n',hn,rfl,hlen,hxl,hf⟩:=DataW.trod_struct hu h
   obtain ⟨_,az,l1,s1,r1⟩:=Zqy S n' cs (fun t cs x=>ZmC hΓ hS n' t cs x) fs.toList xs 0 _ ho.1 hlen.symm ho.2 fun i f hf'=>by
    have hi':fs[i]? = some f:=by simpa using hf'
    have:=hf i f hi'
    have hlt:i < xs.length:=by rw [hxl]; exact (Array.getElem?_eq_some_iff.1 hi').1
    rw [List.getElem?_eq_getElem hlt] at this
    refine ⟨_,List.getElem?_eq_getElem hlt,this,fun y hy=>hwt y ?_⟩
    simp only [DataW.weights,hu]
    exact DataW.weights_mem_each (j := i) (t := f.type) (d := (xs[i]'hlt).1) (by simp [hi']) (by simp [List.getElem?_eq_getElem hlt]) y hy
   have hst:=ZgD.struct (P := P) t fs az (fun i=>((xs.map (·.1))[i]?).getD .nil) hu (by omega) fun i f hf'=>by
    obtain ⟨_,x,hx,hsx⟩:=s1 i f hf'
    simpa [hx] using hsx
   have hds:(List.range fs.size).map (fun i=>((xs.map (·.1))[i]?).getD .nil)=xs.map (·.1):=by
    refine List.ext_getElem? fun i=>?_
    rw [List.getElem?_map]
    by_cases hi:i < fs.size
    ·rw [List.getElem?_range hi,Option.map_some,List.getElem?_map,List.getElem?_eq_getElem (by omega)]; rfl
    ·rw [List.getElem?_eq_none (by simpa using hi),List.getElem?_eq_none (by simp; omega)]; rfl
   rw [hds] at hst
   exact ⟨az,hst,by omega,fun j a hj=>by simpa using r1 j a hj⟩
theorem argS_struct (hΓ:∀ b,Γ b=.imm){S:List TypeId}(hS:Z4Z P S=true){r:Reach}{b0:Nat}{t:TypeId}{fs:Array Field}{v:Value}{d:DataW H}{ps:List MemPlace}(hc:S.contains t=true)(hu:P.underlying t=some (.struct fs))(hv:Value.okWide P w r b0 t v)
  (h:DataW.Trod enc P w base sp held t v d ps) (hw:∀ y ∈ d.weights P t,y≤reachBytes):∃ az,Rep Γ w (.agg az) v∧ZgD P t az d:=by
 obtain ⟨cs,rfl,hsz⟩:=okWide_struct hu hv
 obtain ⟨fuel,hf⟩:=h
 obtain ⟨az,s1,l1,r1⟩:=ZmC hΓ hS fuel t _ _ hc hf hw
 have l2:az.length=cs.size:=by rw [l1]; rfl
 refine ⟨az,.agg az cs l2.symm (fun j c hc=>(r1 j c hc).2.1) (fun j k r hc=>absurd rfl ((r1 j _ hc).2.2.2 k r)) (fun j c hc=>?_),s1⟩
 have:=(r1 j c hc).1
 have e:(Value.agg cs).cells.toList.getD j Go.undef=cs.getD j Go.undef:=by
  show cs.toList.getD j Go.undef=_
  simp [List.getD_eq_getElem?_getD,Array.getD_eq_getD_getElem?]
 rwa [e] at this
end Go.Proofs.YtlmfmmclnboglaaGreat.Abs
end
section
namespace Go.Proofs.YtlmfmmclnboglaaGreat
open Go Go.RowKit Go.Proofs.YtlmfmmclnboglaaGreat.Abs
open Nat (reduceAdd reduceLeDiff)
set_option maxRecDepth 100000
set_option maxHeartbeats 0
theorem Z3S {α:Type _}{l:List α}{n:Nat}(h:l.length=n + 1):∃ a r,l=a :: r∧r.length=n:=by
 cases l with
 | nil=>simp at h
 | cons a r=>exact ⟨a,r,rfl,by simpa using h⟩
theorem NR {P:Program}{t:TypeId}{l M:List AV}{k n:Nat}(h:Of P t ((l.drop k).take (P.cellsOf t)))(hn:P.cellsOf t=n)(hm:(l.drop k).take n=M):Of P t M:=by rw [hn,hm] at h; exact h
theorem Zz5 {α:Type _}{l:List α}{n:Nat}(h:l.length=n + 2):∃ a b r,l=a :: b :: r∧r.length=n:=by
 obtain ⟨a,r,rfl,h1⟩:=Z3S h
 obtain ⟨b,s,rfl,h2⟩:=Z3S h1
 exact ⟨a,b,s,rfl,h2⟩
theorem Zz6 {α:Type _}{l:List α}{n:Nat}(h:l.length=n + 3):∃ a b c r,l=a :: b :: c :: r∧r.length=n:=by
 obtain ⟨a,b,r,rfl,h1⟩:=Zz5 h
 obtain ⟨c,s,rfl,h2⟩:=Z3S h1
 exact ⟨a,b,c,s,rfl,h2⟩
theorem ZeS {α:Type _}{l:List α}{n:Nat}(h:l.length=n + 4):∃ a b c d r,l=a :: b :: c :: d :: r∧r.length=n:=by
 obtain ⟨a,b,r,rfl,h1⟩:=Zz5 h
 obtain ⟨c,d,s,rfl,h2⟩:=Zz5 h1
 exact ⟨a,b,c,d,s,rfl,h2⟩
theorem Z0R {cs:List AV}{w k:Nat}{rows:List (List AV)}{r:List AV}(h1:AV.lst w rows ∈ cs)(h2:r ∈ rows)(h3:SizeOf.sizeOf cs≤k + 1):SizeOf.sizeOf r≤k:=by
 have a1:=List.sizeOf_lt_of_mem h1
 have a2:=List.sizeOf_lt_of_mem h2
 have a3:SizeOf.sizeOf (AV.lst w rows)=1 + SizeOf.sizeOf w + SizeOf.sizeOf rows:=by simp
 omega
theorem IC {α:Type}{Q:List AV→Prop}{row:α→List AV}{ok:α→Prop}:∀ {rows:List (List AV)},(∀ r ∈ rows,Q r→∃ x,r=row x∧ok x)→(∀ r ∈ rows,Q r)→∃ l:List α,rows=l.map row∧∀ x ∈ l,ok x
 | [],_,_=>⟨[],rfl,fun x h=>by cases h⟩
 | r :: rs,hq,h=>by
  obtain ⟨x,h1,h2⟩:=hq r (List.mem_cons_self ..) (h r (List.mem_cons_self ..))
  obtain ⟨l,h3,h4⟩:=IC (rows := rs) (fun y hy=>hq y (List.mem_cons_of_mem _ hy)) fun y hy=>h y (List.mem_cons_of_mem _ hy)
  exact ⟨x :: l,by rw [h1,h3]; rfl,fun y hy=>by
   rcases List.mem_cons.1 hy with rfl | hy
   ·exact h2
   ·exact h4 y hy⟩
def Z5a:List TypeId:=[26,9,22,69,67,3,23,42,34,92,84,159,90,88,85,86,35,95,93,36,97,37,38,79,76,103,77,181,175,179,176,177,4,39,105,40,57,55,54,24,49]
theorem Zy0:Z4Z Tryz.prog Z5a=true:=by kernel_rfl
theorem ZwZ:Tryz.prog.bytesOf 3=8:=by kernel_rfl
theorem Zue:Tryz.prog.cellsOf 3=1:=by kernel_rfl
theorem Zp2:Tryz.prog.bytesOf 9=16:=by kernel_rfl
theorem Zlq:Tryz.prog.cellsOf 9=1:=by kernel_rfl
theorem Z2u:Tryz.prog.bytesOf 42=304:=by kernel_rfl
theorem Z0p:Tryz.prog.cellsOf 42=13:=by kernel_rfl
theorem Z2v:Tryz.prog.bytesOf 49=40:=by kernel_rfl
theorem Z0q:Tryz.prog.cellsOf 49=3:=by kernel_rfl
theorem Z2w:Tryz.prog.bytesOf 54=40:=by kernel_rfl
theorem Z0r:Tryz.prog.cellsOf 54=3:=by kernel_rfl
theorem Z2x:Tryz.prog.bytesOf 57=48:=by kernel_rfl
theorem Z0s:Tryz.prog.cellsOf 57=3:=by kernel_rfl
theorem ZxT:Tryz.prog.bytesOf 69=32:=by kernel_rfl
theorem Zv1:Tryz.prog.cellsOf 69=3:=by kernel_rfl
theorem Z2y:Tryz.prog.bytesOf 79=88:=by kernel_rfl
theorem Z0t:Tryz.prog.cellsOf 79=4:=by kernel_rfl
theorem Z2z:Tryz.prog.bytesOf 92=232:=by kernel_rfl
theorem Z0u:Tryz.prog.cellsOf 92=17:=by kernel_rfl
theorem Z20:Tryz.prog.bytesOf 95=32:=by kernel_rfl
theorem Z0v:Tryz.prog.cellsOf 95=3:=by kernel_rfl
theorem Z21:Tryz.prog.bytesOf 97=32:=by kernel_rfl
theorem Z0w:Tryz.prog.cellsOf 97=3:=by kernel_rfl
theorem Zvo:Tryz.prog.bytesOf 103=24:=by kernel_rfl
theorem Zto:Tryz.prog.cellsOf 103=2:=by kernel_rfl
theorem Z0k:Tryz.prog.bytesOf 105=64:=by kernel_rfl
theorem Zzp:Tryz.prog.cellsOf 105=5:=by kernel_rfl
theorem Z0l:Tryz.prog.bytesOf 159=16:=by kernel_rfl
theorem Zzq:Tryz.prog.cellsOf 159=2:=by kernel_rfl
theorem Zvp:Tryz.prog.bytesOf 179=56:=by kernel_rfl
theorem Ztp:Tryz.prog.cellsOf 179=4:=by kernel_rfl
theorem Zp1:Tryz.prog.bytesOf 181=312:=by kernel_rfl
theorem ZmB:Tryz.prog.cellsOf 181=21:=by kernel_rfl
theorem Z4Y {cs:List AV}(h:Of Tryz.prog 3 cs):∃ x:Int,cs=[.int .i64 x]∧(-9223372036854775808≤x∧x≤9223372036854775807):=h.toI64 Tryz.underlying3
theorem Z1k {cs:List AV}(h:Of Tryz.prog 9 cs):∃ x:List UInt8,cs=[.str x]∧x.length≤140737488351232:=h.toStr Tryz.underlying9
theorem Zyz {cs:List AV}(h:Of Tryz.prog 69 cs):∃ x,cs=X7 x∧ZcD x:=by
 obtain ⟨hl,hf⟩:=h.toStruct Tryz.underlying69
 rw [show Tryz.prog.cellsOf 69=3 from by kernel_rfl] at hl
 obtain ⟨c0,c1,c2,r0,rfl,hl0⟩:=Zz6 hl
 obtain rfl:=List.eq_nil_of_length_eq_zero hl0
 have f0:Of Tryz.prog 9 [c0]:=NR (hf 0 _ rfl) (n := 1) (by kernel_rfl) rfl
 obtain ⟨v0,q0,b0⟩:=f0.toStr Tryz.underlying9
 have f1:Of Tryz.prog 67 [c1]:=NR (hf 1 _ rfl) (n := 1) (by kernel_rfl) rfl
 obtain ⟨v1,q1,b1⟩:=f1.toI64 Tryz.underlying67
 have f2:Of Tryz.prog 3 [c2]:=NR (hf 2 _ rfl) (n := 1) (by kernel_rfl) rfl
 obtain ⟨v2,q2,b2⟩:=f2.toI64 Tryz.underlying3
 refine ⟨⟨v0,v1,v2⟩,?_,⟨b0,b1,b2⟩⟩
 have hc:([c0,c1,c2]:List AV)=[c0] ++ [c1] ++ [c2]:=rfl
 rw [hc]
 rw [q0,q1,q2]
 rfl
theorem Z1j {cs:List AV}(h:Of Tryz.prog 159 cs):∃ x,cs=Vg x∧ZkP x:=by
 obtain ⟨hl,hf⟩:=h.toStruct Tryz.underlying159
 rw [show Tryz.prog.cellsOf 159=2 from by kernel_rfl] at hl
 obtain ⟨c0,c1,r0,rfl,hl0⟩:=Zz5 hl
 obtain rfl:=List.eq_nil_of_length_eq_zero hl0
 have f0:Of Tryz.prog 3 [c0]:=NR (hf 0 _ rfl) (n := 1) (by kernel_rfl) rfl
 obtain ⟨v0,q0,b0⟩:=f0.toI64 Tryz.underlying3
 have f1:Of Tryz.prog 3 [c1]:=NR (hf 1 _ rfl) (n := 1) (by kernel_rfl) rfl
 obtain ⟨v1,q1,b1⟩:=f1.toI64 Tryz.underlying3
 refine ⟨⟨v0,v1⟩,?_,⟨b0,b1⟩⟩
 have hc:([c0,c1]:List AV)=[c0] ++ [c1]:=rfl
 rw [hc]
 rw [q0,q1]
 rfl
theorem Zx0 {cs:List AV}(h:Of Tryz.prog 88 cs):∃ x,cs=H8 x∧Ar x:=by
 obtain ⟨hl,hf⟩:=h.toStruct Tryz.underlying88
 rw [show Tryz.prog.cellsOf 88=6 from by kernel_rfl] at hl
 obtain ⟨c0,c1,c2,c3,r0,rfl,hl0⟩:=ZeS hl
 obtain ⟨c4,c5,r4,rfl,hl4⟩:=Zz5 hl0
 obtain rfl:=List.eq_nil_of_length_eq_zero hl4
 have f0:Of Tryz.prog 85 [c0]:=NR (hf 0 _ rfl) (n := 1) (by kernel_rfl) rfl
 obtain ⟨v0,q0,b0⟩:=f0.toI64 Tryz.underlying85
 have f1:Of Tryz.prog 3 [c1]:=NR (hf 1 _ rfl) (n := 1) (by kernel_rfl) rfl
 obtain ⟨v1,q1,b1⟩:=f1.toI64 Tryz.underlying3
 have f2:Of Tryz.prog 3 [c2]:=NR (hf 2 _ rfl) (n := 1) (by kernel_rfl) rfl
 obtain ⟨v2,q2,b2⟩:=f2.toI64 Tryz.underlying3
 have f3:Of Tryz.prog 3 [c3]:=NR (hf 3 _ rfl) (n := 1) (by kernel_rfl) rfl
 obtain ⟨v3,q3,b3⟩:=f3.toI64 Tryz.underlying3
 have f4:Of Tryz.prog 86 [c4]:=NR (hf 4 _ rfl) (n := 1) (by kernel_rfl) rfl
 obtain ⟨w4,q4,b4,m4⟩:=f4.toSlice Tryz.underlying86
 rw [Zue] at q4
 rw [ZwZ] at b4
 obtain ⟨v4,e4,n4⟩:=IC (row := (fun x=>[.int .i64 x])) (fun r hr hq=>Z4Y hq) m4
 replace b4:v4.length * 8≤140737488351232:=by rw [e4,List.length_map] at b4; exact b4
 have f5:Of Tryz.prog 86 [c5]:=NR (hf 5 _ rfl) (n := 1) (by kernel_rfl) rfl
 obtain ⟨w5,q5,b5,m5⟩:=f5.toSlice Tryz.underlying86
 rw [Zue] at q5
 rw [ZwZ] at b5
 obtain ⟨v5,e5,n5⟩:=IC (row := (fun x=>[.int .i64 x])) (fun r hr hq=>Z4Y hq) m5
 replace b5:v5.length * 8≤140737488351232:=by rw [e5,List.length_map] at b5; exact b5
 refine ⟨⟨v0,v1,v2,v3,v4,v5⟩,?_,⟨b0,b1,b2,b3,⟨b4,n4⟩,⟨b5,n5⟩⟩⟩
 have hc:([c0,c1,c2,c3,c4,c5]:List AV)=[c0] ++ [c1] ++ [c2] ++ [c3] ++ [c4] ++ [c5]:=rfl
 rw [hc]
 rw [q0,q1,q2,q3,q4,q5]
 rw [e4,e5]
 rfl
theorem Z2V {cs:List AV}(h:Of Tryz.prog 90 cs):∃ x,cs=SB x∧ZwV x:=by
 obtain ⟨hl,hf⟩:=h.toStruct Tryz.underlying90
 rw [show Tryz.prog.cellsOf 90=13 from by kernel_rfl] at hl
 obtain ⟨c0,c1,c2,c3,r0,rfl,hl0⟩:=ZeS hl
 obtain ⟨c4,c5,c6,c7,r4,rfl,hl4⟩:=ZeS hl0
 obtain ⟨c8,c9,c10,c11,r8,rfl,hl8⟩:=ZeS hl4
 obtain ⟨c12,r12,rfl,hl12⟩:=Z3S hl8
 obtain rfl:=List.eq_nil_of_length_eq_zero hl12
 have f0:Of Tryz.prog 9 [c0]:=NR (hf 0 _ rfl) (n := 1) (by kernel_rfl) rfl
 obtain ⟨v0,q0,b0⟩:=f0.toStr Tryz.underlying9
 have f1:Of Tryz.prog 88 [c1,c2,c3,c4,c5,c6]:=NR (hf 1 _ rfl) (n := 6) (by kernel_rfl) rfl
 obtain ⟨v1,q1,b1⟩:=Zx0 f1
 have f2:Of Tryz.prog 88 [c7,c8,c9,c10,c11,c12]:=NR (hf 2 _ rfl) (n := 6) (by kernel_rfl) rfl
 obtain ⟨v2,q2,b2⟩:=Zx0 f2
 refine ⟨⟨v0,v1,v2⟩,?_,⟨b0,b1,b2⟩⟩
 have hc:([c0,c1,c2,c3,c4,c5,c6,c7,c8,c9,c10,c11,c12]:List AV)=[c0] ++ [c1,c2,c3,c4,c5,c6] ++ [c7,c8,c9,c10,c11,c12]:=rfl
 rw [hc]
 rw [q0,q1,q2]
 unfold SB; simp only [List.append_assoc,List.cons_append,List.nil_append]
theorem ZqN {cs:List AV}(h:Of Tryz.prog 92 cs):∃ x,cs=Zh x∧VF x:=by
 obtain ⟨hl,hf⟩:=h.toStruct Tryz.underlying92
 rw [show Tryz.prog.cellsOf 92=17 from by kernel_rfl] at hl
 obtain ⟨c0,c1,c2,c3,r0,rfl,hl0⟩:=ZeS hl
 obtain ⟨c4,c5,c6,c7,r4,rfl,hl4⟩:=ZeS hl0
 obtain ⟨c8,c9,c10,c11,r8,rfl,hl8⟩:=ZeS hl4
 obtain ⟨c12,c13,c14,c15,r12,rfl,hl12⟩:=ZeS hl8
 obtain ⟨c16,r16,rfl,hl16⟩:=Z3S hl12
 obtain rfl:=List.eq_nil_of_length_eq_zero hl16
 have f0:Of Tryz.prog 9 [c0]:=NR (hf 0 _ rfl) (n := 1) (by kernel_rfl) rfl
 obtain ⟨v0,q0,b0⟩:=f0.toStr Tryz.underlying9
 have f1:Of Tryz.prog 3 [c1]:=NR (hf 1 _ rfl) (n := 1) (by kernel_rfl) rfl
 obtain ⟨v1,q1,b1⟩:=f1.toI64 Tryz.underlying3
 have f2:Of Tryz.prog 84 [c2]:=NR (hf 2 _ rfl) (n := 1) (by kernel_rfl) rfl
 obtain ⟨w2,q2,b2,m2⟩:=f2.toSlice Tryz.underlying84
 rw [Zzq] at q2
 rw [Z0l] at b2
 obtain ⟨v2,e2,n2⟩:=IC (row := Vg) (fun r hr hq=>Z1j hq) m2
 replace b2:v2.length * 16≤140737488351232:=by rw [e2,List.length_map] at b2; exact b2
 have f3:Of Tryz.prog 3 [c3]:=NR (hf 3 _ rfl) (n := 1) (by kernel_rfl) rfl
 obtain ⟨v3,q3,b3⟩:=f3.toI64 Tryz.underlying3
 have f4:Of Tryz.prog 90 [c4,c5,c6,c7,c8,c9,c10,c11,c12,c13,c14,c15,c16]:=NR (hf 4 _ rfl) (n := 13) (by kernel_rfl) rfl
 obtain ⟨v4,q4,b4⟩:=Z2V f4
 refine ⟨⟨v0,v1,v2,v3,v4⟩,?_,⟨b0,b1,⟨b2,n2⟩,b3,b4⟩⟩
 have hc:([c0,c1,c2,c3,c4,c5,c6,c7,c8,c9,c10,c11,c12,c13,c14,c15,c16]:List AV)=[c0] ++ [c1] ++ [c2] ++ [c3] ++ [c4,c5,c6,c7,c8,c9,c10,c11,c12,c13,c14,c15,c16]:=rfl
 rw [hc]
 rw [q0,q1,q2,q3,q4]
 rw [e2]
 unfold Zh; simp only [List.append_assoc,List.cons_append,List.nil_append]
theorem Zwf {cs:List AV}(h:Of Tryz.prog 95 cs):∃ x,cs=Yt x∧ZaV x:=by
 obtain ⟨hl,hf⟩:=h.toStruct Tryz.underlying95
 rw [show Tryz.prog.cellsOf 95=3 from by kernel_rfl] at hl
 obtain ⟨c0,c1,c2,r0,rfl,hl0⟩:=Zz6 hl
 obtain rfl:=List.eq_nil_of_length_eq_zero hl0
 have f0:Of Tryz.prog 9 [c0]:=NR (hf 0 _ rfl) (n := 1) (by kernel_rfl) rfl
 obtain ⟨v0,q0,b0⟩:=f0.toStr Tryz.underlying9
 have f1:Of Tryz.prog 3 [c1]:=NR (hf 1 _ rfl) (n := 1) (by kernel_rfl) rfl
 obtain ⟨v1,q1,b1⟩:=f1.toI64 Tryz.underlying3
 have f2:Of Tryz.prog 93 [c2]:=NR (hf 2 _ rfl) (n := 1) (by kernel_rfl) rfl
 obtain ⟨v2,q2,b2⟩:=f2.toI64 Tryz.underlying93
 refine ⟨⟨v0,v1,v2⟩,?_,⟨b0,b1,b2⟩⟩
 have hc:([c0,c1,c2]:List AV)=[c0] ++ [c1] ++ [c2]:=rfl
 rw [hc]
 rw [q0,q1,q2]
 rfl
theorem Zxz {cs:List AV}(h:Of Tryz.prog 97 cs):∃ x,cs=YQ x∧Zc2 x:=by
 obtain ⟨hl,hf⟩:=h.toStruct Tryz.underlying97
 rw [show Tryz.prog.cellsOf 97=3 from by kernel_rfl] at hl
 obtain ⟨c0,c1,c2,r0,rfl,hl0⟩:=Zz6 hl
 obtain rfl:=List.eq_nil_of_length_eq_zero hl0
 have f0:Of Tryz.prog 9 [c0]:=NR (hf 0 _ rfl) (n := 1) (by kernel_rfl) rfl
 obtain ⟨v0,q0,b0⟩:=f0.toStr Tryz.underlying9
 have f1:Of Tryz.prog 3 [c1]:=NR (hf 1 _ rfl) (n := 1) (by kernel_rfl) rfl
 obtain ⟨v1,q1,b1⟩:=f1.toI64 Tryz.underlying3
 have f2:Of Tryz.prog 3 [c2]:=NR (hf 2 _ rfl) (n := 1) (by kernel_rfl) rfl
 obtain ⟨v2,q2,b2⟩:=f2.toI64 Tryz.underlying3
 refine ⟨⟨v0,v1,v2⟩,?_,⟨b0,b1,b2⟩⟩
 have hc:([c0,c1,c2]:List AV)=[c0] ++ [c1] ++ [c2]:=rfl
 rw [hc]
 rw [q0,q1,q2]
 rfl
theorem Zyx {cs:List AV}(h:Of Tryz.prog 103 cs):∃ x,cs=Vh x∧ZdY x:=by
 obtain ⟨hl,hf⟩:=h.toStruct Tryz.underlying103
 rw [show Tryz.prog.cellsOf 103=2 from by kernel_rfl] at hl
 obtain ⟨c0,c1,r0,rfl,hl0⟩:=Zz5 hl
 obtain rfl:=List.eq_nil_of_length_eq_zero hl0
 have f0:Of Tryz.prog 9 [c0]:=NR (hf 0 _ rfl) (n := 1) (by kernel_rfl) rfl
 obtain ⟨v0,q0,b0⟩:=f0.toStr Tryz.underlying9
 have f1:Of Tryz.prog 67 [c1]:=NR (hf 1 _ rfl) (n := 1) (by kernel_rfl) rfl
 obtain ⟨v1,q1,b1⟩:=f1.toI64 Tryz.underlying67
 refine ⟨⟨v0,v1⟩,?_,⟨b0,b1⟩⟩
 have hc:([c0,c1]:List AV)=[c0] ++ [c1]:=rfl
 rw [hc]
 rw [q0,q1]
 rfl
theorem Zu4:∀ (k:Nat) {cs:List AV},SizeOf.sizeOf cs≤k→Of Tryz.prog 179 cs→∃ x,cs=W9 x∧JE x
 | 0,cs,hk,h=>by
  obtain ⟨hl,_⟩:=h.toStruct Tryz.underlying179
  rw [show Tryz.prog.cellsOf 179=4 from by kernel_rfl] at hl
  cases cs with
  | nil=>simp at hl
  | cons a r=>simp at hk
 | k + 1,cs,hk,h=>by
  obtain ⟨hl,hf⟩:=h.toStruct Tryz.underlying179
  rw [show Tryz.prog.cellsOf 179=4 from by kernel_rfl] at hl
  obtain ⟨c0,c1,c2,c3,r0,rfl,hl0⟩:=ZeS hl
  obtain rfl:=List.eq_nil_of_length_eq_zero hl0
  have f0:Of Tryz.prog 176 [c0]:=NR (hf 0 _ rfl) (n := 1) (by kernel_rfl) rfl
  obtain ⟨v0,q0,b0⟩:=f0.toI64 Tryz.underlying176
  have f1:Of Tryz.prog 9 [c1]:=NR (hf 1 _ rfl) (n := 1) (by kernel_rfl) rfl
  obtain ⟨v1,q1,b1⟩:=f1.toStr Tryz.underlying9
  have f2:Of Tryz.prog 3 [c2]:=NR (hf 2 _ rfl) (n := 1) (by kernel_rfl) rfl
  obtain ⟨v2,q2,b2⟩:=f2.toI64 Tryz.underlying3
  have f3:Of Tryz.prog 177 [c3]:=NR (hf 3 _ rfl) (n := 1) (by kernel_rfl) rfl
  obtain ⟨w3,q3,b3,m3⟩:=f3.toSlice Tryz.underlying177
  rw [Ztp] at q3
  rw [Zvp] at b3
  obtain ⟨v3,e3,n3⟩:=IC (row := W9) (ok := JE) (fun r hr hq=>Zu4 k (Z0R (w := 4) (rows := w3) (by simp [(List.cons.inj q3).1]) hr hk) hq) m3
  replace b3:v3.length * 56≤140737488351232:=by rw [e3,List.length_map] at b3; exact b3
  refine ⟨⟨v0,v1,v2,v3⟩,?_,⟨_,b0,b1,b2,b3,n3⟩⟩
  have hc:([c0,c1,c2,c3]:List AV)=[c0] ++ [c1] ++ [c2] ++ [c3]:=rfl
  rw [hc]
  rw [q0,q1,q2,q3]
  rw [e3]
  rw [VL]; rfl
theorem Zx2:∀ (k:Nat) {cs:List AV},SizeOf.sizeOf cs≤k→Of Tryz.prog 181 cs→∃ x,cs=WE x∧XJ x
 | 0,cs,hk,h=>by
  obtain ⟨hl,_⟩:=h.toStruct Tryz.underlying181
  rw [show Tryz.prog.cellsOf 181=21 from by kernel_rfl] at hl
  cases cs with
  | nil=>simp at hl
  | cons a r=>simp at hk
 | k + 1,cs,hk,h=>by
  obtain ⟨hl,hf⟩:=h.toStruct Tryz.underlying181
  rw [show Tryz.prog.cellsOf 181=21 from by kernel_rfl] at hl
  obtain ⟨c0,c1,c2,c3,r0,rfl,hl0⟩:=ZeS hl
  obtain ⟨c4,c5,c6,c7,r4,rfl,hl4⟩:=ZeS hl0
  obtain ⟨c8,c9,c10,c11,r8,rfl,hl8⟩:=ZeS hl4
  obtain ⟨c12,c13,c14,c15,r12,rfl,hl12⟩:=ZeS hl8
  obtain ⟨c16,c17,c18,c19,r16,rfl,hl16⟩:=ZeS hl12
  obtain ⟨c20,r20,rfl,hl20⟩:=Z3S hl16
  obtain rfl:=List.eq_nil_of_length_eq_zero hl20
  have f0:Of Tryz.prog 175 [c0]:=NR (hf 0 _ rfl) (n := 1) (by kernel_rfl) rfl
  obtain ⟨v0,q0,b0⟩:=f0.toI64 Tryz.underlying175
  have f1:Of Tryz.prog 9 [c1]:=NR (hf 1 _ rfl) (n := 1) (by kernel_rfl) rfl
  obtain ⟨v1,q1,b1⟩:=f1.toStr Tryz.underlying9
  have f2:Of Tryz.prog 9 [c2]:=NR (hf 2 _ rfl) (n := 1) (by kernel_rfl) rfl
  obtain ⟨v2,q2,b2⟩:=f2.toStr Tryz.underlying9
  have f3:Of Tryz.prog 179 [c3,c4,c5,c6]:=NR (hf 3 _ rfl) (n := 4) (by kernel_rfl) rfl
  obtain ⟨v3,q3,b3⟩:=Zu4 _ (Nat.le_refl _) f3
  have f4:Of Tryz.prog 179 [c7,c8,c9,c10]:=NR (hf 4 _ rfl) (n := 4) (by kernel_rfl) rfl
  obtain ⟨v4,q4,b4⟩:=Zu4 _ (Nat.le_refl _) f4
  have f5:Of Tryz.prog 177 [c11]:=NR (hf 5 _ rfl) (n := 1) (by kernel_rfl) rfl
  obtain ⟨w5,q5,b5,m5⟩:=f5.toSlice Tryz.underlying177
  rw [Ztp] at q5
  rw [Zvp] at b5
  obtain ⟨v5,e5,n5⟩:=IC (row := W9) (ok := JE) (fun r hr hq=>Zu4 _ (Nat.le_refl _) hq) m5
  replace b5:v5.length * 56≤140737488351232:=by rw [e5,List.length_map] at b5; exact b5
  have f6:Of Tryz.prog 88 [c12,c13,c14,c15,c16,c17]:=NR (hf 6 _ rfl) (n := 6) (by kernel_rfl) rfl
  obtain ⟨v6,q6,b6⟩:=Zx0 f6
  have f7:Of Tryz.prog 4 [c18]:=NR (hf 7 _ rfl) (n := 1) (by kernel_rfl) rfl
  obtain ⟨v7,q7⟩:=f7.toBool Tryz.underlying4
  have b7:True:=trivial
  have f8:Of Tryz.prog 77 [c19]:=NR (hf 8 _ rfl) (n := 1) (by kernel_rfl) rfl
  obtain ⟨w8,q8,b8,m8⟩:=f8.toSlice Tryz.underlying77
  rw [ZmB] at q8
  rw [Zp1] at b8
  obtain ⟨v8,e8,n8⟩:=IC (row := WE) (ok := XJ) (fun r hr hq=>Zx2 k (Z0R (w := 21) (rows := w8) (by simp [(List.cons.inj q8).1]) hr hk) hq) m8
  replace b8:v8.length * 312≤140737488351232:=by rw [e8,List.length_map] at b8; exact b8
  have f9:Of Tryz.prog 77 [c20]:=NR (hf 9 _ rfl) (n := 1) (by kernel_rfl) rfl
  obtain ⟨w9,q9,b9,m9⟩:=f9.toSlice Tryz.underlying77
  rw [ZmB] at q9
  rw [Zp1] at b9
  obtain ⟨v9,e9,n9⟩:=IC (row := WE) (ok := XJ) (fun r hr hq=>Zx2 k (Z0R (w := 21) (rows := w9) (by simp [(List.cons.inj q9).1]) hr hk) hq) m9
  replace b9:v9.length * 312≤140737488351232:=by rw [e9,List.length_map] at b9; exact b9
  refine ⟨⟨v0,v1,v2,v3,v4,v5,v6,v7,v8,v9⟩,?_,⟨_,b0,b1,b2,b3,b4,b5,n5,b6,b7,b8,n8,b9,n9⟩⟩
  have hc:([c0,c1,c2,c3,c4,c5,c6,c7,c8,c9,c10,c11,c12,c13,c14,c15,c16,c17,c18,c19,c20]:List AV)=[c0] ++ [c1] ++ [c2] ++ [c3,c4,c5,c6] ++ [c7,c8,c9,c10] ++ [c11] ++ [c12,c13,c14,c15,c16,c17] ++ [c18] ++ [c19] ++ [c20]:=rfl
  rw [hc]
  rw [q0,q1,q2,q3,q4,q5,q6,q7,q8,q9]
  rw [e5,e8,e9]
  rw [Vf]; simp only [List.append_assoc,List.cons_append,List.nil_append]
theorem ZzD {cs:List AV}(h:Of Tryz.prog 79 cs):∃ x,cs=Y3 x∧PX x:=by
 obtain ⟨hl,hf⟩:=h.toStruct Tryz.underlying79
 rw [show Tryz.prog.cellsOf 79=4 from by kernel_rfl] at hl
 obtain ⟨c0,c1,c2,c3,r0,rfl,hl0⟩:=ZeS hl
 obtain rfl:=List.eq_nil_of_length_eq_zero hl0
 have f0:Of Tryz.prog 9 [c0]:=NR (hf 0 _ rfl) (n := 1) (by kernel_rfl) rfl
 obtain ⟨v0,q0,b0⟩:=f0.toStr Tryz.underlying9
 have f1:Of Tryz.prog 76 [c1]:=NR (hf 1 _ rfl) (n := 1) (by kernel_rfl) rfl
 obtain ⟨w1,q1,b1,m1⟩:=f1.toSlice Tryz.underlying76
 rw [Zto] at q1
 rw [Zvo] at b1
 obtain ⟨v1,e1,n1⟩:=IC (row := Vh) (fun r hr hq=>Zyx hq) m1
 replace b1:v1.length * 24≤140737488351232:=by rw [e1,List.length_map] at b1; exact b1
 have f2:Of Tryz.prog 76 [c2]:=NR (hf 2 _ rfl) (n := 1) (by kernel_rfl) rfl
 obtain ⟨w2,q2,b2,m2⟩:=f2.toSlice Tryz.underlying76
 rw [Zto] at q2
 rw [Zvo] at b2
 obtain ⟨v2,e2,n2⟩:=IC (row := Vh) (fun r hr hq=>Zyx hq) m2
 replace b2:v2.length * 24≤140737488351232:=by rw [e2,List.length_map] at b2; exact b2
 have f3:Of Tryz.prog 77 [c3]:=NR (hf 3 _ rfl) (n := 1) (by kernel_rfl) rfl
 obtain ⟨w3,q3,b3,m3⟩:=f3.toSlice Tryz.underlying77
 rw [ZmB] at q3
 rw [Zp1] at b3
 obtain ⟨v3,e3,n3⟩:=IC (row := WE) (ok := XJ) (fun r hr hq=>Zx2 _ (Nat.le_refl _) hq) m3
 replace b3:v3.length * 312≤140737488351232:=by rw [e3,List.length_map] at b3; exact b3
 refine ⟨⟨v0,v1,v2,v3⟩,?_,⟨b0,⟨b1,n1⟩,⟨b2,n2⟩,⟨b3,n3⟩⟩⟩
 have hc:([c0,c1,c2,c3]:List AV)=[c0] ++ [c1] ++ [c2] ++ [c3]:=rfl
 rw [hc]
 rw [q0,q1,q2,q3]
 rw [e1,e2,e3]
 rfl
theorem Z2W {cs:List AV}(h:Of Tryz.prog 105 cs):∃ x,cs=Xq x∧Zak x:=by
 obtain ⟨hl,hf⟩:=h.toStruct Tryz.underlying105
 rw [show Tryz.prog.cellsOf 105=5 from by kernel_rfl] at hl
 obtain ⟨c0,c1,c2,c3,r0,rfl,hl0⟩:=ZeS hl
 obtain ⟨c4,r4,rfl,hl4⟩:=Z3S hl0
 obtain rfl:=List.eq_nil_of_length_eq_zero hl4
 have f0:Of Tryz.prog 9 [c0]:=NR (hf 0 _ rfl) (n := 1) (by kernel_rfl) rfl
 obtain ⟨v0,q0,b0⟩:=f0.toStr Tryz.underlying9
 have f1:Of Tryz.prog 86 [c1]:=NR (hf 1 _ rfl) (n := 1) (by kernel_rfl) rfl
 obtain ⟨w1,q1,b1,m1⟩:=f1.toSlice Tryz.underlying86
 rw [Zue] at q1
 rw [ZwZ] at b1
 obtain ⟨v1,e1,n1⟩:=IC (row := (fun x=>[.int .i64 x])) (fun r hr hq=>Z4Y hq) m1
 replace b1:v1.length * 8≤140737488351232:=by rw [e1,List.length_map] at b1; exact b1
 have f2:Of Tryz.prog 3 [c2]:=NR (hf 2 _ rfl) (n := 1) (by kernel_rfl) rfl
 obtain ⟨v2,q2,b2⟩:=f2.toI64 Tryz.underlying3
 have f3:Of Tryz.prog 3 [c3]:=NR (hf 3 _ rfl) (n := 1) (by kernel_rfl) rfl
 obtain ⟨v3,q3,b3⟩:=f3.toI64 Tryz.underlying3
 have f4:Of Tryz.prog 3 [c4]:=NR (hf 4 _ rfl) (n := 1) (by kernel_rfl) rfl
 obtain ⟨v4,q4,b4⟩:=f4.toI64 Tryz.underlying3
 refine ⟨⟨v0,v1,v2,v3,v4⟩,?_,⟨b0,⟨b1,n1⟩,b2,b3,b4⟩⟩
 have hc:([c0,c1,c2,c3,c4]:List AV)=[c0] ++ [c1] ++ [c2] ++ [c3] ++ [c4]:=rfl
 rw [hc]
 rw [q0,q1,q2,q3,q4]
 rw [e1]
 rfl
theorem Z4X {cs:List AV}(h:Of Tryz.prog 54 cs):∃ x,cs=Io x∧Zvh x:=by
 obtain ⟨hl,hf⟩:=h.toStruct Tryz.underlying54
 rw [show Tryz.prog.cellsOf 54=3 from by kernel_rfl] at hl
 obtain ⟨c0,c1,c2,r0,rfl,hl0⟩:=Zz6 hl
 obtain rfl:=List.eq_nil_of_length_eq_zero hl0
 have f0:Of Tryz.prog 3 [c0]:=NR (hf 0 _ rfl) (n := 1) (by kernel_rfl) rfl
 obtain ⟨v0,q0,b0⟩:=f0.toI64 Tryz.underlying3
 have f1:Of Tryz.prog 9 [c1]:=NR (hf 1 _ rfl) (n := 1) (by kernel_rfl) rfl
 obtain ⟨v1,q1,b1⟩:=f1.toStr Tryz.underlying9
 have f2:Of Tryz.prog 9 [c2]:=NR (hf 2 _ rfl) (n := 1) (by kernel_rfl) rfl
 obtain ⟨v2,q2,b2⟩:=f2.toStr Tryz.underlying9
 refine ⟨⟨v0,v1,v2⟩,?_,⟨b0,b1,b2⟩⟩
 have hc:([c0,c1,c2]:List AV)=[c0] ++ [c1] ++ [c2]:=rfl
 rw [hc]
 rw [q0,q1,q2]
 rfl
theorem Z6w {cs:List AV}(h:Of Tryz.prog 57 cs):∃ x,cs=DV x∧ZjO x:=by
 obtain ⟨hl,hf⟩:=h.toStruct Tryz.underlying57
 rw [show Tryz.prog.cellsOf 57=3 from by kernel_rfl] at hl
 obtain ⟨c0,c1,c2,r0,rfl,hl0⟩:=Zz6 hl
 obtain rfl:=List.eq_nil_of_length_eq_zero hl0
 have f0:Of Tryz.prog 9 [c0]:=NR (hf 0 _ rfl) (n := 1) (by kernel_rfl) rfl
 obtain ⟨v0,q0,b0⟩:=f0.toStr Tryz.underlying9
 have f1:Of Tryz.prog 55 [c1]:=NR (hf 1 _ rfl) (n := 1) (by kernel_rfl) rfl
 obtain ⟨w1,q1,b1,m1⟩:=f1.toSlice Tryz.underlying55
 rw [Z0r] at q1
 rw [Z2w] at b1
 obtain ⟨v1,e1,n1⟩:=IC (row := Io) (fun r hr hq=>Z4X hq) m1
 replace b1:v1.length * 40≤140737488351232:=by rw [e1,List.length_map] at b1; exact b1
 have f2:Of Tryz.prog 3 [c2]:=NR (hf 2 _ rfl) (n := 1) (by kernel_rfl) rfl
 obtain ⟨v2,q2,b2⟩:=f2.toI64 Tryz.underlying3
 refine ⟨⟨v0,v1,v2⟩,?_,⟨b0,⟨b1,n1⟩,b2⟩⟩
 have hc:([c0,c1,c2]:List AV)=[c0] ++ [c1] ++ [c2]:=rfl
 rw [hc]
 rw [q0,q1,q2]
 rw [e1]
 rfl
theorem Zx1 {cs:List AV}(h:Of Tryz.prog 42 cs):∃ x,cs=Zk x∧YO x:=by
 obtain ⟨hl,hf⟩:=h.toStruct Tryz.underlying42
 rw [show Tryz.prog.cellsOf 42=13 from by kernel_rfl] at hl
 obtain ⟨c0,c1,c2,c3,r0,rfl,hl0⟩:=ZeS hl
 obtain ⟨c4,c5,c6,c7,r4,rfl,hl4⟩:=ZeS hl0
 obtain ⟨c8,c9,c10,c11,r8,rfl,hl8⟩:=ZeS hl4
 obtain ⟨c12,r12,rfl,hl12⟩:=Z3S hl8
 obtain rfl:=List.eq_nil_of_length_eq_zero hl12
 have f0:Of Tryz.prog 9 [c0]:=NR (hf 0 _ rfl) (n := 1) (by kernel_rfl) rfl
 obtain ⟨v0,q0,b0⟩:=f0.toStr Tryz.underlying9
 have f1:Of Tryz.prog 22 [c1]:=NR (hf 1 _ rfl) (n := 1) (by kernel_rfl) rfl
 obtain ⟨w1,q1,b1,m1⟩:=f1.toSlice Tryz.underlying22
 rw [Zv1] at q1
 rw [ZxT] at b1
 obtain ⟨v1,e1,n1⟩:=IC (row := X7) (fun r hr hq=>Zyz hq) m1
 replace b1:v1.length * 32≤140737488351232:=by rw [e1,List.length_map] at b1; exact b1
 have f2:Of Tryz.prog 34 [c2]:=NR (hf 2 _ rfl) (n := 1) (by kernel_rfl) rfl
 obtain ⟨w2,q2,b2,m2⟩:=f2.toSlice Tryz.underlying34
 rw [Z0u] at q2
 rw [Z2z] at b2
 obtain ⟨v2,e2,n2⟩:=IC (row := Zh) (fun r hr hq=>ZqN hq) m2
 replace b2:v2.length * 232≤140737488351232:=by rw [e2,List.length_map] at b2; exact b2
 have f3:Of Tryz.prog 35 [c3]:=NR (hf 3 _ rfl) (n := 1) (by kernel_rfl) rfl
 obtain ⟨w3,q3,b3,m3⟩:=f3.toSlice Tryz.underlying35
 rw [Z0v] at q3
 rw [Z20] at b3
 obtain ⟨v3,e3,n3⟩:=IC (row := Yt) (fun r hr hq=>Zwf hq) m3
 replace b3:v3.length * 32≤140737488351232:=by rw [e3,List.length_map] at b3; exact b3
 have f4:Of Tryz.prog 36 [c4]:=NR (hf 4 _ rfl) (n := 1) (by kernel_rfl) rfl
 obtain ⟨w4,q4,b4,m4⟩:=f4.toSlice Tryz.underlying36
 rw [Z0w] at q4
 rw [Z21] at b4
 obtain ⟨v4,e4,n4⟩:=IC (row := YQ) (fun r hr hq=>Zxz hq) m4
 replace b4:v4.length * 32≤140737488351232:=by rw [e4,List.length_map] at b4; exact b4
 have f5:Of Tryz.prog 37 [c5]:=NR (hf 5 _ rfl) (n := 1) (by kernel_rfl) rfl
 obtain ⟨w5,q5,b5,m5⟩:=f5.toSlice Tryz.underlying37
 rw [Zlq] at q5
 rw [Zp2] at b5
 obtain ⟨v5,e5,n5⟩:=IC (row := (fun x=>[.str x])) (fun r hr hq=>Z1k hq) m5
 replace b5:v5.length * 16≤140737488351232:=by rw [e5,List.length_map] at b5; exact b5
 have f6:Of Tryz.prog 37 [c6]:=NR (hf 6 _ rfl) (n := 1) (by kernel_rfl) rfl
 obtain ⟨w6,q6,b6,m6⟩:=f6.toSlice Tryz.underlying37
 rw [Zlq] at q6
 rw [Zp2] at b6
 obtain ⟨v6,e6,n6⟩:=IC (row := (fun x=>[.str x])) (fun r hr hq=>Z1k hq) m6
 replace b6:v6.length * 16≤140737488351232:=by rw [e6,List.length_map] at b6; exact b6
 have f7:Of Tryz.prog 37 [c7]:=NR (hf 7 _ rfl) (n := 1) (by kernel_rfl) rfl
 obtain ⟨w7,q7,b7,m7⟩:=f7.toSlice Tryz.underlying37
 rw [Zlq] at q7
 rw [Zp2] at b7
 obtain ⟨v7,e7,n7⟩:=IC (row := (fun x=>[.str x])) (fun r hr hq=>Z1k hq) m7
 replace b7:v7.length * 16≤140737488351232:=by rw [e7,List.length_map] at b7; exact b7
 have f8:Of Tryz.prog 37 [c8]:=NR (hf 8 _ rfl) (n := 1) (by kernel_rfl) rfl
 obtain ⟨w8,q8,b8,m8⟩:=f8.toSlice Tryz.underlying37
 rw [Zlq] at q8
 rw [Zp2] at b8
 obtain ⟨v8,e8,n8⟩:=IC (row := (fun x=>[.str x])) (fun r hr hq=>Z1k hq) m8
 replace b8:v8.length * 16≤140737488351232:=by rw [e8,List.length_map] at b8; exact b8
 have f9:Of Tryz.prog 37 [c9]:=NR (hf 9 _ rfl) (n := 1) (by kernel_rfl) rfl
 obtain ⟨w9,q9,b9,m9⟩:=f9.toSlice Tryz.underlying37
 rw [Zlq] at q9
 rw [Zp2] at b9
 obtain ⟨v9,e9,n9⟩:=IC (row := (fun x=>[.str x])) (fun r hr hq=>Z1k hq) m9
 replace b9:v9.length * 16≤140737488351232:=by rw [e9,List.length_map] at b9; exact b9
 have f10:Of Tryz.prog 38 [c10]:=NR (hf 10 _ rfl) (n := 1) (by kernel_rfl) rfl
 obtain ⟨w10,q10,b10,m10⟩:=f10.toSlice Tryz.underlying38
 rw [Z0t] at q10
 rw [Z2y] at b10
 obtain ⟨v10,e10,n10⟩:=IC (row := Y3) (fun r hr hq=>ZzD hq) m10
 replace b10:v10.length * 88≤140737488351232:=by rw [e10,List.length_map] at b10; exact b10
 have f11:Of Tryz.prog 39 [c11]:=NR (hf 11 _ rfl) (n := 1) (by kernel_rfl) rfl
 obtain ⟨w11,q11,b11,m11⟩:=f11.toSlice Tryz.underlying39
 rw [Zzp] at q11
 rw [Z0k] at b11
 obtain ⟨v11,e11,n11⟩:=IC (row := Xq) (fun r hr hq=>Z2W hq) m11
 replace b11:v11.length * 64≤140737488351232:=by rw [e11,List.length_map] at b11; exact b11
 have f12:Of Tryz.prog 40 [c12]:=NR (hf 12 _ rfl) (n := 1) (by kernel_rfl) rfl
 obtain ⟨w12,q12,b12,m12⟩:=f12.toSlice Tryz.underlying40
 rw [Z0s] at q12
 rw [Z2x] at b12
 obtain ⟨v12,e12,n12⟩:=IC (row := DV) (fun r hr hq=>Z6w hq) m12
 replace b12:v12.length * 48≤140737488351232:=by rw [e12,List.length_map] at b12; exact b12
 refine ⟨⟨v0,v1,v2,v3,v4,v5,v6,v7,v8,v9,v10,v11,v12⟩,?_,⟨b0,⟨b1,n1⟩,⟨b2,n2⟩,⟨b3,n3⟩,⟨b4,n4⟩,⟨b5,n5⟩,⟨b6,n6⟩,⟨b7,n7⟩,⟨b8,n8⟩,⟨b9,n9⟩,⟨b10,n10⟩,⟨b11,n11⟩,⟨b12,n12⟩⟩⟩
 have hc:([c0,c1,c2,c3,c4,c5,c6,c7,c8,c9,c10,c11,c12]:List AV)=[c0] ++ [c1] ++ [c2] ++ [c3] ++ [c4] ++ [c5] ++ [c6] ++ [c7] ++ [c8] ++ [c9] ++ [c10] ++ [c11] ++ [c12]:=rfl
 rw [hc]
 rw [q0,q1,q2,q3,q4,q5,q6,q7,q8,q9,q10,q11,q12]
 rw [e1,e2,e3,e4,e5,e6,e7,e8,e9,e10,e11,e12]
 rfl
theorem Z4W {cs:List AV}(h:Of Tryz.prog 49 cs):∃ x,cs=GH x∧Zvg x:=by
 obtain ⟨hl,hf⟩:=h.toStruct Tryz.underlying49
 rw [show Tryz.prog.cellsOf 49=3 from by kernel_rfl] at hl
 obtain ⟨c0,c1,c2,r0,rfl,hl0⟩:=Zz6 hl
 obtain rfl:=List.eq_nil_of_length_eq_zero hl0
 have f0:Of Tryz.prog 9 [c0]:=NR (hf 0 _ rfl) (n := 1) (by kernel_rfl) rfl
 obtain ⟨v0,q0,b0⟩:=f0.toStr Tryz.underlying9
 have f1:Of Tryz.prog 9 [c1]:=NR (hf 1 _ rfl) (n := 1) (by kernel_rfl) rfl
 obtain ⟨v1,q1,b1⟩:=f1.toStr Tryz.underlying9
 have f2:Of Tryz.prog 3 [c2]:=NR (hf 2 _ rfl) (n := 1) (by kernel_rfl) rfl
 obtain ⟨v2,q2,b2⟩:=f2.toI64 Tryz.underlying3
 refine ⟨⟨v0,v1,v2⟩,?_,⟨b0,b1,b2⟩⟩
 have hc:([c0,c1,c2]:List AV)=[c0] ++ [c1] ++ [c2]:=rfl
 rw [hc]
 rw [q0,q1,q2]
 rfl
theorem Zyy {cs:List AV}(h:Of Tryz.prog 26 cs):∃ x,cs=Vz x∧Lp x:=by
 obtain ⟨hl,hf⟩:=h.toStruct Tryz.underlying26
 rw [show Tryz.prog.cellsOf 26=4 from by kernel_rfl] at hl
 obtain ⟨c0,c1,c2,c3,r0,rfl,hl0⟩:=ZeS hl
 obtain rfl:=List.eq_nil_of_length_eq_zero hl0
 have f0:Of Tryz.prog 9 [c0]:=NR (hf 0 _ rfl) (n := 1) (by kernel_rfl) rfl
 obtain ⟨v0,q0,b0⟩:=f0.toStr Tryz.underlying9
 have f1:Of Tryz.prog 22 [c1]:=NR (hf 1 _ rfl) (n := 1) (by kernel_rfl) rfl
 obtain ⟨w1,q1,b1,m1⟩:=f1.toSlice Tryz.underlying22
 rw [Zv1] at q1
 rw [ZxT] at b1
 obtain ⟨v1,e1,n1⟩:=IC (row := X7) (fun r hr hq=>Zyz hq) m1
 replace b1:v1.length * 32≤140737488351232:=by rw [e1,List.length_map] at b1; exact b1
 have f2:Of Tryz.prog 23 [c2]:=NR (hf 2 _ rfl) (n := 1) (by kernel_rfl) rfl
 obtain ⟨w2,q2,b2,m2⟩:=f2.toSlice Tryz.underlying23
 rw [Z0p] at q2
 rw [Z2u] at b2
 obtain ⟨v2,e2,n2⟩:=IC (row := Zk) (fun r hr hq=>Zx1 hq) m2
 replace b2:v2.length * 304≤140737488351232:=by rw [e2,List.length_map] at b2; exact b2
 have f3:Of Tryz.prog 24 [c3]:=NR (hf 3 _ rfl) (n := 1) (by kernel_rfl) rfl
 obtain ⟨w3,q3,b3,m3⟩:=f3.toSlice Tryz.underlying24
 rw [Z0q] at q3
 rw [Z2v] at b3
 obtain ⟨v3,e3,n3⟩:=IC (row := GH) (fun r hr hq=>Z4W hq) m3
 replace b3:v3.length * 40≤140737488351232:=by rw [e3,List.length_map] at b3; exact b3
 refine ⟨⟨v0,v1,v2,v3⟩,?_,⟨b0,⟨b1,n1⟩,⟨b2,n2⟩,⟨b3,n3⟩⟩⟩
 have hc:([c0,c1,c2,c3]:List AV)=[c0] ++ [c1] ++ [c2] ++ [c3]:=rfl
 rw [hc]
 rw [q0,q1,q2,q3]
 rw [e1,e2,e3]
 rfl
end Go.Proofs.YtlmfmmclnboglaaGreat
end
section
namespace Go.Proofs.YtlmfmmclnboglaaGreat.Abs
open Go Go.RowKit
open Nat (reduceAdd reduceLeDiff)
section
variable {P:Program}{G:Nat→Option (List AV)}{call:FuncId→List AV→List Z5→Option (AV×List Z5×Eff)}{E:Entry}{s s':Z7}{Γ:QS}{a:Act}{w:World}{hand:Nat→Bool}{draw:Bool}
theorem Z1s (hG:GOk G E.W0)(hS:Uf P E.W0 call){ops:Array Oper}{o:Oper}{g:Option (Nat×Bool)}{u:Z7}{K:Act→World→Prop}{Q:Exit→Act→World→Prop}(h2:Zlb ops o.guard=some g)
  (he:QA G call ⟨o.dst,(cOp P hand draw o).getD .bad,g⟩ s=some u) (hI:Inv E s Γ a w) (hK:∀ Γ a w,Inv E u Γ a w→K a w) :
  if Region.wanted o (yielded ops a.tmps)=true then o.wp P a w K Q∨(o.asks P a w∧LetsOut Q) else K (a.put o.dst Go.undef) w:=by
 simp only [QA] at he
 split at he <;> first | (cases he; done) | skip
 ·rename_i hw
  rw [EP hI h2 hw]
  split at he <;> first | (cases he; done) | skip
  rename_i v s2 hev
  obtain rfl:=Option.some.inj he
  simp only [if_true]
  refine .inl (Z3f hG hS hI (CQ hev) hev fun Γ' cv w' i1 r1 o1=>?_)
  obtain ⟨Γ2,i2⟩:=i1.put o.dst r1 o1
  exact hK _ _ _ i2
 ·rename_i hw
  rw [EP hI h2 hw]
  obtain rfl:=Option.some.inj he
  simp only [Bool.false_eq_true,if_false]
  obtain ⟨Γ2,i2⟩:=hI.put o.dst (v := .undef) (cv := Go.undef) .undef (.of_ne (by simp))
  exact hK _ _ _ i2
theorem Z3j (hG:GOk G E.W0)(hS:Uf P E.W0 call)(hpure:∀ f args hp v hp' e,call f args hp=some (v,hp',e)→hp'=hp∧e=none){ops:Array Oper}{bops:List Jq}{Q:Exit→Act→World→Prop}{sF:Z7}(hc:Zao P hand draw ops ops.toList=some bops)(hd:Zts ops bops=true)(hQ:∀ Γ a w,Inv E sF Γ a w→Q .normal a w) :
  ∀ (fuel:Nat) {listed:Array Bool} {s:Z7} {Γ:QS} {a:Act} {w:World},listed.size=ops.size→ZbN ops listed→(ND ops.size listed).length=fuel→Jj G call ((ND ops.size listed).map fun i=>bops.getD i ⟨none,.bad,none⟩) s=some sF→Inv E s Γ a w→wpAny P .any ops Q fuel listed a w:=by
 simp only [Zts,Bool.and_eq_true,List.all_eq_true,List.mem_range] at hd
 obtain ⟨⟨hord,hnh⟩,hpair⟩:=hd
 obtain ⟨hlen,hget⟩:=ZaX hc
 intro fuel
 induction fuel with
 | zero =>
  intro listed s Γ a w hsz hcl hl h hI
  have hn:=List.eq_nil_of_length_eq_zero hl
  rw [hn] at h
  obtain rfl:=Option.some.inj (by simpa [Jj] using h:some s=some sF)
  refine ⟨List.eq_nil_iff_forall_not_mem.2 fun i hi=>?_,hQ _ _ _ hI⟩
  obtain ⟨h1,o,h2,_⟩:=mem_ready.1 hi
  have:i ∈ ND ops.size listed:=LM.2 ⟨(Array.getElem?_eq_some_iff.1 h2).1,h1⟩
  rw [hn] at this
  cases this
 | succ fuel ih =>
  intro listed s Γ a w hsz hcl hl h hI
  have hlisted:∀ j,j < ops.size→listed.getD j true≠false→listed.getD j false=true:=fun j hj h=>by
   have hj':j < listed.size:=by omega
   simp [hj'] at h ⊢; exact h
  refine ⟨fun hr=>?_,fun i hi=>?_⟩
  ·obtain ⟨i,r,hir⟩:∃ i r,ND ops.size listed=i :: r:=by
    cases hx:ND ops.size listed with
    | nil=>rw [hx] at hl; cases hl
    | cons i r=>exact ⟨i,r,rfl⟩
   have him:=LM.1 (show i ∈ ND ops.size listed by rw [hir]; exact List.mem_cons_self ..)
   have hoi:ops[i]? = some ops[i]:=Array.getElem?_eq_getElem him.1
   have hready:i ∈ Region.ready .any ops listed:=by
    refine mem_ready.2 ⟨him.2,_,hoi,fun e he hb=>?_⟩
    have:=hord i him.1
    rw [hoi] at this
    have hlt:=Array.all_eq_true'.1 this e he
    rw [hb] at hlt
    simp only [Bool.not_true,Bool.false_or,decide_eq_true_eq] at hlt
    refine hlisted e.on (by omega) fun hun=>?_
    have hm:=LM.2 ⟨show e.on < ops.size by omega,hun⟩
    rw [hir] at hm
    have hs:=EJ ops.size listed
    rw [hir] at hs
    rcases List.mem_cons.1 hm with he | hm
    ·omega
    ·have:=(List.pairwise_cons.1 hs).1 _ hm
     omega
   rw [hr] at hready
   cases hready
  ·obtain ⟨hun,o,ho,hdeps⟩:=mem_ready.1 hi
   have hin:=(Array.getElem?_eq_some_iff.1 ho).1
   obtain ⟨l1,l2,hsplit⟩:=List.append_of_mem (LM.2 ⟨hin,hun⟩)
   have hs:=EJ ops.size listed
   rw [hsplit] at hs
   obtain ⟨g,hg1,hg2⟩:=hget i o (by simpa using ho)
   have hbi:bops.getD i ⟨none,.bad,none⟩=⟨o.dst,(cOp P hand draw o).getD .bad,g⟩:=by rw [List.getD_eq_getElem?_getD,hg2]; rfl
   have hcomm:∀ x ∈ l1.map (fun i=>bops.getD i ⟨none,.bad,none⟩),Zzr x ⟨o.dst,(cOp P hand draw o).getD .bad,g⟩=true:=fun x hx=>by
    obtain ⟨j,hj,rfl⟩:=List.mem_map.1 hx
    have hji:j < i:=(List.pairwise_append.1 hs).2.2 j hj i (List.mem_cons_self ..)
    have hjm:=LM.1 (show j ∈ ND ops.size listed by rw [hsplit]; exact List.mem_append_left _ hj)
    have:=hpair i hin j hji
    rw [Bool.or_eq_true] at this
    rcases this with h1 | h1
    ·exfalso
     have h2:=hcl.ready ho hdeps (Zvc h1)
     rw [Znb hjm.2] at h2
     cases h2
    ·rw [hg2] at h1
     split at h1
     ·rename_i x y hx hy
      cases hy
      rw [List.getD_eq_getElem?_getD,hx]
      exact h1
     ·cases h1
   rw [hsplit,List.map_append,List.map_cons,hbi] at h
   obtain ⟨u,hu1,hu2⟩:=bubble hpure hcomm h
   rw [← List.map_append,← ZeX hsplit (by omega)] at hu2
   have hlen2:(ND ops.size (listed.setIfInBounds i true)).length=fuel:=by
    rw [ZeX hsplit (by omega)]
    rw [hsplit] at hl
    simp at hl ⊢
    omega
   unfold wpOp
   simp only [ho]
   exact Z1s hG hS hg1 hu1 hI fun Γ' a' w' hI'=>ih (by simp [hsz]) (hcl.list ho hdeps) hlen2 hu2 hI'
end
def Zcj (P:Program)(takes:FuncId→List Nat)(res:List Nat):Code→Option Zr
 | .skip=>some .skip
 | .region _ ops false=>(Zao P (fun t=>(handed takes res ops.toList).contains t) false ops ops.toList).map (.region false)
 | .region _ ops true=>match Zao P (fun t=>(handed takes res ops.toList).contains t) false ops ops.toList with
  | some bops=>if Zts ops bops then some (.region true bops) else if Zuh ops bops then some (.regionB bops) else some .bad
  | _=>none
 | .seq a b=>match Zcj P takes res a,Zcj P takes res b with
  | some a,some b=>some (.seq a b)
  | _,_=>none
 | .cond c a b=>match V9 P 0 c,Zcj P takes res a,Zcj P takes res b with
  | some c,some a,some b=>some (.cond c a b)
  | _,_,_=>none
 | .block id c=>(Zcj P takes res c).map (.block id)
 | .loop c=>(Zcj P takes res c).map .loop
 | .scope c=>(Zcj P takes res c).map .scope
 | .exit id=>some (.exit id)
 | .ret=>some .ret
 | .label _=>some .skip
 | _=>some .bad
def Z6Y (P:Program)(takes:FuncId→List Nat)(fn:Func):Option AFn :=
 match fn.body,Zvs P fn.results.toList with
 | some c,some rs=>(Zcj P takes (ZuQ fn.results.toList) c).map fun ac=>⟨fn.ntmps,rs,ac,!(takes Zic).isEmpty⟩
 | _,_=>none
section
variable (G:Nat→Option (List AV))(call:FuncId→List AV→List Z5→Option (AV×List Z5×Eff))(L:Nat)
def Ua:Zr→Z7→Option (Zg9×Z7)
 | .skip,s=>some (.normal,s)
 | .region false ops,s=>(Jj G call ops s).map (.normal,·)
 | .region true ops,s=>(Jj G (Zcp call) ops s).map (.normal,·)
 | .regionB ops,s=>(Jj G (Ku call) ops s).map (.normal,·)
 | .seq a b,s=>match Ua a s with
  | some (.normal,s')=>Ua b s'
  | r=>r
 | .cond c a b,s=>match opnd G s.sl c with
  | some (.bool true)=>Ua a s
  | some (.bool false)=>Ua b s
  | _=>none
 | .block id c,s=>match Ua c s with
  | some (.exit i,s')=>if i=id then some (.normal,s') else some (.exit i,s')
  | r=>r
 | .loop c,s=>iter (Ua c) L s
 | .scope c,s=>Ua c s
 | .exit id,s=>some (.exit id,s)
 | .ret,s=>some (.ret,s)
 | .bad,_=>none
end
section
variable {P:Program}{G:Nat→Option (List AV)}{call:FuncId→List AV→List Z5→Option (AV×List Z5×Eff)}{E:Entry}
theorem Z23 (hm:P.follows .mixedOrders=true)(hG:GOk G E.W0)(hS:Uf P E.W0 call){takes:FuncId→List Nat}{res:List Nat}(L:Nat):∀ {c:Code} {ac:Zr} {s:Z7} {r:Zg9×Z7} {Γ:QS} {a:Act} {w:World},
  Zcj P takes res c=some ac→Ua G call L ac s=some r→Inv E s Γ a w→c.wp P (Ends E r) a w:=by
 intro c
 induction c with
 | skip =>
  intro ac s r Γ a w hc h hI
  cases hc; cases h
  exact Go.wp_skip (.normal hI)
 | region id ops draw =>
  intro ac s r Γ a w hc h hI
  cases draw with
  | false =>
   simp only [Zcj] at hc
   obtain ⟨aops,h1,rfl⟩:=Option.map_eq_some_iff.1 hc
   simp only [Ua] at h
   obtain ⟨s1,h2,rfl⟩:=Option.map_eq_some_iff.1 h
   refine wp_region ?_
   rw [List.range_eq_range']
   have:=Zy4 hG hS (Q := Ends E (.normal,s1)) 0 (l := ops.toList) (by simp) h1 h2 hI fun Γ a w h=>.normal h
   simpa using this
  | true =>
   simp only [Zcj] at hc
   split at hc <;> try (cases hc; done)
   rename_i bops h1'
   split at hc
   ·rename_i hd
    cases hc
    simp only [Ua] at h
    obtain ⟨s1,h2,rfl⟩:=Option.map_eq_some_iff.1 h
    refine wp_region_any hm ?_
    have hb:Behind w { w with drawn:=w.drawn + 1 }:=⟨rfl,rfl,rfl,Nat.le_refl _,fun _ _=>rfl⟩
    have hr:ND ops.size (Array.replicate ops.size false)=List.range ops.size:=by
     unfold ND
     refine List.filter_eq_self.2 fun i hi=>?_
     simp only [List.mem_range] at hi
     simp [hi]
    have hmap:(List.range ops.size).map (fun i=>bops.getD i ⟨none,.bad,none⟩)=bops:=by
     have hl:ops.size=bops.length:=by simpa using (ZaX h1').1
     rw [hl]
     refine List.ext_getElem? fun i=>?_
     rw [List.getElem?_map]
     by_cases hi:i < bops.length
     ·rw [List.getElem?_range hi,Option.map_some,List.getD_eq_getElem?_getD,List.getElem?_eq_getElem hi]; rfl
     ·rw [List.getElem?_eq_none (by simpa using hi),List.getElem?_eq_none (by omega)]; rfl
    exact Z3j hG (ZpK hS) Z0o (Q := Ends E (.normal,s1)) h1' hd (fun Γ a w h=>.normal h) ops.size (by simp) (.start ops _) (by rw [hr]; simp) (by rw [hr,hmap]; exact h2) (hb.inv hI)
   ·split at hc
    ·rename_i hd
     cases hc
     simp only [Ua] at h
     obtain ⟨s1,h2,rfl⟩:=Option.map_eq_some_iff.1 h
     refine wp_region_any hm ?_
     have hb:Behind w { w with drawn:=w.drawn + 1 }:=⟨rfl,rfl,rfl,Nat.le_refl _,fun _ _=>rfl⟩
     exact Zy2 hG (Zvn hS) (Q := Ends E (.normal,s1)) h1' hd (fun Γ a w h=>.normal h) h2 (hb.inv hI)
    ·cases hc; cases h
 | seq x y ihx ihy =>
  intro ac s r Γ a w hc h hI
  simp only [Zcj] at hc
  split at hc <;> try (cases hc; done)
  rename_i ax ay hx hy
  obtain rfl:=Option.some.inj hc
  simp only [Ua] at h
  refine Go.wp_seq ?_
  split at h
  ·rename_i s1 h1
   refine Go.wp_mono (ihx hx h1 hI) fun e a' w' he=>?_
   obtain ⟨k1,Γ',i1⟩:=he
   cases e <;> first | exact k1.elim | skip
   exact ihy hy h i1
  ·rename_i hne
   refine Go.wp_mono (ihx hx h hI) fun e a' w' he=>?_
   cases e <;> first | exact he | skip
   obtain ⟨k1,_⟩:=he
   obtain ⟨q,s1⟩:=r
   cases q <;> first | exact k1.elim | skip
   exact absurd h (hne s1)
 | cond c x y ihx ihy =>
  intro ac s r Γ a w hc h hI
  simp only [Zcj] at hc
  split at hc <;> try (cases hc; done)
  rename_i c' ax ay hcc hx hy
  obtain rfl:=Option.some.inj hc
  simp only [Ua] at h
  split at h <;> try (cases h; done)
  ·rename_i hb
   have k:=(YZ hG hI hcc hb).1
   generalize hq:a.eval c=q at k
   cases k
   exact Go.wp_cond_true hq (ihx hx h hI)
  ·rename_i hb
   have k:=(YZ hG hI hcc hb).1
   generalize hq:a.eval c=q at k
   cases k
   exact Go.wp_cond_false hq (ihy hy h hI)
 | block id c ih =>
  intro ac s r Γ a w hc h hI
  simp only [Zcj] at hc
  obtain ⟨ax,hx,rfl⟩:=Option.map_eq_some_iff.1 hc
  simp only [Ua] at h
  refine Go.wp_block ?_
  split at h
  ·rename_i i s1 h1
   split at h
   ·rename_i hi
    obtain rfl:=Option.some.inj h
    refine Go.wp_mono (ih hx h1 hI) fun e a' w' he=>?_
    obtain ⟨k1,Γ',i1⟩:=he
    cases e <;> first | exact k1.elim | skip
    rename_i j
    simp only [Exit.inBlock]
    rw [if_pos (by rw [← hi]; exact (show i=j from k1).symm)]
    exact .normal i1
   ·rename_i hi
    obtain rfl:=Option.some.inj h
    refine Go.wp_mono (ih hx h1 hI) fun e a' w' he=>?_
    obtain ⟨k1,Γ',i1⟩:=he
    cases e <;> first | exact k1.elim | skip
    rename_i j
    simp only [Exit.inBlock]
    rw [if_neg (by rw [← (show i=j from k1)]; exact hi)]
    exact ⟨k1,Γ',i1⟩
  ·rename_i hne
   refine Go.wp_mono (ih hx h hI) fun e a' w' he=>?_
   cases e <;> first | exact he | skip
   obtain ⟨k1,_⟩:=he
   obtain ⟨q,s1⟩:=r
   cases q <;> first | exact k1.elim | skip
   exact absurd h (hne _ s1)
 | loop c ih =>
  intro ac s r Γ a w hc h hI
  simp only [Zcj] at hc
  obtain ⟨ax,hx,rfl⟩:=Option.map_eq_some_iff.1 hc
  simp only [Ua] at h
  exact wp_loop_rounds L (Zxw (fun h1 h2=>ih hx h1 h2) L h hI)
 | scope c ih =>
  intro ac s r Γ a w hc h hI
  simp only [Zcj] at hc
  obtain ⟨ax,hx,rfl⟩:=Option.map_eq_some_iff.1 hc
  simp only [Ua] at h
  refine Go.wp_scope_straight (Go.wp_mono (ih hx h hI) fun e a' w' he=>?_)
  cases e <;> first | exact he | skip
  obtain ⟨k1,_⟩:=he
  obtain ⟨q,s1⟩:=r
  cases q <;> exact k1.elim
 | exit id =>
  intro ac s r Γ a w hc h hI
  cases hc; cases h
  exact Go.wp_exit ⟨rfl,Γ,hI⟩
 | ret =>
  intro ac s r Γ a w hc h hI
  cases hc; cases h
  exact Go.wp_ret ⟨trivial,Γ,hI⟩
 | label l =>
  intro ac s r Γ a w hc h hI
  cases hc; cases h
  exact Go.wp_label (.normal hI)
 | _ =>
  intro ac s r Γ a w hc h
  cases hc; cases h
end
section
variable {G:Nat→Option (List AV)}{call:FuncId→List AV→List Z5→Option (AV×List Z5×Eff)}
theorem ZvN (L:Nat):∀ {c:Zr} {s:Z7} {r:Zg9×Z7},Ua G call L c s=some r→r.2.bs=s.bs:=by
 intro c
 induction c with
 | skip=>intro s r h; cases h; rfl
 | region draw ops =>
  intro s r h
  cases draw with
  | false =>
   simp only [Ua] at h
   obtain ⟨s1,h1,rfl⟩:=Option.map_eq_some_iff.1 h
   exact Zbp h1
  | true =>
   simp only [Ua] at h
   obtain ⟨s1,h1,rfl⟩:=Option.map_eq_some_iff.1 h
   exact Zbp h1
 | regionB ops =>
  intro s r h
  simp only [Ua] at h
  obtain ⟨s1,h1,rfl⟩:=Option.map_eq_some_iff.1 h
  exact Zbp h1
 | seq x y ihx ihy =>
  intro s r h
  simp only [Ua] at h
  split at h
  ·rename_i s1 h1
   rw [ihy h]; exact ihx h1
  ·exact ihx h
 | cond c x y ihx ihy =>
  intro s r h
  simp only [Ua] at h
  split at h <;> try (cases h; done)
  ·exact ihx h
  ·exact ihy h
 | block id c ih =>
  intro s r h
  simp only [Ua] at h
  split at h
  ·rename_i i s1 h1
   have:=ih h1
   split at h <;> (obtain rfl:=Option.some.inj h; exact this)
  ·exact ih h
 | loop c ih =>
  intro s r h
  simp only [Ua] at h
  exact Zxv ih L h
 | scope c ih=>intro s r h; simp only [Ua] at h; exact ih h
 | exit id=>intro s r h; cases h; rfl
 | ret=>intro s r h; cases h; rfl
 | bad=>intro s r h; cases h
end
def Zqv (C:Cfg)(S:List Nat)(n:Nat)(fn:AFn)(args:List AV)(hp:List Z5):Option (AV×List Z5×Eff) :=
 match Ua C.G (Zxy S (Za C n)) C.L fn.code ⟨args ++ List.replicate (fn.ntmps - args.length) .undef,hp,none,hp.length⟩ with
 | some (.exit _,_)=>none
 | some (_,s)=>match Zcy s fn.results with
  | some v=>some (if fn.keep then (v.nm,s.hp,s.ef) else finish v s hp)
  | none=>none
 | none=>none
theorem Zz1 {P:Program}{W0:World}{C:Cfg}{S:List Nat}(h:Zzi P W0 C)(n:Nat){f:FuncId}{fn:Func}{takes:FuncId→List Nat}{af:AFn}(hf:P.funcs[f]? = some fn)(hname:(fn.name == "runtime.NumGoroutine")=false)(hcf:Z6Y P takes fn=some af) :
  Uf P W0 fun g args hp=>if g=f then Zqv C S n af args hp else none:=by
 intro g args hp v hp' e hc Γ w xs hr ht hs hx
 replace hc:(if g=f then Zqv C S n af args hp else none)=some (v,hp',e):=hc
 split at hc
 case isFalse=>cases hc
 rename_i hgf
 subst hgf
 have ih:=Z2R S (Zqu h n)
 unfold Zqv at hc
 unfold Z6Y at hcf
 split at hcf <;> first | (cases hcf; done) | skip
 rename_i c rs hb hrs
 obtain ⟨ac,hac,rfl⟩:=Option.map_eq_some_iff.1 hcf
 split at hc
 ·cases hc
 ·rename_i x s hne hev
  split at hc <;> try (cases hc; done)
  rename_i u hu
  have hfin:=Option.some.inj hc
  refine ⟨ZlP hf hname hb xs w,?_⟩
  have hbs:s.bs=hp.length:=ZvN C.L hev
  have hI:Inv ⟨W0,Γ,w⟩ ⟨args ++ List.replicate (fn.ntmps - args.length) .undef,hp,none,hp.length⟩ Γ { tmps := xs ++ Array.replicate (fn.ntmps - xs.size) Go.undef,defers := [] } w:=by
   have get:∀ (t:Nat) (y:AV),(args ++ List.replicate (fn.ntmps - args.length) AV.undef)[t]? = some y→(args[t]? = some y∧(xs ++ Array.replicate (fn.ntmps - xs.size) Go.undef).getD t Go.undef=xs.getD t Go.undef)∨(y=.undef∧(xs ++ Array.replicate (fn.ntmps - xs.size) Go.undef).getD t Go.undef=Go.undef):=by
    intro t y hy
    rw [List.getElem?_append] at hy
    split at hy
    ·rename_i hlt
     refine .inl ⟨hy,?_⟩
     rw [Array.getD_eq_getD_getElem?,Array.getD_eq_getD_getElem?,Array.getElem?_append_left (by omega)]
    ·rename_i hge
     have hm:=List.mem_of_getElem? hy
     have:=List.eq_of_mem_replicate hm
     refine .inr ⟨this,?_⟩
     have hlt:=YV hy
     simp only [List.length_replicate] at hlt
     rw [Array.getD_eq_getD_getElem?,Array.getElem?_append_right (by omega),Array.getElem?_replicate,if_pos (by omega)]
     rfl
   refine ⟨rfl,⟨by simp [hs],fun t y hy=>?_,fun t y hy=>?_⟩,hr,.refl _ _ _,fun b g hb=>hr.lt b g hb,fun b m g i hb=>ht.cell b m g i hb,Nat.le_refl _,fun _ _ hb _=>hb⟩
   ·rcases get t y hy with ⟨h1,h2⟩ | ⟨rfl,h2⟩
    ·rw [h2]; exact (hx t y h1).1
    ·rw [h2]; exact .undef
   ·rcases get t y hy with ⟨h1,h2⟩ | ⟨rfl,h2⟩
    ·rw [h2]; exact (hx t y h1).2
    ·exact .of_ne (by simp)
  have hw:=Z23 h.mixed h.globals ih C.L hac hev hI
  refine calls_of_wp hf hb (Go.wp_mono hw fun en a' w' he=>?_)
  obtain ⟨k1,Γ',i1⟩:=he
  have fin:a'.defers=[]∧∃ cv,(results fn a'.tmps).run P w'=.ok cv w'∧∃ v',Ending.returned cv=.returned v'∧∃ Γ',RW W0 Γ' w' hp'∧Rep Γ' w' v v'∧OwnAt Γ' w' .res v v'∧Frame Γ w Γ' w' e∧hp.length≤hp'.length∧∀ b g,Γ' b=.own g→g < hp.length→Γ b=.own g:=by
   obtain ⟨cv,Γ2,q1,q2,q3,q4,q5,q6⟩:=Z4r i1 hrs hu
   obtain ⟨Γ3,p1,p2,p3,p4,p5⟩:=Zq0 hr hbs (by rw [hbs]; have:=i1.le; simpa [hbs] using this) (fun b m g i hb=>by rw [hbs]; exact ht.cell b m g i hb) q2 q3 q6 q4 q5 hfin
   exact ⟨i1.defers,cv,q1,cv,rfl,Γ3,p1,p2,p3,p4,p5⟩
  cases x with
  | exit i=>exact (hne i rfl).elim
  | normal=>cases en <;> first | exact k1.elim | exact fin
  | ret=>cases en <;> first | exact k1.elim | exact fin
 ·cases hc
theorem Z6U {P:Program}{W:World}{C:Cfg}{S:List Nat}(h:Zzi P W C){n:Nat}{f:FuncId}{fn:Func}{takes:FuncId→List Nat}{af:AFn}(hf:P.funcs[f]? = some fn)(hname:(fn.name == "runtime.NumGoroutine")=false)(hcf:Z6Y P takes fn=some af)
  {hp:List Z5} {e:Eff} (hev:Zqv C S n af [] []=some (.bool true,hp,e)):Calls P f #[] W fun e W'=>e=.returned (.bool true)∧Below W.heap.size W W':=by
 obtain ⟨_,hw⟩:=Zz1 h n hf hname hcf f [] [] (.bool true) hp e (by simpa using hev) still W #[] (Zzc W) ZtS rfl fun j x hx=>by simp at hx
 refine hw.mono fun en W' ⟨cv,hv,Γ',r1,r2,_,r4,_⟩=>?_
 subst hv
 cases r2
 exact ⟨rfl,r4.os,r4.tape,r4.output,r4.size,fun b hb=>(r4.keep b hb trivial).2⟩
end Go.Proofs.YtlmfmmclnboglaaGreat.Abs
end
section
namespace Go.Proofs.YtlmfmmclnboglaaGreat
open Go Go.Proofs.YtlmfmmclnboglaaGreat.Abs
set_option maxRecDepth 100000
set_option maxHeartbeats 0
def Z6S:FuncId→List Nat:=fun _=>[]
def Z44:FuncId→List Nat:=fun x=>if x=Zic then [1000043,1000050,1000058,1000055] else []
def ZtZ:Zr:=yQ [yC 0 yF] (yQ [yP 8 25 [],yP 9 25 [],yP 10 25 [],yP 11 25 [],yI 1 (.mk 26 [ye,(.own 3 []),(.own 13 []),(.own 3 [])]),yI 2 (.mk 26 [ye,(.own 3 []),(.own 13 []),(.own 3 [])]),yI 3 (.mk 26 [ye,(.own 3 []),(.own 13 []),(.own 3 [])]),yI 4 (.mk 26 [ye,(.own 3 []),(.own 13 []),(.own 3 [])]),yN (.st 4 (yV 1) (yV 8)),yN (.st 4 (yV 2) (yV 9)),yN (.st 4 (yV 3) (yV 10)),yN (.st 4 (yV 4) (yV 11))] (yQ [yH 12 2 2,yL 13 12,yI 14 (.lit 9 1 [(yS [109])]),yI 15 (.ia (.slice 13) (yV 13) (yK 0)),yH 16 5 15,yN (.stt (yV 16) 14)] (yQ [yH 17 2 3,yL 18 17,yI 19 (.ia (.slice 13) (yV 18) (yK 0)),yH 20 12 19,yL 21 20,yI 22 (.ia (.slice 3) (yV 21) (yK 0)),yH 23 1 22,yL 24 23,yI 25 (.ia (.slice 3) (yV 24) (yK 0)),yH 26 1 25,yN (.st 1 (yV 26) (yS [115,116,111,114,101,100]))] (yQ [yH 27 3 4,yL 28 27,yI 29 (.ia (.slice 3) (yV 28) (yK 0)),yH 30 1 29,yN (.st 1 (yV 30) (yS [112,108,97,110,116]))] (yQ [yD 32 4 1,yP 33 12 [yA 32,yB (yS [112,108,97,110,116]),yB (yS [121,97,114,100])],yM 31 33,yI 34 (.extract (yV 31) 0),yI 35 (.extract (yV 31) 1),yU 5 34,yU 6 35] (yQ [yH 36 2 1,yL 37 36,yI 38 (.ia (.slice 13) (yV 37) (yK 0)),yD 39 13 38,yI 7 (.mk 42 [ye,(.own 3 []),(.own 17 []),(.own 3 []),(.own 3 []),(.own 1 []),(.own 1 []),(.own 1 []),(.own 1 []),(.own 1 []),(.own 4 []),(.own 5 []),(.own 3 [])]),yN (.st 13 (yV 7) (yV 39))] (.seq (.region true [yD 40 4 1,yP 41 10 [yA 40],yX 42 .eql (yV 41) (yK 0),yM 43 42,yJ 44 (.lda 4 (yV 2)) 43 true,yJ 45 (.call (yG 10) [yA 44]) 43 true,yJ 46 (.bin .eql .prim (yV 45) (yK 4)) 43 true,yI 47 (.pick (yV 43) (yV 46) yF),yM 48 47,yJ 49 (.lda 4 (yV 3)) 48 true,yJ 50 (.call (yG 10) [yA 49]) 48 true,yJ 51 (.bin .eql .prim (yV 50) (yK 5)) 48 true,yI 52 (.pick (yV 48) (yV 51) yF),yM 53 52,yJ 54 (.lda 4 (yV 4)) 53 true,yJ 55 (.call (yG 10) [yA 54]) 53 true,yJ 56 (.bin .eql .prim (yV 55) (yK 1)) 53 true,yI 57 (.pick (yV 53) (yV 56) yF),yM 58 57,yJ 59 (.mv (yV 5)) 58 true,yJ 60 (.bin .eql .prim (yV 59) (yK 4)) 58 true,yI 61 (.pick (yV 58) (yV 60) yF),yM 62 61,yJ 63 (.mv (yV 6)) 62 true,yI 64 (.pick (yV 62) (yV 63) yF),yM 65 64,yJ 66 (.lda 4 (yV 1)) 65 true,yJ 67 (.call (yG 14) [yA 66,yB (yS [121,97,114,100])]) 65 true,yJ 68 (.bin .eql .prim (yV 67) (yK 1)) 65 true,yI 69 (.pick (yV 65) (yV 68) yF),yM 70 69,yJ 71 (.lda 13 (yV 7)) 70 true,yJ 72 (.call (yG 16) [yA 71,yB (yS [112,97,114,116])]) 70 true,yJ 73 (.bin .eql .prim (yV 72) (yK 0)) 70 true,yI 74 (.pick (yV 70) (yV 73) yF),yM 75 74,yJ 76 (.lda 13 (yV 7)) 75 true,yJ 77 (.call (yG 18) [yA 76,yB (yS [100,111,110,101])]) 75 true,yJ 78 (.bin .eql .prim (yV 77) (yS [99,111,117,110,116])) 75 true,yI 79 (.pick (yV 75) (yV 78) yF),yM 80 79,yJ 81 (.lda 13 (yV 7)) 80 true,yJ 82 (.call (yG 20) [yA 81,yB (yS [100,111,110,101])]) 80 true,yJ 83 (.bin .eql .prim (yV 82) (yK 0)) 80 true,yI 84 (.pick (yV 80) (yV 83) yF),yM 85 84,yJ 86 (.lda 13 (yV 7)) 85 true,yJ 87 (.call (yG 20) [yA 86,yB (yS [120])]) 85 true,yJ 88 (.bin .eql .prim (yV 87) (.const (.int .i64 (-1)))) 85 true,yI 89 (.pick (yV 85) (yV 88) yF),yM 90 89,yJ 91 (.lda 4 (yV 1)) 90 true,yJ 92 (.call (yG 25) []) 90 true,yJ 93 (.call (yG 23) [yA 91,yA 92]) 90 true,yI 94 (.pick (yV 90) (yV 93) yF),yM 95 94,yJ 96 (.lda 4 (yV 1)) 95 true,yJ 97 (.lda 4 (yV 2)) 95 true,yJ 98 (.call (yG 23) [yA 96,yA 97]) 95 true,yJ 99 (.un .not (yV 98)) 95 true,yI 100 (.pick (yV 95) (yV 99) yF),yU 0 100]) yr)))))))
def ZkU:AFn:=⟨101,[.tmp 0],ZtZ,false⟩
theorem ZuY:Z6Y Tryz.prog Z6S Tryz.f9=some ZkU:=by kernel_rfl
theorem Zu1:(Tryz.f9.name == "runtime.NumGoroutine")=false:=by kernel_rfl
end Go.Proofs.YtlmfmmclnboglaaGreat
end
section
namespace Go.Proofs.YtlmfmmclnboglaaGreat
open Go Go.Proofs.YtlmfmmclnboglaaGreat.Abs
set_option maxRecDepth 100000
set_option maxHeartbeats 0
def ZrT:Zr:=yQ [yI 0 (.mk 26 [ye,(.own 3 []),(.own 13 []),(.own 3 [])])] (yQ [yI 2 (.build [ye,y0,(.own 2 []),y0,ye,y0,y0,y0,y0,(.own 1 []),(.own 1 []),y0,y0,y0,y0,(.own 1 []),(.own 1 [])] [(0,1,(yS [109])),(1,1,(yK 1))]),yI 3 (.lit 92 17 [(yV 2)]),yI 4 (.lit 9 1 [(yS [113])]),yI 5 (.lit 9 1 [(yS [100,111,110,101])]),yI 6 (.build [ye,y0] [(0,1,(yS [107])),(1,1,(yK 1))]),yI 7 (.lit 103 2 [(yV 6)]),yI 8 (.build [ye,(.own 2 []),(.own 2 []),(.own 21 [])] [(0,1,(yS [112,97,114,116])),(1,1,(yV 7))]),yI 9 (.lit 79 4 [(yV 8)]),yI 10 (.lit 3 1 [(yK 3)]),yI 11 (.build [ye,(.own 1 []),y0,y0,y0] [(0,1,(yS [112,97,114,116])),(1,1,(yV 10)),(2,1,(yK 1))]),yI 12 (.lit 105 5 [(yV 11)]),yI 13 (.build [y0,ye,ye] [(0,1,(yK 1)),(1,1,(yS [99,114,101,97,116,101,100])),(2,1,(yS [112,97,114,116]))]),yI 14 (.build [y0,ye,ye] [(0,1,(.const (.int .i64 (-1)))),(1,1,(yS [105,110,115,105,100,101])),(2,1,(yS [112,97,114,116]))]),yI 15 (.lita 54 3 [(yV 13),(yV 14)]),yI 16 (.build [ye,(.own 3 []),y0] [(0,1,(yS [112,97,114,116,115])),(1,1,(yV 15))]),yI 17 (.lita 57 3 [(yV 16)]),yI 18 (.build [ye,(.own 3 []),(.own 17 []),(.own 3 []),(.own 3 []),(.own 1 []),(.own 1 []),(.own 1 []),(.own 1 []),(.own 1 []),(.own 4 []),(.own 5 []),(.own 3 [])] [(0,1,(yS [112,108,97,110,116])),(2,1,(yV 3)),(5,1,(yV 4)),(9,1,(yV 5)),(10,1,(yV 9)),(11,1,(yV 12)),(12,1,(yV 17))]),yI 1 (.mk 42 [ye,(.own 3 []),(.own 17 []),(.own 3 []),(.own 3 []),(.own 1 []),(.own 1 []),(.own 1 []),(.own 1 []),(.own 1 []),(.own 4 []),(.own 5 []),(.own 3 [])]),yN (.st 13 (yV 1) (yV 18))] (yQ [yD 19 13 1,yI 20 (.build [ye,(.own 3 []),(.own 17 []),(.own 3 []),(.own 3 []),(.own 1 []),(.own 1 []),(.own 1 []),(.own 1 []),(.own 1 []),(.own 4 []),(.own 5 []),(.own 3 [])] [(0,1,(yS [121,97,114,100]))]),yI 21 (.lita 42 13 [(yV 19),(yV 20)]),yI 22 (.build [ye,ye,y0] [(0,1,(yS [112,108,97,110,116])),(1,1,(yS [121,97,114,100])),(2,1,(yK 4))]),yI 23 (.lita 49 3 [(yV 22)]),yI 24 (.build [ye,(.own 3 []),(.own 13 []),(.own 3 [])] [(0,1,(yS [115,104,111,112])),(2,1,(yV 21)),(3,1,(yV 23))]),yN (.st 4 (yV 0) (yV 24))] yr))
def ZiW:AFn:=⟨25,[.agg 0 4],ZrT,true⟩
theorem ZsZ:cFn Tryz.prog Z44 Tryz.f25=some ZiW:=by kernel_rfl
theorem ZsB:(Tryz.f25.name == "runtime.NumGoroutine")=false:=by kernel_rfl
def Z7P:List (Nat×AFn):=[(25,ZiW)] ++ tab
theorem Z54:∀ p ∈ Z7P,∃ fn takes,Tryz.prog.funcs[p.1]? = some fn∧(fn.name == "runtime.NumGoroutine")=false∧cFn Tryz.prog takes fn=some p.2:=by
 intro p hp
 rcases List.mem_append.1 hp with hp | hp
 ·simp only [List.mem_cons,List.not_mem_nil,or_false] at hp
  rcases hp with rfl | rfl
  ·exact ⟨Tryz.f25,Z44,Tryz.func25,ZsB,ZsZ⟩
 ·exact Z43 p hp
end Go.Proofs.YtlmfmmclnboglaaGreat
end
section
namespace Go.Proofs.YtlmfmmclnboglaaGreat.Abs
open Go Go.RowKit Go.Shelf
open Nat (reduceAdd reduceLeDiff)
def Zz2 (f:FuncId)(k bytes:Nat)(g:FuncId)(args:List AV)(hp:List Z5):Option (AV×List Z5×Eff) :=
 if g=f then
  match args with
  | [.own k' [],.int .i64 n]=>if k'=k∧0≤n∧n.toNat * bytes≤140737488355328∧n.toNat≤140737488355328 then some (.own k [],hp,none) else none
  | _=>none
 else none
theorem Z0K {P:Program}{ρ:Ren}{W0:World}(L:Lays8.n4 P ρ){i0:TypeInfo}{z:Value}(hi0:P.info? (ρ.t 25)=some i0)(hz0:i0.zero=some z)(hzs:z.cells.size=i0.size)(hs0:0 < i0.size) :
  Uf P W0 (Zz2 (ρ.f 4) i0.size i0.bytes):=by
 intro g args hp v hp' e hc Γ w xs hr ht hs hx
 unfold Zz2 at hc
 split at hc
 case isFalse=>cases hc
 rename_i hgf
 subst hgf
 split at hc <;> try (cases hc; done)
 rename_i k' n
 split at hc <;> try (cases hc; done)
 rename_i hh
 obtain ⟨rfl,hn0,hnb,hn47⟩:=hh
 cases hc
 have hI:Inv ⟨W0,Γ,w⟩ ⟨[.own i0.size []],hp,none,hp.length⟩ Γ { tmps := #[xs.getD 0 Go.undef],defers := [] } w:=by
  refine ⟨rfl,⟨rfl,fun t y hy=>?_,fun t y hy=>?_⟩,hr,.refl _ _ _,fun b g hb=>hr.lt b g hb,fun b m g i hb=>ht.cell b m g i hb,Nat.le_refl _,fun _ _ hb _=>hb⟩
  ·cases t with
   | zero=>exact (hx 0 y (by simpa using hy)).1
   | succ t=>simp at hy
  ·cases t with
   | zero=>exact (hx 0 y (by simpa using hy)).2
   | succ t=>simp at hy
 have hx1:xs.getD 1 Go.undef=.int .i64 n:=by
  have:=(hx 1 _ rfl).1
  generalize xs.getD 1 Go.undef=u at this
  cases this; rfl
 have hxs:xs=#[xs.getD 0 Go.undef,xs.getD 1 Go.undef]:=by
  have hs2:xs.size=2:=hs
  refine Array.ext hs2 fun i h1 h2=>?_
  have:i=0∨i=1:=by simp at h2; omega
  rcases this with rfl | rfl <;> simp [Array.getD_eq_getD_getElem?,h1]
 obtain ⟨m,rfl⟩:∃ m:Nat,n=m:=⟨n.toNat,by omega⟩
 simp only [Int.toNat_natCast] at hnb hn47
 have hgo:∀ {R:Value→World→Prop},Calls P (ρ.f 4) xs w (fun e w''=>∃ v,e=.returned v∧R v w'')→Z45 P (ρ.f 4) xs w R:=fun h=>by
  obtain ⟨nm,hn,hf⟩:=L.f4
  exact ⟨ZlP hf hn rfl xs w,h⟩
 have same:∀ {cv:Value} {Γ':QS} {s:Z7} {a:Act} {w':World},s.hp=hp→s.ef=none→s.bs=hp.length→Inv ⟨W0,Γ,w⟩ s Γ' a w'→Rep Γ' w' (.own i0.size []) cv→OwnAt Γ' w' .res (.own i0.size []) cv →
   ∃ Γ',RW W0 Γ' w' hp∧Rep Γ' w' (.own i0.size []) cv∧OwnAt Γ' w' .res (.own i0.size []) cv∧Frame Γ w Γ' w' none∧hp.length≤hp.length∧∀ b g,Γ' b=.own g→g < hp.length→Γ b=.own g:=fun h1 h2 h3 i r o=>⟨_,by rw [← h1]; exact i.rw,r,o,by rw [← h2]; exact i.fr,Nat.le_refl _,fun b g k1 k2=>i.back b g k1 (by rw [h3]; exact k2)⟩
 have hmax:maxLen=9223372036854775807:=rfl
 have new:∀ (c:Nat) (cs:List Value),c < m→cs.length=c * i0.size →
   ∃ Γ',RW W0 Γ' (w.drew.alloc (.cells (cs.toArray ++ Builtin.zeroCells z.cells (0 + m - c) ++ Builtin.zeroCells z.cells (grownCap w (0 + m) c (ρ.t 25) - (0 + m))) (ρ.t 25))) hp ∧
    Rep Γ' (w.drew.alloc (.cells (cs.toArray ++ Builtin.zeroCells z.cells (0 + m - c) ++ Builtin.zeroCells z.cells (grownCap w (0 + m) c (ρ.t 25) - (0 + m))) (ρ.t 25))) (.own i0.size []) (.slice (some ⟨w.heap.size,0,none⟩) 0 (grownCap w (0 + m) c (ρ.t 25))) ∧
    OwnAt Γ' (w.drew.alloc (.cells (cs.toArray ++ Builtin.zeroCells z.cells (0 + m - c) ++ Builtin.zeroCells z.cells (grownCap w (0 + m) c (ρ.t 25) - (0 + m))) (ρ.t 25))) .res (.own i0.size []) (.slice (some ⟨w.heap.size,0,none⟩) 0 (grownCap w (0 + m) c (ρ.t 25))) ∧
    Frame Γ w Γ' (w.drew.alloc (.cells (cs.toArray ++ Builtin.zeroCells z.cells (0 + m - c) ++ Builtin.zeroCells z.cells (grownCap w (0 + m) c (ρ.t 25) - (0 + m))) (ρ.t 25))) none∧hp.length≤hp.length∧∀ b g,Γ' b=.own g→g < hp.length→Γ b=.own g:=by
  intro c cs hcm hcl
  have hge:=grownCap_ge w (0 + m) c (ρ.t 25)
  have hle:=grownCap_le_maxLen w (0 + m) c (ρ.t 25) (by omega)
  obtain ⟨Γ',i1,o1⟩:=ZxA (w := w.drew) hI.drew (k := i0.size) (cap := grownCap w (0 + m) c (ρ.t 25)) (rows := []) (e := ρ.t 25)
   (cur := cs.toArray ++ Builtin.zeroCells z.cells (0 + m - c) ++ Builtin.zeroCells z.cells (grownCap w (0 + m) c (ρ.t 25) - (0 + m))) (Nat.zero_le _) hle (by
    simp only [Array.size_append,List.size_toArray,size_zeroCells,hzs,hcl,← Nat.add_mul]
    congr 1
    omega) (fun r hr=>by cases hr) (fun i j r c hi hj=>by simp at hi)
  exact same rfl rfl rfl i1 (.own _ _ _ (.lstE _ _ _)) o1
 obtain ⟨Γ2,i2,r2,o2⟩:=hI.take 0 (v := .own i0.size []) rfl
 have r2':Rep Γ2 w (.own i0.size []) (xs.getD 0 Go.undef):=r2
 have o2':OwnAt Γ2 w .res (.own i0.size []) (xs.getD 0 Go.undef):=o2
 refine hgo ?_
 rcases (hx 0 _ rfl).2 _ _ rfl with ⟨h1,_⟩ | ⟨b,cap,e0,cur,h1,hg,hh,h2,h3,h4,_⟩
 ·rw [hxs,hx1]
  rw [h1] at r2' o2' ⊢
  rcases Nat.eq_zero_or_pos m with hm | hm
  ·subst hm
   refine (Any8.slices_Grow_room L none 0 0 0 w (by omega) (by omega) (by omega) (by omega)).mono ?_
   rintro e w' ⟨rfl,rfl⟩
   exact ⟨_,rfl,same (s := Z7.let_ ⟨[.own i0.size []],hp,none,hp.length⟩ 0) rfl rfl rfl i2 r2' o2'⟩
  ·refine (Any8.slices_Grow_grow L i0 z hi0 hz0 hs0 none 0 0 m [] w (by omega) (by omega) (by simpa using hnb) (by omega) (by simp) (fun _=>rfl) (fun a ha=>by cases ha)).mono ?_
   rintro e w' ⟨rfl,rfl⟩
   exact ⟨_,rfl,new 0 [] hm (by simp)⟩
 ·have h1:xs.getD 0 Go.undef=.slice (some ⟨b,0,none⟩) 0 cap:=h1
  rw [hxs,hx1]
  rw [h1] at r2' o2' ⊢
  rcases Nat.lt_or_ge cap m with hm | hm
  ·refine (Any8.slices_Grow_grow L i0 z hi0 hz0 hs0 (some ⟨b,0,none⟩) 0 cap m cur.toList w (by omega) (by omega) (by simpa using hnb) (by omega) (by simpa using h4) (fun h=>by cases h) (fun a ha j v hj=>?_)).mono ?_
   ·cases ha
    rw [Array.getElem?_toList] at hj
    have hj':(if j=0 then (⟨b,0,none⟩:Addr) else ⟨b,j,none⟩)=⟨b,j,none⟩:=by
     split
     ·rename_i h0; rw [h0]
     ·rfl
    simp [World.cell?,Addr.add,hj',hh,hj]
   ·rintro e w' ⟨rfl,rfl⟩
    exact ⟨_,rfl,new cap cur.toList hm (by simpa using h4)⟩
  ·refine (Any8.slices_Grow_room L (some ⟨b,0,none⟩) 0 cap m w (by omega) (by omega) (by omega) (by omega)).mono ?_
   rintro e w' ⟨rfl,rfl⟩
   exact ⟨_,rfl,same (s := Z7.let_ ⟨[.own i0.size []],hp,none,hp.length⟩ 0) rfl rfl rfl i2 r2' o2'⟩
end Go.Proofs.YtlmfmmclnboglaaGreat.Abs
end
