import Derived.Test.YtleomfgijkapfaaGreatDoorU19
set_option linter.all false
section
namespace Go.Proofs.YtleomfgijkapfaaGreatDoor
open Go Go.RowKit Go.Proofs.YtleomfgijkapfaaGreatDoor.Abs Go.Proofs.YtleomfgijkapfaaGreatDoor.Tl
set_option maxRecDepth 100000
def orK (f:FuncId)(args:List AV):Option AV:=if f=O1 then (match args with | []=>some (.bool true) | _=>none) else none
theorem ZpJ {W0:World}(hG:GOk GF W0):∀ f args v,orK f args=some v→U6 Tryz.prog W0 f args v:=by
 intro f args v h
 unfold orK at h
 split at h
 ·rename_i e; subst e
  split at h <;> cases h
  refine ⟨fun _ _ h=>(by cases h),fun Γ w xs hb hΓ hs hx=>?_⟩
  have hxs:xs=#[]:=Array.eq_empty_of_size_eq_zero hs
  subst hxs
  refine YG Tryz.func10 (by kernel_rfl) rfl ((ZmL (ZbN hG hb)).mono ?_)
  rintro e w' ⟨rfl,hb'⟩
  exact ⟨_,rfl,hb',.bool true⟩
 ·cases h
def orT (f:FuncId)(args:List AV):Option AV:=if f=40∨f=92 then (match args with
 | [.int .i64 n]=>if -9223372036854775808≤n∧n≤9223372036854775807 then some (.str (Lib.itoa n)) else none
 | _=>none) else none
theorem ZpK {W0:World}(hL:Num.Laid W0):∀ f args v,orT f args=some v→U6 Tryz.prog W0 f args v:=by
 intro f args v h
 unfold orT at h
 split at h
 ·rename_i e
  split at h
  ·rename_i n
   split at h <;> cases h
   rename_i hn
   refine ⟨fun _ _ h=>(by cases h),fun Γ w xs hb hΓ hs hx=>?_⟩
   obtain ⟨x,rfl⟩:=xs1 hs
   obtain rfl:x=_:=Zok (hx 0 _ rfl)
   rcases e with rfl | rfl
   ·refine YG Tryz.func40 (by kernel_rfl) rfl ((Num.c_text n hn.1 hn.2 w (hL.below hb)).mono ?_)
    rintro e w' ⟨rfl,hb'⟩
    exact ⟨_,rfl,hb',.str _⟩
   ·refine YG Tryz.func92 (by kernel_rfl) rfl ((Num.c_rtext _ n w (Nat.le_refl _) hn.1 hn.2).mono ?_)
    rintro e w' ⟨rfl,rfl⟩
    exact ⟨_,rfl,Below.refl _ _,.str _⟩
  ·cases h
 ·cases h
noncomputable def O2 (f:FuncId)(args:List AV)(hp:List Zp):Option (AV×List Zp×Eff) :=
 if f=10 then (orK f args).map fun v=>(v,hp,none)
 else if f=38 then wsO f args hp
 else if f=44 then wbO f args hp
 else if f=45 then Zov f args hp
 else if f=88 then (orJ f args).map fun v=>(v,hp,none)
 else if f=40∨f=92 then (orT f args).map fun v=>(v,hp,none)
 else Zii 223 2 24 f args hp
theorem ZqD {W0:World}(hG:GOk GF W0)(hL:Num.Laid W0):Z5 Tryz.prog W0 O2:=by
 intro f args hp v hp' e ho Γ w xs hr ht hs hx
 unfold O2 at ho
 split at ho
 ·exact WG (ZpJ hG) f args hp v hp' e ho Γ w xs hr ht hs hx
 split at ho
 ·exact Zm7 W0 f args hp v hp' e ho Γ w xs hr ht hs hx
 split at ho
 ·exact Zm5 W0 f args hp v hp' e ho Γ w xs hr ht hs hx
 split at ho
 ·exact Zow W0 f args hp v hp' e ho Γ w xs hr ht hs hx
 split at ho
 ·exact WG (Zmo W0) f args hp v hp' e ho Γ w xs hr ht hs hx
 split at ho
 ·exact WG (ZpK hL) f args hp v hp' e ho Γ w xs hr ht hs hx
 ·exact Zmj W0 f args hp v hp' e ho Γ w xs hr ht hs hx
noncomputable def C2 (L:Nat):Cfg:=⟨GF,cT,O2,L + 64⟩
theorem ZqA {W0:World}(hG:GOk GF W0)(hL:Num.Laid W0)(L:Nat):ZaV Tryz.prog W0 (C2 L) where
 mixed:=by kernel_rfl
 globals:=hG
 table:=fun f af h=>by
  have h:(tab.find? (·.1 == f)).map (·.2)=some af:=h
  obtain ⟨p,hp,rfl⟩:=Option.map_eq_some_iff.1 h
  have hf:=List.find?_some hp
  have:p.1=f:=by simpa using hf
  subst this
  exact Zmy p (List.mem_of_find?_eq_some hp)
 oracle:=ZqD hG hL
theorem ZhY {L n:Nat}{f:FuncId}{args:List AV}{hp:List Zp}(h:(cT f).isNone=true):Zy (C2 L) (n + 1) f args hp=O2 f args hp:=by
 rw [Zy]
 show (match cT f with | some fn=>_ | none=>O2 f args hp)=_
 rw [Option.isNone_iff_eq_none.1 h]
theorem Zq9 (L:Nat):St (C2 L) L where
 L:=rfl
 G:=Zr7
 T:=fun f a h=>h
 grow:=fun m n hp h1 h2=>by
  rw [ZhY (by kernel_rfl)]
  show (if (2:Nat)=2∧0≤n∧n.toNat * 24≤140737488355328∧n.toNat≤140737488355328 then some (AV.own 2 [],hp,none) else none)=(some (AV.own 2 [],hp,none):Option (AV×List Zp×Eff))
  rw [if_pos ⟨rfl,h1,by omega,by omega⟩]
 awake:=fun m hp=>by rw [ZhY (by kernel_rfl)]; rfl
 text:=fun m n hp h=>by
  rw [ZhY (by kernel_rfl)]
  show Option.map (fun v=>(v,hp,none)) (if -9223372036854775808≤n∧n≤9223372036854775807 then some (AV.str (Lib.itoa n)) else none)=_
  rw [if_pos h]; rfl
 rtext:=fun m n hp h=>by
  rw [ZhY (by kernel_rfl)]
  show Option.map (fun v=>(v,hp,none)) (if -9223372036854775808≤n∧n≤9223372036854775807 then some (AV.str (Lib.itoa n)) else none)=_
  rw [if_pos h]; rfl
 join:=fun m a l s hp ha h=>by
  rw [ZhY (by kernel_rfl)]
  show Option.map (fun v=>(v,hp,none)) (orJ 88 [a,.str s])=_
  have:orJ 88 [a,.str s]=some (.str (Lib.join l s)):=by
   unfold orJ
   rw [if_pos rfl]
   simp only [ha,Zgd,if_pos h]
  rw [this]; rfl
 buf:={
  ws0 := fun n p s hp h hs=>by
   rw [ZhY (by kernel_rfl)]
   show wsO 38 [.ptr p 0,.str s] hp=_
   simp only [wsO,if_true,h,Zbw,List.length_nil,Nat.zero_add,if_pos hs,List.nil_append]
  ws1:=fun n p s l hp h hs=>by
   rw [ZhY (by kernel_rfl)]
   show wsO 38 [.ptr p 0,.str s] hp=_
   simp only [wsO,if_true,h,Zbw,and_self,if_pos hs]
  wb0:=fun n p c hp h hc=>by
   rw [ZhY (by kernel_rfl)]
   show wbO 44 [.ptr p 0,.int .u8 c] hp=_
   simp only [wbO,if_true,h,Zbw,List.length_nil,Nat.zero_add,List.nil_append]
   rw [if_pos ⟨by omega,hc.1,hc.2⟩]
  wb1:=fun n p c l hp h hl hc=>by
   rw [ZhY (by kernel_rfl)]
   show wbO 44 [.ptr p 0,.int .u8 c] hp=_
   simp only [wbO,if_true,h,Zbw,and_self]
   rw [if_pos ⟨hl,hc.1,hc.2⟩]
  sb0:=fun n p hp h=>by
   rw [ZhY (by kernel_rfl)]
   show Zov 45 [.ptr p 0] hp=_
   simp only [Zov,if_true,h]
  sb1:=fun p l hp h hl=>⟨.cells [.ptr p 0,.lst 1 (l.map byteRow)] 93,fun n=>by
   rw [ZhY (by kernel_rfl)]
   show Zov 45 [.ptr p 0] hp=_
   simp only [Zov,if_true,h,Zql,ne_eq,hl,not_false_eq_true,and_self]⟩ }
theorem Znr {C:Cfg}{f:FuncId}{sig:List SD}{q:RTy tT sig→Option Bool}(h:QR C ⟨f,sig,fun x=>.par ((.one .bool:RD).Ty tT) (q x) ((.one .bool:RD).tv tT)⟩)(x:RTy tT sig)(avs:List AV)(hl:LR [] (tvL tT sig x) avs)(hq:q x=some true):∃ n,Zy C n f avs []=some (.bool true,[],none):=by
 obtain ⟨a,h1,n,h2⟩:=h x [] avs hl true hq
 have h3:=h1 []
 have:a=.bool true:=by
  cases h3 with | av v a h =>
   rcases h with h | h
   ·exact h
   ·cases a <;> cases h; rfl
 subst this
 exact ⟨n,h2 n (Nat.le_refl _)⟩
theorem ZiA {k:Nat}(x:tT.D k){l:List (TV tT)}{cs:List AV}(h:LR [] l cs):LR [] (.row k x :: l) (.agg (tT.row k x) :: cs):=.cons _ _ (.row k x _ (Wh.ro k x)) _ _ h
end Go.Proofs.YtleomfgijkapfaaGreatDoor
end
section
namespace Go.Proofs.YtleomfgijkapfaaGreatDoor
open Go Go.RowKit Go.Proofs.YtleomfgijkapfaaGreatDoor.Abs
set_option maxRecDepth 100000
set_option maxHeartbeats 0
def CY {H:Type}(x:JD):DataW H:=.agg [.lit (.string x.word),.lit (.int .i64 x.a),.lit (.int .i64 x.b),.lit (.bool x.c),.lit (.bool x.e),.lit (.bool x.f),.lit (.bool x.args),.lit (.bool x.dist),.lit (.bool x.preempt)]
theorem Znq {H:Type}:(Rows.laid_simulator_code_forms:DataW H)=.slice (Qb.map CY) []:=rfl
theorem Zky {H:Type}{n:Nat}{r:List AV}{x:JD}(h:Shp Tryz.prog (n + 2) 97 r (CY x:DataW H)):r=Zeu x:=by
 obtain ⟨hl,ds,e,_,hf⟩:=h.struct Tryz.underlying97
 rw [show Tryz.prog.cellsOf 97=9 from by kernel_rfl] at hl
 have hds:ds=[.lit (.string x.word),.lit (.int .i64 x.a),.lit (.int .i64 x.b),.lit (.bool x.c),.lit (.bool x.e),.lit (.bool x.f),.lit (.bool x.args),.lit (.bool x.dist),.lit (.bool x.preempt)]:=by unfold CY at e; injection e with e; exact e.symm
 subst hds
 obtain ⟨c0,r0,rfl,hl0⟩:=ZbT hl
 obtain ⟨c1,r1,rfl,hl1⟩:=ZbT hl0
 obtain ⟨c2,r2,rfl,hl2⟩:=ZbT hl1
 obtain ⟨c3,r3,rfl,hl3⟩:=ZbT hl2
 obtain ⟨c4,r4,rfl,hl4⟩:=ZbT hl3
 obtain ⟨c5,r5,rfl,hl5⟩:=ZbT hl4
 obtain ⟨c6,r6,rfl,hl6⟩:=ZbT hl5
 obtain ⟨c7,r7,rfl,hl7⟩:=ZbT hl6
 obtain ⟨c8,r8,rfl,hl8⟩:=ZbT hl7
 obtain rfl:=List.eq_nil_of_length_eq_zero hl8
 obtain ⟨d0,q0,s0⟩:=hf 0 _ rfl
 obtain rfl:=Option.some.inj q0
 replace s0:Shp Tryz.prog (n + 1) 9 (([c0,c1,c2,c3,c4,c5,c6,c7,c8].drop 0).take (Tryz.prog.cellsOf 9)) _:=s0
 rw [show Tryz.prog.cellsOf 9=1 from by kernel_rfl] at s0
 replace s0:Shp Tryz.prog (n + 1) 9 [c0] ((.lit (.string x.word):DataW H)):=s0
 obtain ⟨v0,a0,b0,_⟩:=s0.str Tryz.underlying9
 injection b0 with b0; injection b0 with b0; injection a0 with a0
 obtain ⟨d1,q1,s1⟩:=hf 1 _ rfl
 obtain rfl:=Option.some.inj q1
 replace s1:Shp Tryz.prog (n + 1) 95 (([c0,c1,c2,c3,c4,c5,c6,c7,c8].drop 1).take (Tryz.prog.cellsOf 95)) _:=s1
 rw [show Tryz.prog.cellsOf 95=1 from by kernel_rfl] at s1
 replace s1:Shp Tryz.prog (n + 1) 95 [c1] ((.lit (.int .i64 x.a):DataW H)):=s1
 obtain ⟨v1,a1,b1,_⟩:=s1.int Tryz.underlying95
 injection b1 with b1; injection b1 with _ b1; injection a1 with a1
 obtain ⟨d2,q2,s2⟩:=hf 2 _ rfl
 obtain rfl:=Option.some.inj q2
 replace s2:Shp Tryz.prog (n + 1) 95 (([c0,c1,c2,c3,c4,c5,c6,c7,c8].drop 2).take (Tryz.prog.cellsOf 95)) _:=s2
 rw [show Tryz.prog.cellsOf 95=1 from by kernel_rfl] at s2
 replace s2:Shp Tryz.prog (n + 1) 95 [c2] ((.lit (.int .i64 x.b):DataW H)):=s2
 obtain ⟨v2,a2,b2,_⟩:=s2.int Tryz.underlying95
 injection b2 with b2; injection b2 with _ b2; injection a2 with a2
 obtain ⟨d3,q3,s3⟩:=hf 3 _ rfl
 obtain rfl:=Option.some.inj q3
 replace s3:Shp Tryz.prog (n + 1) 4 (([c0,c1,c2,c3,c4,c5,c6,c7,c8].drop 3).take (Tryz.prog.cellsOf 4)) _:=s3
 rw [show Tryz.prog.cellsOf 4=1 from by kernel_rfl] at s3
 replace s3:Shp Tryz.prog (n + 1) 4 [c3] ((.lit (.bool x.c):DataW H)):=s3
 obtain ⟨v3,a3,b3⟩:=s3.bool Tryz.underlying4
 injection b3 with b3; injection b3 with b3; injection a3 with a3
 obtain ⟨d4,q4,s4⟩:=hf 4 _ rfl
 obtain rfl:=Option.some.inj q4
 replace s4:Shp Tryz.prog (n + 1) 4 (([c0,c1,c2,c3,c4,c5,c6,c7,c8].drop 4).take (Tryz.prog.cellsOf 4)) _:=s4
 rw [show Tryz.prog.cellsOf 4=1 from by kernel_rfl] at s4
 replace s4:Shp Tryz.prog (n + 1) 4 [c4] ((.lit (.bool x.e):DataW H)):=s4
 obtain ⟨v4,a4,b4⟩:=s4.bool Tryz.underlying4
 injection b4 with b4; injection b4 with b4; injection a4 with a4
 obtain ⟨d5,q5,s5⟩:=hf 5 _ rfl
 obtain rfl:=Option.some.inj q5
 replace s5:Shp Tryz.prog (n + 1) 4 (([c0,c1,c2,c3,c4,c5,c6,c7,c8].drop 5).take (Tryz.prog.cellsOf 4)) _:=s5
 rw [show Tryz.prog.cellsOf 4=1 from by kernel_rfl] at s5
 replace s5:Shp Tryz.prog (n + 1) 4 [c5] ((.lit (.bool x.f):DataW H)):=s5
 obtain ⟨v5,a5,b5⟩:=s5.bool Tryz.underlying4
 injection b5 with b5; injection b5 with b5; injection a5 with a5
 obtain ⟨d6,q6,s6⟩:=hf 6 _ rfl
 obtain rfl:=Option.some.inj q6
 replace s6:Shp Tryz.prog (n + 1) 4 (([c0,c1,c2,c3,c4,c5,c6,c7,c8].drop 6).take (Tryz.prog.cellsOf 4)) _:=s6
 rw [show Tryz.prog.cellsOf 4=1 from by kernel_rfl] at s6
 replace s6:Shp Tryz.prog (n + 1) 4 [c6] ((.lit (.bool x.args):DataW H)):=s6
 obtain ⟨v6,a6,b6⟩:=s6.bool Tryz.underlying4
 injection b6 with b6; injection b6 with b6; injection a6 with a6
 obtain ⟨d7,q7,s7⟩:=hf 7 _ rfl
 obtain rfl:=Option.some.inj q7
 replace s7:Shp Tryz.prog (n + 1) 4 (([c0,c1,c2,c3,c4,c5,c6,c7,c8].drop 7).take (Tryz.prog.cellsOf 4)) _:=s7
 rw [show Tryz.prog.cellsOf 4=1 from by kernel_rfl] at s7
 replace s7:Shp Tryz.prog (n + 1) 4 [c7] ((.lit (.bool x.dist):DataW H)):=s7
 obtain ⟨v7,a7,b7⟩:=s7.bool Tryz.underlying4
 injection b7 with b7; injection b7 with b7; injection a7 with a7
 obtain ⟨d8,q8,s8⟩:=hf 8 _ rfl
 obtain rfl:=Option.some.inj q8
 replace s8:Shp Tryz.prog (n + 1) 4 (([c0,c1,c2,c3,c4,c5,c6,c7,c8].drop 8).take (Tryz.prog.cellsOf 4)) _:=s8
 rw [show Tryz.prog.cellsOf 4=1 from by kernel_rfl] at s8
 replace s8:Shp Tryz.prog (n + 1) 4 [c8] ((.lit (.bool x.preempt):DataW H)):=s8
 obtain ⟨v8,a8,b8⟩:=s8.bool Tryz.underlying4
 injection b8 with b8; injection b8 with b8; injection a8 with a8
 rw [a0,a1,a2,a3,a4,a5,a6,a7,a8,← b0,← b1,← b2,← b3,← b4,← b5,← b6,← b7,← b8]
 rfl
theorem Zkz {W:World}{rest:List (String×DataW Unit)}(h:laidMet Tryz.prog (("simulator/code.forms",Rows.laid_simulator_code_forms) :: rest) W):GOk GF W:=by
 obtain ⟨ps,⟨g',t',cs,fuel,p,q,hg',ht',hvar,hd,_,_⟩,_⟩:=h
 obtain rfl:0=g':=Option.some.inj ((show Tryz.prog.globalNamed "simulator/code.forms" = some 0 by kernel_rfl).symm.trans hg')
 obtain rfl:98=t':=Option.some.inj ((show (Tryz.prog.globals[0]?).map (·.type)=some 98 by kernel_rfl).symm.trans ht')
 obtain ⟨az,s,hl,hr⟩:=PE (Γ := fun _=>.imm) (fun _=>rfl) 4 fuel 98 cs.toList (Rows.laid_simulator_code_forms,p) (by kernel_rfl) hd (fun y hy=>by
  have:((Rows.laid_simulator_code_forms:DataW Unit).weights Tryz.prog 98).all (fun y=>decide (y≤reachBytes))=true:=by kernel_rfl
  exact of_decide_eq_true (List.all_eq_true.1 this y hy))
 obtain ⟨rows,rfl,_,h3⟩:=(Shp.mk s).slice Tryz.underlying98
 have hrows:rows=Qb.map Zeu:=by
  rw [Znq] at h3
  rcases h3 with ⟨_,h⟩ | ⟨D,ds,spare,e1,e2,e3⟩
  ·cases h
  ·injection e1 with e1 _
   subst e1
   have hlen:rows.length=Qb.length:=by have:=congrArg List.length e2; simpa using this.symm
   refine List.ext_getElem? fun i=>?_
   rcases Nat.lt_or_ge i rows.length with hi | hi
   ·have hi':i < Qb.length:=by omega
    have hD:CY Qb[i]=D i:=by
     have:=congrArg (fun l:List (DataW Unit)=>l[i]?) e2
     simpa [hi,hi'] using this
    have h4:=e3 i rows[i] (List.getElem?_eq_getElem hi)
    rw [← hD] at h4
    rw [List.getElem?_eq_getElem hi,List.getElem?_map,List.getElem?_eq_getElem hi',Zky h4]; rfl
   ·rw [List.getElem?_eq_none hi,List.getElem?_eq_none (by rw [List.length_map]; omega)]
 subst hrows
 have h9:Tryz.prog.cellsOf 97=9:=by kernel_rfl
 rw [h9] at hr hl
 have hlt:0 < W.heap.size:=by
  rcases Nat.lt_or_ge 0 W.heap.size with h | h
  ·exact h
  ·have:=World.var?_cell (show Tryz.prog.globalNamed "simulator/code.forms" = some 0 by kernel_rfl) hvar 0
   rw [World.cell?,Array.getElem?_eq_none h] at this
   have hz:cs.size=1:=by simpa using hl.symm
   simp [hz] at this
 intro g cells hg
 unfold GF at hg
 split at hg <;> cases hg
 rename_i e; subst e
 refine ⟨hlt,fun j c hc=>?_⟩
 obtain ⟨k1,k2,k3,k4⟩:=hr j c hc
 have hj:j=0:=by have:=Ze hc; simp at this; omega
 subst hj
 have hz:cs.size=1:=by simpa using hl.symm
 refine ⟨_,?_,k3,k1⟩
 rw [World.var?_cell (show Tryz.prog.globalNamed "simulator/code.forms" = some 0 by kernel_rfl) hvar 0]
 simp [hz,List.getD]
end Go.Proofs.YtleomfgijkapfaaGreatDoor
end
section
namespace Go.Proofs.YtleomfgijkapfaaGreatDoor
open Go Go.Proofs.YtleomfgijkapfaaGreatDoor.Abs Go.Proofs.YtleomfgijkapfaaGreatDoor.Tl
set_option maxRecDepth 100000
theorem Zfb (u:Nat)(h:u < 10):Lib.decDigits u=[UInt8.ofNat (48 + u)]:=by rw [Lib.decDigits,dif_pos h]
theorem ZlS (u:Nat)(h:¬ u < 10):Lib.decDigits u=Lib.decDigits (u / 10) ++ [UInt8.ofNat (48 + u % 10)]:=by rw [Lib.decDigits,dif_neg h]
def dv (l:List UInt8):Nat:=l.foldl (fun v c=>v * 10 + (c.toNat - 48)) 0
theorem Zkn (d:Nat)(h:d < 10):(UInt8.ofNat (48 + d)).toNat=48 + d:=by rw [UInt8.toNat_ofNat']; omega
theorem Zpa (n:Nat):dv (Lib.decDigits n)=n:=by
 induction n using Nat.strongRecOn with
 | ind n ih =>
  by_cases h:n < 10
  ·rw [Zfb n h,dv]; simp only [List.foldl_cons,List.foldl_nil,Zkn n h]; omega
  ·have:=ih (n / 10) (by omega)
   rw [dv] at this
   rw [ZlS n h,dv,List.foldl_append,this]; simp only [List.foldl_cons,List.foldl_nil,Zkn (n % 10) (by omega)]; omega
theorem ZoX (n:Nat):∀ c ∈ Lib.decDigits n,48≤c.toNat∧c.toNat≤57:=by
 induction n using Nat.strongRecOn with
 | ind n ih =>
  intro c hc
  by_cases h:n < 10
  ·rw [Zfb n h,List.mem_singleton] at hc; subst hc; rw [Zkn n h]; omega
  ·rw [ZlS n h] at hc
   rcases List.mem_append.1 hc with hc | hc
   ·exact ih (n / 10) (by omega) c hc
   ·rw [List.mem_singleton] at hc; subst hc; rw [Zkn (n % 10) (by omega)]; omega
def ZoD (c:UInt8):Bool:=decide (c=45) || (decide (48≤c.toNat) && decide (c.toNat≤57))
theorem Ziu (a:Int):∀ c ∈ Lib.itoa a,ZoD c=true:=by
 have key:∀ n,∀ c ∈ Lib.decDigits n,ZoD c=true:=fun n c hc=>by
  have:=ZoX n c hc
  unfold ZoD; simp [this.1,this.2]
 intro c hc
 unfold Lib.itoa at hc
 split at hc
 ·rcases List.mem_cons.1 hc with rfl | hc
  ·decide
  ·exact key _ c hc
 ·exact key _ c hc
theorem ZkF {a b:Int}(h:Lib.itoa a=Lib.itoa b):a=b:=by
 have nd:∀ (n m:Nat),Lib.decDigits n=Lib.decDigits m→n=m:=fun n m h=>by rw [← Zpa n,← Zpa m,h]
 have nm:∀ (n m:Nat),45 :: Lib.decDigits n≠Lib.decDigits m:=fun n m h=>by
  have:=ZoX m 45 (by rw [← h]; exact List.mem_cons_self ..)
  exact absurd this.1 (by decide)
 unfold Lib.itoa at h
 split at h <;> split at h
 ·have:=nd _ _ (List.cons.inj h).2; omega
 ·exact absurd h (nm _ _)
 ·exact absurd h.symm (nm _ _)
 ·have:=nd _ _ h; omega
theorem ZaG {P:UInt8→Bool}:∀ {u v:List UInt8} {c d:UInt8} {r s:List UInt8},(∀ x ∈ u,P x=true)→(∀ x ∈ v,P x=true)→P c=false→P d=false→u ++ c :: r=v ++ d :: s→u=v∧c=d∧r=s
 | [],[],c,d,r,s,_,_,_,_,h=>by cases h; exact ⟨rfl,rfl,rfl⟩
 | [],y :: v,c,d,r,s,_,hv,hc,_,h=>by
  injection h with h1 h2
  rw [h1,hv y (List.mem_cons_self ..)] at hc; cases hc
 | x :: u,[],c,d,r,s,hu,_,_,hd,h=>by
  injection h with h1 h2
  rw [← h1,hu x (List.mem_cons_self ..)] at hd; cases hd
 | x :: u,y :: v,c,d,r,s,hu,hv,hc,hd,h=>by
  injection h with h1 h2
  obtain ⟨rfl,e2,e3⟩:=ZaG (fun z hz=>hu z (List.mem_cons_of_mem _ hz)) (fun z hz=>hv z (List.mem_cons_of_mem _ hz)) hc hd h2
  exact ⟨by rw [h1],e2,e3⟩
def Bare (X:List UInt8):Prop:=∃ c r,X=c :: r∧ZoD c=false
theorem bare {c:UInt8}{r:List UInt8}(h:ZoD c=false):Bare (c :: r):=⟨c,r,rfl,h⟩
theorem VO {a b:Int}{X Y:List UInt8}(hX:Bare X)(hY:Bare Y)(h:Lib.itoa a ++ X=Lib.itoa b ++ Y):a=b∧X=Y:=by
 obtain ⟨c,r,rfl,hc⟩:=hX
 obtain ⟨d,s,rfl,hd⟩:=hY
 obtain ⟨e1,e2,e3⟩:=ZaG (Ziu a) (Ziu b) hc hd h
 exact ⟨ZkF e1,by rw [e2,e3]⟩
theorem Zmi {o:Int}{a:List UInt8}{n:Int}{ks:List Zg}(h:Qc true ⟨o,a,n,ks⟩=0):a=[]∧Xx true ks=0:=by
 rw [Qc] at h
 by_cases c:Nq true ⟨o,a,n,ks⟩=0
 ·rw [if_neg (by simp [c])] at h
  refine ⟨?_,h⟩
  unfold Nq at c
  split at c
  ·cases c
  rename_i q
  by_cases e:a=[]
  ·exact e
  ·exfalso
   apply q
   by_cases e3:o=3
   ·simp [Nj,e3]
   ·simp [AZ,e3,e]
 ·rw [if_pos (by simp [c])] at h; exact absurd h c
theorem ZiK {x:Zg}{l:List Zg}(h:Xx true (x :: l)=0):Qc true x=0∧Xx true l=0:=by
 rw [Xx] at h
 by_cases c:Qc true x=0
 ·rw [if_neg (by simp [c])] at h; exact ⟨c,h⟩
 ·rw [if_pos (by simp [c])] at h; exact absurd h c
theorem Fb (l:List Zg){c:UInt8}{r:List UInt8}(h:ZoD c=false):Bare (ZW l ++ c :: r):=by
 cases l with
 | nil=>rw [ZW]; exact bare h
 | cons x l=>rw [ZW]; exact bare (by decide)
mutual
theorem ZkS:∀ (a b:Zg) (r s:List UInt8),Qc true a=0→Qc true b=0→Jq a ++ r=Jq b ++ s→a=b∧r=s
 | ⟨o,n,v,ks⟩,⟨o',n',v',ks'⟩,r,s,ha,hb,h=>by
  obtain ⟨rfl,ka⟩:=Zmi ha
  obtain ⟨rfl,kb⟩:=Zmi hb
  rw [Jq,Jq] at h
  simp only [List.cons_append,List.append_assoc,List.nil_append] at h
  obtain ⟨rfl,h2⟩:=VO (bare (c := 32) (by decide)) (bare (c := 32) (by decide)) (List.cons.inj h).2
  obtain ⟨rfl,h3⟩:=VO (Fb ks (c := 41) (by decide)) (Fb ks' (c := 41) (by decide)) (List.cons.inj h2).2
  obtain ⟨rfl,h4⟩:=Ns ks ks' 41 41 r s ka kb (by decide) (by decide) h3
  exact ⟨rfl,(List.cons.inj h4).2⟩
theorem Ns:∀ (l m:List Zg) (c d:UInt8) (r s:List UInt8),Xx true l=0→Xx true m=0→c≠32→d≠32→ZW l ++ c :: r=ZW m ++ d :: s→l=m∧c :: r=d :: s
 | [],[],c,d,r,s,_,_,_,_,h=>by rw [ZW] at h; exact ⟨rfl,h⟩
 | [],y :: m,c,d,r,s,_,_,hc,_,h=>by
  rw [ZW,ZW] at h
  exact absurd (List.cons.inj h).1 hc
 | x :: l,[],c,d,r,s,_,_,_,hd,h=>by
  rw [ZW,ZW] at h
  exact absurd (List.cons.inj h).1.symm hd
 | x :: l,y :: m,c,d,r,s,ha,hb,hc,hd,h=>by
  obtain ⟨a1,a2⟩:=ZiK ha
  obtain ⟨b1,b2⟩:=ZiK hb
  rw [ZW,ZW] at h
  simp only [List.cons_append,List.append_assoc] at h
  obtain ⟨rfl,h2⟩:=ZkS x y _ _ a1 b1 (List.cons.inj h).2
  obtain ⟨rfl,h3⟩:=Ns l m c d r s a2 b2 hc hd h2
  exact ⟨rfl,h3⟩
end
end Go.Proofs.YtleomfgijkapfaaGreatDoor
end
section
namespace Go.Proofs.YtleomfgijkapfaaGreatDoor
open Go Go.Proofs.YtleomfgijkapfaaGreatDoor.Abs Go.Proofs.YtleomfgijkapfaaGreatDoor.Tl
set_option maxRecDepth 100000
theorem Zf1 {α β:Type}{l:List α}{m:List β}(h:(l.length:Int) + m.length=0):l=[]∧m=[]:=⟨List.eq_nil_of_length_eq_zero (by omega),List.eq_nil_of_length_eq_zero (by omega)⟩
theorem ZoZ (d:ZX)(h:XJ d=0) :
  (d.Op=1∧d.B=0∧d.N=0∧d.Values=[]∧d.Weights=[]∧OU d=[99,111,110,115,116] ++ argX [d.A]) ∨
  (d.Op=2∧d.N=0∧d.Values=[]∧d.Weights=[]∧OU d=[117,110,105,102,111,114,109] ++ argX [d.A,d.B]) ∨
  (d.Op=4∧d.Values=[]∧d.Weights=[]∧OU d=[115,117,109] ++ argX [d.N,d.A,d.B]) ∨
  (d.Op=5∧d.N=0∧d.Values=[]∧d.Weights=[]∧OU d=[103,101,111,109] ++ argX [d.A,d.B]) ∨
  (d.Op=3∧d.A=0∧d.B=0∧d.N=0∧d.Values.length=d.Weights.length∧OU d=[116,97,98,108,101] ++ Eg d.Values d.Weights):=by
 have hx:OU d=if decide (d.Op=1)=true then [99,111,110,115,116] ++ argX [d.A] else if decide (d.Op=2)=true then [117,110,105,102,111,114,109] ++ argX [d.A,d.B]
   else if decide (d.Op=4)=true then [115,117,109] ++ argX [d.N,d.A,d.B] else if decide (d.Op=5)=true then [103,101,111,109] ++ argX [d.A,d.B] else [116,97,98,108,101] ++ Eg d.Values d.Weights:=by
  unfold OU; rw [if_neg (by simp [h])]
 have hu:Uh d=true:=by
  unfold XJ at h
  cases q:Uh d
  ·rw [q] at h; simp at h
  ·rfl
 unfold Uh at hu
 by_cases h1:d.Op=1
 ·simp [h1] at hu hx
  obtain ⟨a,b⟩:=Zf1 hu.1.1
  exact .inl ⟨h1,hu.1.2,hu.2,a,b,hx⟩
 by_cases h2:d.Op=2
 ·simp [h2] at hu hx
  obtain ⟨a,b⟩:=Zf1 hu.1
  exact .inr (.inl ⟨h2,hu.2,a,b,hx⟩)
 by_cases h5:d.Op=5
 ·simp [h5] at hu hx
  obtain ⟨a,b⟩:=Zf1 hu.1
  exact .inr (.inr (.inr (.inl ⟨h5,hu.2,a,b,hx⟩)))
 by_cases h4:d.Op=4
 ·simp [h4] at hu hx
  obtain ⟨a,b⟩:=Zf1 hu
  exact .inr (.inr (.inl ⟨h4,a,b,hx⟩))
 by_cases h3:d.Op=3
 ·have:=ZjA h h1 h2 h4 h5
  simp [h3] at hu hx
  exact .inr (.inr (.inr (.inr ⟨h3,hu.1.1,hu.1.2,hu.2,this.1,hx⟩)))
 ·simp [h1,h2,h3,h4,h5] at hu
theorem Zh5 (r:List UInt8):Bare (10 :: r):=bare (by decide)
theorem ZeN (l:List Int)(r:List UInt8):Bare (argX l ++ 10 :: r):=by
 cases l with
 | nil=>rw [argX]; exact Zh5 r
 | cons x l=>rw [argX]; exact bare (by decide)
theorem Pv:∀ (l m:List Int) (r s:List UInt8),l.length=m.length→argX l ++ 10 :: r=argX m ++ 10 :: s→l=m∧r=s
 | [],[],r,s,_,h=>by rw [argX] at h; exact ⟨rfl,(List.cons.inj h).2⟩
 | [],_ :: _,_,_,h,_=>by cases h
 | _ :: _,[],_,_,h,_=>by cases h
 | x :: l,y :: m,r,s,hl,h=>by
  rw [argX,argX] at h
  simp only [List.cons_append,List.append_assoc] at h
  obtain ⟨rfl,h2⟩:=VO (ZeN l r) (ZeN m s) (List.cons.inj h).2
  obtain ⟨rfl,h3⟩:=Pv l m r s (by simpa using hl) h2
  exact ⟨rfl,h3⟩
theorem ZfX (l m:List Int)(r:List UInt8):Bare (Eg l m ++ 10 :: r):=by
 cases l with
 | nil=>simp only [Eg,List.nil_append]; exact Zh5 r
 | cons x l=>cases m with
  | nil=>simp only [Eg,List.nil_append]; exact Zh5 r
  | cons y m=>simp only [Eg,List.cons_append]; exact bare (by decide)
theorem Zj8:∀ (l m l' m':List Int) (r s:List UInt8),l.length=m.length→l'.length=m'.length→Eg l m ++ 10 :: r=Eg l' m' ++ 10 :: s→l=l'∧m=m'∧r=s
 | [],[],[],[],r,s,_,_,h=>by
  simp only [Eg,List.nil_append] at h
  exact ⟨rfl,rfl,(List.cons.inj h).2⟩
 | [],[],x :: l',y :: m',r,s,_,_,h=>by
  simp only [Eg,List.nil_append,List.cons_append] at h
  exact absurd (List.cons.inj h).1 (by decide)
 | x :: l,y :: m,[],[],r,s,_,_,h=>by
  simp only [Eg,List.nil_append,List.cons_append] at h
  exact absurd (List.cons.inj h).1 (by decide)
 | [],_ :: _,_,_,_,_,h,_,_=>by cases h
 | _ :: _,[],_,_,_,_,h,_,_=>by cases h
 | _,_,[],_ :: _,_,_,_,h,_=>by cases h
 | _,_,_ :: _,[],_,_,_,h,_=>by cases h
 | x :: l,y :: m,x' :: l',y' :: m',r,s,hl,hl',h=>by
  simp only [Eg,List.cons_append,List.append_assoc] at h
  obtain ⟨rfl,h2⟩:=VO (bare (c := 58) (by decide)) (bare (c := 58) (by decide)) (List.cons.inj h).2
  obtain ⟨rfl,h3⟩:=VO (ZfX l m r) (ZfX l' m' s) (List.cons.inj h2).2
  obtain ⟨rfl,rfl,h4⟩:=Zj8 l m l' m' r s (by simpa using hl) (by simpa using hl') h3
  exact ⟨rfl,rfl,h4⟩
theorem Zkq (a b:ZX)(ha:XJ a=0)(hb:XJ b=0)(r s:List UInt8)(h:OU a ++ 10 :: r=OU b ++ 10 :: s):a=b∧r=s:=by
 obtain ⟨a1,a2,a3,a4,a5,a6⟩:=a
 obtain ⟨b1,b2,b3,b4,b5,b6⟩:=b
 rcases ZoZ _ ha with ⟨p1,p2,p3,p4,p5,p6⟩ | ⟨p1,p2,p3,p4,p6⟩ | ⟨p1,p2,p3,p6⟩ | ⟨p1,p2,p3,p4,p6⟩ | ⟨p1,p2,p3,p4,p5,p6⟩ <;>
 rcases ZoZ _ hb with ⟨q1,q2,q3,q4,q5,q6⟩ | ⟨q1,q2,q3,q4,q6⟩ | ⟨q1,q2,q3,q6⟩ | ⟨q1,q2,q3,q4,q6⟩ | ⟨q1,q2,q3,q4,q5,q6⟩ <;>
 rw [p6,q6] at h <;> simp only [List.cons_append,List.nil_append] at h <;> try (exact absurd (List.cons.inj h).1 (by decide))
 ·simp only [List.cons.injEq,true_and] at h
  obtain ⟨e,h2⟩:=Pv [_] [_] r s (by rfl) h
  simp at *; simp [*]
 ·simp only [List.cons.injEq,true_and] at h
  obtain ⟨e,h2⟩:=Pv [_,_] [_,_] r s (by rfl) h
  simp at *; simp [*]
 ·simp only [List.cons.injEq,true_and] at h
  obtain ⟨e,h2⟩:=Pv [_,_,_] [_,_,_] r s (by rfl) h
  simp at *; simp [*]
 ·simp only [List.cons.injEq,true_and] at h
  obtain ⟨e,h2⟩:=Pv [_,_] [_,_] r s (by rfl) h
  simp at *; simp [*]
 ·simp only [List.cons.injEq,true_and] at h
  obtain ⟨e1,e2,h2⟩:=Zj8 _ _ _ _ r s p5 q5 h
  simp at *; simp [*]
end Go.Proofs.YtleomfgijkapfaaGreatDoor
end
section
namespace Go.Proofs.YtleomfgijkapfaaGreatDoor
open Go Go.Proofs.YtleomfgijkapfaaGreatDoor.Abs Go.Proofs.YtleomfgijkapfaaGreatDoor.Tl
set_option maxRecDepth 100000
structure Acc (i:Zx):Prop where
 hk:1≤i.Op∧i.Op≤19
 clean:∀ f,ZP Qb i.Op=some f→Rw f i=true
 es:∀ f,ZP Qb i.Op=some f→∀ e ∈ EF f i,Qc true e=0
 dist:i.Op=3→XJ i.Dist=0
theorem Zo5:((List.range 19).all fun a=>(List.range 19).all fun b=>(a == b) || !(Md ((a:Int) + 1) == Md ((b:Int) + 1)))=true:=by decide +kernel
theorem Zo6:((List.range 19).all fun a=>(Md ((a:Int) + 1)).all fun c=>!(c == 32))=true:=by decide +kernel
theorem word_inj {a b:Int}(ha:1≤a∧a≤19)(hb:1≤b∧b≤19)(h:Md a=Md b):a=b:=by
 have:=List.all_eq_true.1 (List.all_eq_true.1 Zo5 (a - 1).toNat (List.mem_range.2 (by omega))) (b - 1).toNat (List.mem_range.2 (by omega))
 rw [show (((a - 1).toNat:Nat):Int) + 1=a by omega,show (((b - 1).toNat:Nat):Int) + 1=b by omega,h] at this
 simp at this
 omega
theorem ZjG {a:Int}(ha:1≤a∧a≤19):∀ c ∈ Md a,(!(c == 32))=true:=by
 have:=List.all_eq_true.1 Zo6 (a - 1).toNat (List.mem_range.2 (by omega))
 rw [show (((a - 1).toNat:Nat):Int) + 1=a by omega] at this
 exact fun c hc=>List.all_eq_true.1 this c hc
theorem ZlW {i:Zx}{f:JD}(hk:1≤i.Op∧i.Op≤19)(hf:ZP Qb i.Op=some f):esX i=EF f i:=by
 unfold esX; rw [if_pos (by simp [btw,hk.1,hk.2]),hf]
theorem Nr:∀ {l:List Zg},(∀ e ∈ l,Qc true e=0)→Xx true l=0
 | [],_=>by rw [Xx]
 | x :: l,h=>by rw [Xx,if_neg (by simp [h x (List.mem_cons_self ..)])]; exact Nr fun e he=>h e (List.mem_cons_of_mem _ he)
theorem ZaN {e:Zg}(h:MF e=true):e=⟨0,[],0,[]⟩:=by
 obtain ⟨a,b,c,d⟩:=e
 simp [MF] at h
 obtain ⟨⟨⟨rfl,rfl⟩,rfl⟩,h⟩:=h
 obtain rfl:d=[]:=by first | exact h | exact List.eq_nil_of_length_eq_zero (by omega)
 rfl
theorem Zgg {d:ZX}(h:KI d=true):d=⟨0,0,0,0,[],[]⟩:=by
 obtain ⟨a,b,c,d,e,f⟩:=d
 simp [KI] at h
 obtain ⟨⟨⟨⟨⟨rfl,rfl⟩,rfl⟩,rfl⟩,rfl⟩,rfl⟩:=h
 rfl
theorem Zfs {i j:Zx}{f:JD}(ci:Rw f i=true)(cj:Rw f j=true)(h0:i.Op=j.Op)(h1:i.A=j.A)(h2:i.B=j.B)(h3:i.C=j.C)(h4:i.Flag=j.Flag)(he:EF f i=EF f j)(hd:f.dist=true→i.Dist=j.Dist):i=j:=by
 simp only [Rw,Bool.and_eq_true] at ci cj
 obtain ⟨⟨⟨⟨⟨⟨⟨_,_⟩,_⟩,i1⟩,i2⟩,i3⟩,i4⟩,_⟩:=ci
 obtain ⟨⟨⟨⟨⟨⟨⟨_,_⟩,_⟩,j1⟩,j2⟩,j3⟩,j4⟩,_⟩:=cj
 have d:i.Dist=j.Dist:=by
  cases q:f.dist
  ·rw [q,Bool.false_or] at i4 j4; rw [Zgg i4,Zgg j4]
  ·exact hd q
 have key:i.E=j.E∧i.F=j.F∧i.Args=j.Args:=by
  unfold EF at he
  cases q1:f.e <;> cases q2:f.f <;> cases q3:f.args <;> rw [q1,q2,q3] at he <;> rw [q1] at i1 j1 <;> rw [q2] at i2 j2 <;> rw [q3] at i3 j3 <;>
   simp only [cond_true,cond_false,List.nil_append,List.cons_append,List.append_nil,List.cons.injEq,Bool.false_or,decide_eq_true_eq] at he i1 i2 i3 j1 j2 j3 <;> refine ⟨?_,?_,?_⟩ <;>
   first
    | exact he | exact he.1 | exact he.2 | exact he.2.1 | exact he.2.2
    | (rw [ZaN i1,ZaN j1]; done) | (rw [ZaN i2,ZaN j2]; done) | (rw [List.eq_nil_of_length_eq_zero (show i.Args.length=0 by omega),List.eq_nil_of_length_eq_zero (show j.Args.length=0 by omega)]; done)
 obtain ⟨k1,k2,k3⟩:=key
 cases i; cases j
 simp only at h0 h1 h2 h3 h4 d k1 k2 k3
 subst h0 h1 h2 h3 h4 d k1 k2 k3
 rfl
theorem Zkt {a b:Bool}{X Y:List UInt8}(h:(bif a then [49] else [48]) ++ X=(bif b then [49] else [48]) ++ Y):a=b∧X=Y:=by
 cases a <;> cases b <;> simp only [cond_true,cond_false,List.cons_append,List.nil_append] at h
 ·exact ⟨rfl,(List.cons.inj h).2⟩
 ·exact absurd (List.cons.inj h).1 (by decide)
 ·exact absurd (List.cons.inj h).1 (by decide)
 ·exact ⟨rfl,(List.cons.inj h).2⟩
theorem ZkI (n:Int)(i j:Zx)(ai:Acc i)(aj:Acc j)(r s:List UInt8)(h:Tc n i ++ r=Tc n j ++ s):i=j∧r=s:=by
 unfold Tc UF at h
 simp only [List.append_assoc,List.cons_append,List.nil_append] at h
 have sp:∀ X:List UInt8,Bare (32 :: X):=fun X=>bare (by decide)
 obtain ⟨_,h⟩:=VO (sp _) (sp _) h
 obtain ⟨ew,_,h⟩:=ZaG (P := fun c=>!(c == 32)) (ZjG ai.hk) (ZjG aj.hk) (by decide) (by decide) (List.cons.inj h).2
 have eo:=word_inj ai.hk aj.hk ew
 obtain ⟨eA,h⟩:=VO (sp _) (sp _) h
 obtain ⟨eB,h⟩:=VO (sp _) (sp _) (List.cons.inj h).2
 obtain ⟨eC,h⟩:=VO (sp _) (sp _) (List.cons.inj h).2
 obtain ⟨eF,h⟩:=Zkt (List.cons.inj h).2
 obtain ⟨f,g,gs,hf,_,_,rel⟩:=ZbJ 0 i.Op ai.hk
 have hf':ZP Qb j.Op=some f:=by rw [← eo]; exact hf
 have ei:=Nr (ai.es f hf)
 have ej:=Nr (aj.es f hf')
 rw [ZlW ai.hk hf,ZlW aj.hk hf'] at h
 unfold ZcD at h
 by_cases h3:i.Op=3
 ·have h3':j.Op=3:=by rw [← eo]; exact h3
  have hn:∀ x:Zx,EF f x=[]:=fun x=>by
   rw [h3] at hf; cases hf; rfl
  rw [if_pos (by simp [h3]),if_pos (by simp [h3']),hn,hn,ZW] at h
  simp only [List.nil_append,List.cons_append] at h
  obtain ⟨ed,er⟩:=Zkq i.Dist j.Dist (ai.dist h3) (aj.dist h3') r s (List.cons.inj h).2
  exact ⟨Zfs (ai.clean f hf) (aj.clean f hf') eo eA eB eC eF (by rw [hn,hn]) fun _=>ed,er⟩
 ·have h3':j.Op≠3:=by rw [← eo]; exact h3
  rw [if_neg (by simp [h3]),if_neg (by simp [h3'])] at h
  simp only [List.nil_append] at h
  obtain ⟨ee,er⟩:=Ns _ _ 10 10 r s ei ej (by decide) (by decide) h
  exact ⟨Zfs (ai.clean f hf) (aj.clean f hf') eo eA eB eC eF ee fun hd=>by rw [rel.rdist] at hd; simp [h3] at hd,(List.cons.inj er).2⟩
theorem Zi3 (n:Int)(i:Zx)(r:List UInt8):Tc n i ++ r≠[]:=by
 unfold Tc; simp
theorem ZfZ:∀ (l m:List Zx) (n:Int),(∀ x ∈ l,Acc x)→(∀ x ∈ m,Acc x)→VQ n l=VQ n m→l=m
 | [],[],_,_,_,_=>rfl
 | [],y :: m,n,_,_,h=>by rw [VQ,VQ] at h; exact absurd h.symm (Zi3 n y _)
 | x :: l,[],n,_,_,h=>by rw [VQ,VQ] at h; exact absurd h (Zi3 n x _)
 | x :: l,y :: m,n,hl,hm,h=>by
  rw [VQ,VQ] at h
  obtain ⟨rfl,h2⟩:=ZkI n x y (hl x (List.mem_cons_self ..)) (hm y (List.mem_cons_self ..)) _ _ h
  rw [ZfZ l m (n + 1) (fun z hz=>hl z (List.mem_cons_of_mem _ hz)) (fun z hz=>hm z (List.mem_cons_of_mem _ hz)) h2]
end Go.Proofs.YtleomfgijkapfaaGreatDoor
end
section
namespace Go.Proofs.YtleomfgijkapfaaGreatDoor
open Go Go.Proofs.YtleomfgijkapfaaGreatDoor.Abs Go.Proofs.YtleomfgijkapfaaGreatDoor.Tl
set_option maxRecDepth 100000
theorem Zfe (d:Zm)(c:YO)(t:Int):∀ l:List Zg,esR d c t l=0→t=0∧∀ e ∈ l,Qc true e=0
 | [],h=>⟨h,fun e he=>by cases he⟩
 | x :: l,h=>by
  rw [esR] at h
  by_cases a:WC true x=0
  ·rw [if_neg (by simp [a])] at h
   by_cases b:(!(Zhp (hdA d c) x))=true
   ·rw [if_pos b] at h; cases h
   ·rw [if_neg b] at h
    obtain ⟨h1,h2⟩:=Zfe d c t l h
    exact ⟨h1,fun e he=>by
     rcases List.mem_cons.1 he with rfl | he
     ·exact Zb7 e a
     ·exact h2 e he⟩
  ·rw [if_pos (by simp [a])] at h; exact absurd h a
def ZoI (c:YO)(i:Zx):Prop:=Acc i∧(i.Op=4∨i.Op=5→0≤i.A∧i.A < (c.Instrs.length:Int))
theorem Zif {op:Int}{f:JD}(h:op=4∨op=5)(hf:ZP Qb op=some f):f.a=4:=by
 rcases h with rfl | rfl <;> cases hf <;> rfl
theorem Zm8 {p:Z9}{sc:Yi}{c:YO}{i:Zx}{f:JD}(hk:btw i.Op 1 19=true)(hf:ZP Qb i.Op=some f)(hcl:Rw f i=true)(hA:(decide (f.a=0) || Zk2 p sc.Decl c f.a i.A)=true)
  (hV:esR sc.Decl c (if decide (i.Op=3)=true then XJ i.Dist else 0) (EF f i)=0):ZoI c i:=by
 obtain ⟨t0,es⟩:=Zfe _ _ _ _ hV
 refine ⟨⟨by simpa [btw] using hk,fun f' hf'=>by cases hf.symm.trans hf'; exact hcl,fun f' hf'=>by cases hf.symm.trans hf'; exact es,fun h3=>by simpa [h3] using t0⟩,fun hj=>?_⟩
 rw [Zif hj hf] at hA
 simpa [Zk2,ZiI] using hA
theorem Ziq (L:Nat)(h1:1000≤L)(p:Z9)(hp:p.Links.length≤4611686018427387)(hpL:p.Links.length < L)(si:Int)(sc:Yi)(hs:ZP p.Sites si=some sc)(c:YO)(i:Zx)(h:Xp i)(hL:2 * SizeOf.sizeOf i≤L) :
  ∃ v,ZQ L (⟨p,si,c⟩,i,())=some v∧(v=0→ZoI c i):=by
 rw [Hy,show Vh=Yj from rfl,show Vj=Yj from rfl,Tn]
 by_cases hk:btw i.Op 1 19=true
 ·obtain ⟨f,g,gs,hf,hg,hg',r⟩:=ZbJ L i.Op (by simpa [btw] using hk)
  rw [ZnQ L i h hL f hf,hf,Zf9 L i h hk f hf]
  have la:=lpA L h1 p si sc hs c i h hL f r.rdist
  have fin:=Zm8 (p := p) (sc := sc) (c := c) (i := i) hk hf
  generalize esR sc.Decl c (if decide (i.Op=3)=true then XJ i.Dist else 0) (EF f i)=V at la fin
  cases hcl:Rw f i
  ·exact ⟨1,by simp only [Zi,Zd,cond_true,cond_false,Zf,ZG,Zc,Zu,condC,Zk,Zj,Zr,Yb,Y0,Ya,hk,Bool.not_true,Bool.not_false,Bool.or_true,Bool.false_or],fun e=>by cases e⟩
  simp only [ZG,ZpT L p si sc hs c f.a i.A 0 r.na10]
  by_cases hA:(decide (f.a=0) || Zk2 p sc.Decl c f.a i.A)=true
  ·have hA':(!(Zk2 p sc.Decl c f.a i.A) && !decide (f.a=0))=false:=by rw [orN,hA]; rfl
   have fin:=fin hcl hA
   by_cases h14:i.Op=14
   ·have ha9:=r.f14 h14
    rw [ha9] at hA
    have hA2:0≤i.A∧i.A < (p.Sites.length:Int):=by simpa [Zk2,ZiI] using hA
    obtain ⟨so,ho,_⟩:=Zdq p.Sites i.A hA2.1 hA2.2
    have e14:decide (i.Op=14)=true:=by simp [h14]
    have e15:decide (i.Op=15)=false:=by simp [h14]
    have hb10:=Zjd L p si sc hs c i.B i.A so ho
    simp only [Yb,Ya,e14,e15,cond_true,cond_false,ZG]
    simp only [hA',hk,cond_true,cond_false,ZG,Bool.not_true,Bool.or_false,ZpN L p si i.A hp hpL]
    simp only [Zj,hb10,ho,ZG,Zc,cond_false,Bool.not_true,la]
    cases hq:(!(Zqu p si i.A).2.1 || !decide ((Zqu p si i.A).1=i.C))
    ·rcases Ar L p i.A so ho i with ⟨b1,b2⟩ | ⟨b1,cd,b2,b3⟩
     ·exact ⟨2,by simp only [cond_true,cond_false,ZG,Zc,Zu,condC,Zk,Zj,Zr,Yb,Ya,Bool.not_true,Bool.not_false,b1,Bool.not_false] <;> rfl,fun e=>by cases e⟩
     ·cases hz:decide ((i.Args.length:Int)=cd.Params)
      ·exact ⟨8,by simp only [cond_true,cond_false,ZG,Zc,Zu,condC,Zk,Zj,Zr,Yb,Ya,Bool.not_true,Bool.not_false,b1,b2,hz,Bool.not_true,Bool.not_false] <;> rfl,fun e=>by cases e⟩
      ·exact ⟨V,by simp only [cond_true,cond_false,ZG,Zc,Zu,condC,Zk,Zj,Zr,Yb,Ya,Bool.not_true,Bool.not_false,b1,b2,hz,Bool.not_true,Bool.not_false] <;> rfl,fin⟩
    ·exact ⟨16,by simp only [cond_true,cond_false,ZG,Zc,Zu,condC,Zk,Zj,Zr,Yb,Ya,Bool.not_true,Bool.not_false] <;> rfl,fun e=>by cases e⟩
   ·by_cases h15:i.Op=15
    ·have e14:decide (i.Op=14)=false:=by simp [h15]
     have e15:decide (i.Op=15)=true:=by simp [h15]
     have hb10:=Zjd L p si sc hs c i.B si sc hs
     simp only [Yb,Ya,e14,e15,cond_true,cond_false,ZG]
     simp only [hA',hk,cond_true,cond_false,ZG,Bool.not_true,Bool.or_false]
     simp only [Zj,hb10,hs,ZG,Zc,cond_false,Bool.not_true,la]
     rcases Ar L p si sc hs i with ⟨b1,b2⟩ | ⟨b1,cd,b2,b3⟩
     ·exact ⟨2,by simp only [cond_true,cond_false,ZG,Zc,Zu,condC,Zk,Zj,Zr,Yb,Ya,Bool.not_true,Bool.not_false,b1,Bool.not_false] <;> rfl,fun e=>by cases e⟩
     ·cases hz:decide ((i.Args.length:Int)=cd.Params)
      ·exact ⟨8,by simp only [cond_true,cond_false,ZG,Zc,Zu,condC,Zk,Zj,Zr,Yb,Ya,Bool.not_true,Bool.not_false,b1,b2,hz,Bool.not_true,Bool.not_false] <;> rfl,fun e=>by cases e⟩
      ·exact ⟨V,by simp only [cond_true,cond_false,ZG,Zc,Zu,condC,Zk,Zj,Zr,Yb,Ya,Bool.not_true,Bool.not_false,b1,b2,hz,Bool.not_true,Bool.not_false] <;> rfl,fin⟩
    ·obtain ⟨w1,w2,w3⟩:=r.wb h14 h15
     have e14:decide (i.Op=14)=false:=by simp [h14]
     have e15:decide (i.Op=15)=false:=by simp [h15]
     simp only [cond_true,cond_false,ZG,Zc,Zu,condC,Zk,Zj,Zr,Yb,Ya,Bool.not_true,Bool.not_false,hk,hA',e14,e15,Bool.not_true,Bool.or_false,ZpT L p si sc hs c f.b i.B 0 w3,la]
     cases decide (f.b=0) <;> cases Zk2 p sc.Decl c f.b i.B
     ·exact ⟨2,rfl,fun e=>by cases e⟩
     ·exact ⟨V,rfl,fin⟩
     ·exact ⟨V,rfl,fin⟩
     ·exact ⟨V,rfl,fin⟩
  ·rw [Bool.not_eq_true] at hA
   have hA':(!(Zk2 p sc.Decl c f.a i.A) && !decide (f.a=0))=true:=by rw [orN,hA]; rfl
   exact ⟨2,by simp only [cond_true,cond_false,ZG,Zc,Zu,condC,Zk,Zj,Zr,Yb,Ya,Bool.not_true,Bool.not_false,hk,hA',Bool.not_true,Bool.or_false] <;> rfl,fun e=>by cases e⟩
 ·rw [Bool.not_eq_true] at hk
  exact ⟨1,by simp only [cond_true,cond_false,ZG,Zc,Zu,condC,Zk,Zj,Zr,Yb,Ya,Bool.not_true,Bool.not_false,hk,Bool.not_false,Bool.true_or] <;> rfl,fun e=>by cases e⟩
theorem AP {α:Type}(V:α→Int):∀ l:List α,Xg V l=0→∀ x ∈ l,V x=0
 | [],_,x,h=>by cases h
 | y :: l,h,x,hx=>by
  rw [Xg] at h
  by_cases a:V y=0
  ·rw [if_neg (by simp [a])] at h
   rcases List.mem_cons.1 hx with rfl | hx
   ·exact a
   ·exact AP V l h x hx
  ·rw [if_pos (by simp [a])] at h; exact absurd h a
theorem NU (L:Nat)(h1:1000≤L)(p:Z9)(hp:p.Links.length≤4611686018427387)(hpL:p.Links.length < L)(si:Int)(c:YO)(h:LV c)(hL:2 * SizeOf.sizeOf c≤L) :
  ∃ v,QK L (p,si,c,())=some v∧(v=0→c.Instrs.length≤1000∧∀ i ∈ c.Instrs,ZoI c i):=by
 have hz:=LJ c
 have hk:=Z7 c.Instrs; have hl:=h.Instrs.1
 have hn1:=ZfD L c.Name (by have:=h.Name; unfold Len; omega) (by have:=Z7 c.Name; omega)
 rw [EK]
 by_cases hsi:(decide (si < 0) || decide (si ≥ (p.Sites.length:Int)))=true
 ·exact ⟨2,by rw [hsi,cond_true],fun e=>by cases e⟩
 rw [Bool.not_eq_true] at hsi
 have hsi':¬ si < 0∧¬ si ≥ (p.Sites.length:Int):=by simpa using hsi
 obtain ⟨sc,hs,_⟩:=Zdq p.Sites si (by omega) (by omega)
 rw [show (↑p.2.length:Int)=(p.Sites.length:Int) from rfl,hsi,cond_false,hn1,ZG]
 by_cases n0:V8 c.Name=0
 case neg=>exact ⟨V8 c.Name,by simp only [Ya,n0,decide_false,Bool.not_false,cond_true],fun e=>absurd e n0⟩
 simp only [Ya,n0,decide_true,Bool.not_true,cond_false]
 cases (decide (c.2 < 0) || decide (c.2 > c.3) || decide (c.2 > 6) || decide (c.3 > 16))
 case true=>exact ⟨2,rfl,fun e=>by cases e⟩
 simp only [cond_false]
 by_cases ge:c.Instrs=[]
 ·exact ⟨7,by rw [show ((c.4.length:Int) == 0)=true by rw [show c.4=[] from ge]; rfl]; rfl,fun e=>by cases e⟩
 have hpos:0 < c.Instrs.length:=List.length_pos_iff.2 ge
 rw [show ((c.4.length:Int) == 0)=false by rw [Yb]; simpa using ge,cond_false]
 by_cases gl:(c.4.length:Int) > 1000
 ·exact ⟨6,by simp only [gl,decide_true,cond_true],fun e=>by cases e⟩
 simp only [gl,decide_false,cond_false]
 have hV:∀ i ∈ c.Instrs,ZQ L (⟨p,si,c⟩,i,())=some ((ZQ L (⟨p,si,c⟩,i,())).getD 0)∧((ZQ L (⟨p,si,c⟩,i,())).getD 0=0→ZoI c i):=fun i mem=>by
  have:=List.sizeOf_lt_of_mem mem
  obtain ⟨v,e1,e2⟩:=Ziq L h1 p hp hpL si sc hs c i (h.Instrs.2 i mem) (by omega)
  rw [e1]; exact ⟨rfl,e2⟩
 obtain ⟨V,hV'⟩:∃ V:Zx→Int,∀ i ∈ c.Instrs,ZQ L (⟨p,si,c⟩,i,())=some (V i)∧(V i=0→ZoI c i):=⟨_,hV⟩
 have hw:IntKind.i64.wrap ((c.Instrs.length:Int) - 1)=((c.Instrs.length - 1:Nat):Int):=by rw [wrap_in (by omega) (by omega)]; omega
 have hx:=List.getElem?_eq_getElem (show c.Instrs.length - 1 < c.Instrs.length by omega)
 generalize c.Instrs[c.Instrs.length - 1]=x at hx
 have la:=Zrl (f := Xt p si c L) c.Instrs V (some (bif !decide (x.Op=19) && !decide (x.Op=4) then 8 else 0)) (m := L) (by omega) (fun self i y hy hi mem=>by
  rw [Xt]; simp only [Zi hi,cond_true,Zf,hy,ZG,(hV' y mem).1,Ya,wrap_succ hi (by omega)]) (fun self=>by
  rw [Xt]; simp only [Zd,cond_false,hw,Zf,hx,ZG,Ya,Zr])
 rw [la]
 by_cases f0:Xg V c.Instrs=0
 ·refine ⟨_,by rw [if_neg (by simp [f0])],fun _=>⟨by have:¬ (c.Instrs.length:Int) > 1000:=gl; omega,fun i hi=>(hV' i hi).2 (AP V _ f0 i hi)⟩⟩
 ·exact ⟨_,by rw [if_pos (by simp [f0])],fun e=>absurd e f0⟩
end Go.Proofs.YtleomfgijkapfaaGreatDoor
end
section
namespace Go.Proofs.YtleomfgijkapfaaGreatDoor
open Go Go.Proofs.YtleomfgijkapfaaGreatDoor.Abs Go.Proofs.YtleomfgijkapfaaGreatDoor.Tl
set_option maxRecDepth 100000
theorem Zae:∀ (l:List Zx) (n:Int) (x:ZaO),x ∈ Hw n l→n≤x.e0∧x.e0 < n + l.length∧∃ i ∈ l,x.e1=i.A∧(i.Op=4∨i.Op=5)
 | [],n,x,h=>by rw [Hw] at h; cases h
 | i :: l,n,x,h=>by
  rw [Hw] at h
  rcases List.mem_append.1 h with h | h
  ·split at h
   ·rename_i q
    rw [List.mem_singleton] at h; subst h
    exact ⟨Int.le_refl _,by simp only [List.length_cons]; omega,i,List.mem_cons_self ..,rfl,by simpa using q⟩
   ·cases h
  ·obtain ⟨a,b,j,hj,c⟩:=Zae l (n + 1) x h
   exact ⟨by omega,by simp only [List.length_cons]; omega,j,List.mem_cons_of_mem _ hj,c⟩
theorem Nh:∀ (l:List Zx) (n:Int),(Hw n l).Pairwise fun x y=>x.e0 < y.e0
 | [],n=>by rw [Hw]; exact .nil
 | i :: l,n=>by
  rw [Hw]
  split
  ·rw [List.singleton_append,List.pairwise_cons]
   exact ⟨fun y hy=>by have:=(Zae l (n + 1) y hy).1; show n < y.e0; omega,Nh l (n + 1)⟩
  ·rw [List.nil_append]; exact Nh l (n + 1)
theorem Zoc {l:List ZaO}(h:l.Pairwise fun x y=>x.e0 < y.e0){i:Nat}{x y:ZaO}(hx:l[i]? = some x)(hy:l[i + 1]? = some y):x.e0 < y.e0:=by
 obtain ⟨a,rfl⟩:=List.getElem?_eq_some_iff.1 hx
 obtain ⟨b,rfl⟩:=List.getElem?_eq_some_iff.1 hy
 exact List.pairwise_iff_getElem.1 h i (i + 1) a b (by omega)
theorem NE (L:Nat)(h1:1000≤L)(p:Z9)(okp:Dp p)(hp:2 * SizeOf.sizeOf p≤L)(c d:YO)(okc:LV c)(okd:LV d)(hc:2 * SizeOf.sizeOf c < L)(hd:2 * SizeOf.sizeOf d < L)
  (bc:(VQ 0 c.Instrs).length≤70368744177664) (bd:(VQ 0 d.Instrs).length≤70368744177664):XR L (p,c,d,())=some true:=by
 have hz:=LJ c; have hl:=Z7 c.Instrs; have hI:=okc.Instrs.1
 have hz':=LJ d; have hl':=Z7 d.Instrs; have hI':=okd.Instrs.1
 have hpl:=okp.Links.1
 have hk1:=Z7 p.Links
 have hk2:SizeOf.sizeOf p.Links < SizeOf.sizeOf p:=by cases p; simp; omega
 obtain ⟨b0,e0⟩:=Zrw L p okp hp
 obtain ⟨b1,e1⟩:=ZdJ L c (by omega) (by omega)
 obtain ⟨b2,e2⟩:=ZdJ L d (by omega) (by omega)
 obtain ⟨v,e3,a3⟩:=NU L h1 p (by omega) (by omega) 0 c okc (by omega)
 obtain ⟨w,e4,a4⟩:=NU L h1 p (by omega) (by omega) 0 d okd (by omega)
 rw [Ls,e0,e1,e2,e3,e4,Zlo L c okc (by omega)]
 cases b0
 ·rfl
 cases b1
 ·rfl
 cases b2
 ·rfl
 by_cases v0:v=0
 case neg =>
  have:(v != 0)=true:=by simpa using v0
  simp only [ZG,this]; rfl
 by_cases w0:w=0
 case neg =>
  have:(w != 0)=true:=by simpa using w0
  simp only [ZG,v0,this]; rfl
 obtain ⟨_,c3⟩:=a3 v0
 obtain ⟨_,d3⟩:=a4 w0
 subst v0 w0
 have hj:=Zfu 0 c.Instrs
 have mem:=Zae c.Instrs 0
 have pw:=Nh c.Instrs 0
 have key:Zw (Qh c d L (Hw 0 c.Instrs)) L (0,())=some true:=by
  generalize Hw 0 c.Instrs=J at hj mem pw
  refine ZbU J (fun _=>some true) (by omega) (fun self i x r hx hi hm e=>?_) (fun self=>?_)
  ·obtain ⟨m1,m2,j,hj',m3,m4⟩:=mem x hm
   obtain ⟨n1,n2⟩:=(c3 j hj').2 m4
   have k1:decide (x.1 < 0)=false:=by
    have:¬ x.e0 < 0:=by omega
    exact decide_eq_false this
   have k2:decide (x.1 ≥ (c.4.length:Int))=false:=by
    have:¬ x.e0 ≥ (c.Instrs.length:Int):=by omega
    exact decide_eq_false this
   have k3:decide (x.2 < 0)=false:=by
    have:¬ x.e1 < 0:=by omega
    exact decide_eq_false this
   have k4:decide (x.2 ≥ (c.4.length:Int))=false:=by
    have:¬ x.e1 ≥ (c.Instrs.length:Int):=by omega
    exact decide_eq_false this
   have k5:(bif decide ((i:Int) > 0) == true then bT (ZP J (IntKind.i64.wrap ((i:Int) - 1))) fun y_5=>bT (ZP J (i:Int)) fun y=>some (decide (y_5.1 ≥ y.1)) else some false)=some false:=by
    cases i with
    | zero=>rfl
    | succ k =>
     have hw:IntKind.i64.wrap (((k + 1:Nat):Int) - 1)=((k:Nat):Int):=by rw [wrap_in (by omega) (by omega)]; omega
     have hk:=List.getElem?_eq_getElem (show k < J.length by omega)
     have hlt:=Zoc pw hk hx
     have:decide (J[k].1 ≥ x.1)=false:=by
      have:¬ J[k].e0 ≥ x.e0:=by omega
      exact decide_eq_false this
     rw [show decide (((k + 1:Nat):Int) > 0)=true by simp,hw,Zf,Zf,hk,hx]
     simp only [ZG,this]; rfl
   rw [Qh]
   simp only [Zi hi,cond_true,Zf,hx,ZG,k1,k2,k3,k4,wrap_succ hi (by omega),e]
   simp only [Zf,hx,ZG] at k5
   first
    | (simp only [k5,ZG,cond_false]; rfl)
    | (simp [k5,ZG,k1,k2,k3,k4])
  ·rw [Qh]
   simp only [Zd,cond_false,Zjc L c okc hc h1 bc,Zjc L d okd hd h1 bd,ZG,ZiB L c.Instrs d.Instrs (by unfold Len; omega) okc.Instrs.2 (by omega)]
   have:(VQ 0 c.Instrs == VQ 0 d.Instrs)=sm c.Instrs d.Instrs:=by
    refine Zhf ?_
    rw [beq_iff_eq]
    exact ⟨ZfZ _ _ 0 (fun x hx=>(c3 x hx).1) (fun x hx=>(d3 x hx).1),fun h=>by rw [h]⟩
   rw [this]; simp
 simp only [ZG]
 exact key
end Go.Proofs.YtleomfgijkapfaaGreatDoor
end
section
namespace Go.Proofs.YtleomfgijkapfaaGreatDoor
open Go Go.RowKit Go.Proofs.YtleomfgijkapfaaGreatDoor.Abs Go.Proofs.YtleomfgijkapfaaGreatDoor.Tl
set_option maxRecDepth 100000
theorem ZmK {H:Type}{c0 c1 c2:List AV}{d0 d1 d2:DataW H}(S0:KL Tryz.prog 25 c0 d0)(S1:KL Tryz.prog 32 c1 d1)(S2:KL Tryz.prog 32 c2 d2)(hk:Rows.uptoBulkAll [d0,d1,d2]≤1048576)(v0 v1 v2:Value)(w:World)(hG:GOk GF w)(hL:Num.Laid w)
  (hR0:Rep still w (.agg c0) v0) (hR1:Rep still w (.agg c1) v1) (hR2:Rep still w (.agg c2) v2) :
  Calls Tryz.prog MI #[v0,v1,v2] w fun e w'=>e=.returned (.bool true)∧Below w.heap.size w w':=by
 obtain ⟨p,rfl,hp⟩:=ZgD S0.of
 obtain ⟨c,rfl,hc⟩:=Zd7 S1.of
 obtain ⟨d,rfl,hd⟩:=Zd7 S2.of
 simp only [Rows.uptoBulkAll] at hk
 have b1:=ZhS c hc (Nat.le_trans (ZfS Ti S1 rfl) (by omega))
 have b2:=ZhS d hd (Nat.le_trans (ZfS Ti S2 rfl) (by omega))
 obtain ⟨n,hn⟩:=Znr (L6 (Zq9 (1000 + 2 * SizeOf.sizeOf p + 2 * SizeOf.sizeOf c + 2 * SizeOf.sizeOf d))) (p,c,d,()) [.agg (UJ p),.agg (TA c),.agg (TA d)] (ZiA (k := 19) p (ZiA (k := 16) c (ZiA (k := 16) d .nil)))
  (NE _ (by omega) p hp (by omega) c d hc hd (by omega) (by omega) b1 b2)
 refine Zpw (ZqA hG hL _) hn rfl fun j x hx=>?_
 match j,hx with
 | 0,hx=>cases hx; exact ⟨hR0,fun k r e=>by cases e⟩
 | 1,hx=>cases hx; exact ⟨hR1,fun k r e=>by cases e⟩
 | 2,hx=>cases hx; exact ⟨hR2,fun k r e=>by cases e⟩
end Go.Proofs.YtleomfgijkapfaaGreatDoor
end
