import Derived.Test.YtleomfgijkapfaaGreatDoorS17
set_option linter.all false
section
namespace Go.Proofs.YtleomfgijkapfaaGreatDoor
open Go Go.RowKit Go.Proofs.YtleomfgijkapfaaGreatDoor.Abs Go.Proofs.YtleomfgijkapfaaGreatDoor.Tl
set_option maxRecDepth 100000
def orK (f:FuncId)(args:List AV):Option AV:=if f=Me then (match args with | []=>some (.bool true) | _=>none) else none
theorem Zxx {W0:World}(hG:GOk GF W0):∀ f args v,orK f args=some v→EJ Tryz.prog W0 f args v:=by
 intro f args v h
 unfold orK at h
 split at h
 ·rename_i e; subst e
  split at h <;> cases h
  refine ⟨fun _ _ h=>(by cases h),fun Γ w xs hb hΓ hs hx=>?_⟩
  have hxs:xs=#[]:=Array.eq_empty_of_size_eq_zero hs
  subst hxs
  refine Hf Tryz.func10 (by kernel_rfl) rfl ((Zum (Zi6 hG hb)).mono ?_)
  rintro e w' ⟨rfl,hb'⟩
  exact ⟨_,rfl,hb',.bool true⟩
 ·cases h
noncomputable def O1 (f:FuncId)(args:List AV)(hp:List ZF):Option (AV×List ZF×Eff):=if f=Me then (orK f args).map fun v=>(v,hp,none) else ZnK 223 2 24 f args hp
theorem Zyw {W0:World}(hG:GOk GF W0):ZY Tryz.prog W0 O1:=by
 intro f args hp v hp' e ho Γ w xs hr ht hs hx
 unfold O1 at ho
 split at ho
 ·exact IE (Zxx hG) f args hp v hp' e ho Γ w xs hr ht hs hx
 ·exact ZtC W0 f args hp v hp' e ho Γ w xs hr ht hs hx
noncomputable def C1 (L:Nat):Cfg:=⟨GF,cT,O1,L + 64⟩
theorem Zyt {W0:World}(hG:GOk GF W0)(L:Nat):ZhU Tryz.prog W0 (C1 L) where
 mixed:=by kernel_rfl
 globals:=hG
 table:=fun f af h=>by
  have h:(tab.find? (·.1 == f)).map (·.2)=some af:=h
  obtain ⟨p,hp,rfl⟩:=Option.map_eq_some_iff.1 h
  have hf:=List.find?_some hp
  have:p.1=f:=by simpa using hf
  subst this
  exact ZtX p (List.mem_of_find?_eq_some hp)
 oracle:=Zyw hG
theorem Zys (L:Nat):St (C1 L) L where
 L:=rfl
 G:=Zzw
 T:=fun f a h=>h
 grow:=fun m n hp h1 h2=>by
  show ZnK 223 2 24 223 [.own 2 [],.int .i64 n] hp=_
  have a:(2:Nat)=2∧0≤n∧n.toNat * 24≤140737488355328∧n.toNat≤140737488355328:=⟨rfl,h1,by omega,by omega⟩
  show (if (2:Nat)=2∧0≤n∧n.toNat * 24≤140737488355328∧n.toNat≤140737488355328 then some (AV.own 2 [],hp,none) else none)=(some (AV.own 2 [],hp,none):Option (AV×List ZF×Eff))
  rw [if_pos a]
 awake:=fun m hp=>rfl
theorem ZuH {C:Cfg}{f:FuncId}{sig:List SD}{q:RTy tT sig→Option Bool}(h:XV C ⟨f,sig,fun x=>.par ((.one .bool:RD).Ty tT) (q x) ((.one .bool:RD).tv tT)⟩)(x:RTy tT sig)(avs:List AV)(hl:LR [] (tvL tT sig x) avs)(hq:q x=some true):∃ n,Y7 C n f avs []=some (.bool true,[],none):=by
 obtain ⟨a,h1,n,h2⟩:=h x [] avs hl true hq
 have h3:=h1 []
 have:a=.bool true:=by
  cases h3 with | av v a h =>
   rcases h with h | h
   ·exact h
   ·cases a <;> cases h; rfl
 subst this
 exact ⟨n,h2 n (Nat.le_refl _)⟩
theorem Zqa {k:Nat}(x:tT.D k){l:List (TV tT)}{cs:List AV}(h:LR [] l cs):LR [] (.row k x :: l) (.agg (tT.row k x) :: cs):=.cons _ _ (.row k x _ (YV.ro k x)) _ _ h
theorem ZxI (i j:Int)(w:World):Rep still w (.agg (ZxH ⟨i,j⟩)) (.agg #[.int .i64 i,.int .i64 j]):=.agg _ _ rfl (fun k c h=>by
  match k,h with
  | 0,h=>cases h; rfl
  | 1,h=>cases h; rfl) (fun k m r h=>by
  match k,h with
  | 0,h=>cases h
  | 1,h=>cases h) fun k c h=>by
  match k,h with
  | 0,h=>cases h; exact .int _ _
  | 1,h=>cases h; exact .int _ _
theorem Zw1 {H:Type}{c0 c1:List AV}{d0 d1:DataW H}(S0:Bf Tryz.prog 25 c0 d0)(S1:Bf Tryz.prog 25 c1 d1)(i j:Int)(v0 v1:Value)(w:World)(hG:GOk GF w)(hR0:Rep still w (.agg c0) v0)(hR1:Rep still w (.agg c1) v1) :
  Calls Tryz.prog Zbv #[v0,v1,.agg #[.int .i64 i,.int .i64 j]] w fun e w'=>e=.returned (.bool true)∧Below w.heap.size w w':=by
 obtain ⟨p,rfl,hp⟩:=ZfT S0.of
 obtain ⟨q,rfl,hq⟩:=ZfT S1.of
 obtain ⟨n,hn⟩:=ZuH (ZbM (Zys (1000 + 2 * SizeOf.sizeOf p + 2 * SizeOf.sizeOf q))) (p,q,⟨i,j⟩,()) [.agg (O0 p),.agg (O0 q),.agg (ZxH ⟨i,j⟩)] (Zqa (k := 19) p (Zqa (k := 19) q (Zqa (k := 30) (⟨i,j⟩:Zr0) .nil))) (ZeU _ (by omega) p q ⟨i,j⟩ hp hq (by omega) (by omega))
 refine ZwT (Zyt hG _) hn rfl fun k x hx=>?_
 match k,hx with
 | 0,hx=>cases hx; exact ⟨hR0,fun k r e=>by cases e⟩
 | 1,hx=>cases hx; exact ⟨hR1,fun k r e=>by cases e⟩
 | 2,hx=>cases hx; exact ⟨ZxI i j w,fun k r e=>by cases e⟩
end Go.Proofs.YtleomfgijkapfaaGreatDoor
end
section
namespace Go.Proofs.YtleomfgijkapfaaGreatDoor
open Go Go.RowKit Go.Proofs.YtleomfgijkapfaaGreatDoor.Abs
set_option maxRecDepth 100000
set_option maxHeartbeats 0
def Zg8 {H:Type}(x:OV):DataW H:=.agg [.lit (.string x.word),.lit (.int .i64 x.a),.lit (.int .i64 x.b),.lit (.bool x.c),.lit (.bool x.e),.lit (.bool x.f),.lit (.bool x.args),.lit (.bool x.dist),.lit (.bool x.preempt)]
theorem ZuG {H:Type}:(Rows.laid_simulator_code_forms:DataW H)=.slice (Iu.map Zg8) []:=rfl
theorem ZrX {H:Type}{n:Nat}{r:List AV}{x:OV}(h:Shp Tryz.prog (n + 2) 97 r (Zg8 x:DataW H)):r=Zl9 x:=by
 obtain ⟨hl,ds,e,_,hf⟩:=h.struct Tryz.underlying97
 rw [show Tryz.prog.cellsOf 97=9 from by kernel_rfl] at hl
 have hds:ds=[.lit (.string x.word),.lit (.int .i64 x.a),.lit (.int .i64 x.b),.lit (.bool x.c),.lit (.bool x.e),.lit (.bool x.f),.lit (.bool x.args),.lit (.bool x.dist),.lit (.bool x.preempt)]:=by unfold Zg8 at e; injection e with e; exact e.symm
 subst hds
 obtain ⟨c0,r0,rfl,hl0⟩:=ZiE hl
 obtain ⟨c1,r1,rfl,hl1⟩:=ZiE hl0
 obtain ⟨c2,r2,rfl,hl2⟩:=ZiE hl1
 obtain ⟨c3,r3,rfl,hl3⟩:=ZiE hl2
 obtain ⟨c4,r4,rfl,hl4⟩:=ZiE hl3
 obtain ⟨c5,r5,rfl,hl5⟩:=ZiE hl4
 obtain ⟨c6,r6,rfl,hl6⟩:=ZiE hl5
 obtain ⟨c7,r7,rfl,hl7⟩:=ZiE hl6
 obtain ⟨c8,r8,rfl,hl8⟩:=ZiE hl7
 obtain rfl:=List.eq_nil_of_length_eq_zero hl8
 obtain ⟨d0,q0,s0⟩:=hf 0 _ rfl
 obtain rfl:=Option.some.inj q0
 replace s0:Shp Tryz.prog (n + 1) 9 (([c0,c1,c2,c3,c4,c5,c6,c7,c8].drop 0).take (Tryz.prog.cellsOf 9)) _:=s0
 rw [show Tryz.prog.cellsOf 9=1 from by kernel_rfl] at s0
 replace s0:Shp Tryz.prog (n + 1) 9 [c0] ((.lit (.string x.word):DataW H)):=s0
 obtain ⟨v0,a0,b0,_⟩:=s0.str Tryz.underlying9
 injection b0 with b0; injection b0 with b0; injection a0 with a0
 obtain ⟨d1,q1,s1⟩:=hf 1 _ rfl
 obtain rfl:=Option.some.inj q1
 replace s1:Shp Tryz.prog (n + 1) 95 (([c0,c1,c2,c3,c4,c5,c6,c7,c8].drop 1).take (Tryz.prog.cellsOf 95)) _:=s1
 rw [show Tryz.prog.cellsOf 95=1 from by kernel_rfl] at s1
 replace s1:Shp Tryz.prog (n + 1) 95 [c1] ((.lit (.int .i64 x.a):DataW H)):=s1
 obtain ⟨v1,a1,b1,_⟩:=s1.int Tryz.underlying95
 injection b1 with b1; injection b1 with _ b1; injection a1 with a1
 obtain ⟨d2,q2,s2⟩:=hf 2 _ rfl
 obtain rfl:=Option.some.inj q2
 replace s2:Shp Tryz.prog (n + 1) 95 (([c0,c1,c2,c3,c4,c5,c6,c7,c8].drop 2).take (Tryz.prog.cellsOf 95)) _:=s2
 rw [show Tryz.prog.cellsOf 95=1 from by kernel_rfl] at s2
 replace s2:Shp Tryz.prog (n + 1) 95 [c2] ((.lit (.int .i64 x.b):DataW H)):=s2
 obtain ⟨v2,a2,b2,_⟩:=s2.int Tryz.underlying95
 injection b2 with b2; injection b2 with _ b2; injection a2 with a2
 obtain ⟨d3,q3,s3⟩:=hf 3 _ rfl
 obtain rfl:=Option.some.inj q3
 replace s3:Shp Tryz.prog (n + 1) 4 (([c0,c1,c2,c3,c4,c5,c6,c7,c8].drop 3).take (Tryz.prog.cellsOf 4)) _:=s3
 rw [show Tryz.prog.cellsOf 4=1 from by kernel_rfl] at s3
 replace s3:Shp Tryz.prog (n + 1) 4 [c3] ((.lit (.bool x.c):DataW H)):=s3
 obtain ⟨v3,a3,b3⟩:=s3.bool Tryz.underlying4
 injection b3 with b3; injection b3 with b3; injection a3 with a3
 obtain ⟨d4,q4,s4⟩:=hf 4 _ rfl
 obtain rfl:=Option.some.inj q4
 replace s4:Shp Tryz.prog (n + 1) 4 (([c0,c1,c2,c3,c4,c5,c6,c7,c8].drop 4).take (Tryz.prog.cellsOf 4)) _:=s4
 rw [show Tryz.prog.cellsOf 4=1 from by kernel_rfl] at s4
 replace s4:Shp Tryz.prog (n + 1) 4 [c4] ((.lit (.bool x.e):DataW H)):=s4
 obtain ⟨v4,a4,b4⟩:=s4.bool Tryz.underlying4
 injection b4 with b4; injection b4 with b4; injection a4 with a4
 obtain ⟨d5,q5,s5⟩:=hf 5 _ rfl
 obtain rfl:=Option.some.inj q5
 replace s5:Shp Tryz.prog (n + 1) 4 (([c0,c1,c2,c3,c4,c5,c6,c7,c8].drop 5).take (Tryz.prog.cellsOf 4)) _:=s5
 rw [show Tryz.prog.cellsOf 4=1 from by kernel_rfl] at s5
 replace s5:Shp Tryz.prog (n + 1) 4 [c5] ((.lit (.bool x.f):DataW H)):=s5
 obtain ⟨v5,a5,b5⟩:=s5.bool Tryz.underlying4
 injection b5 with b5; injection b5 with b5; injection a5 with a5
 obtain ⟨d6,q6,s6⟩:=hf 6 _ rfl
 obtain rfl:=Option.some.inj q6
 replace s6:Shp Tryz.prog (n + 1) 4 (([c0,c1,c2,c3,c4,c5,c6,c7,c8].drop 6).take (Tryz.prog.cellsOf 4)) _:=s6
 rw [show Tryz.prog.cellsOf 4=1 from by kernel_rfl] at s6
 replace s6:Shp Tryz.prog (n + 1) 4 [c6] ((.lit (.bool x.args):DataW H)):=s6
 obtain ⟨v6,a6,b6⟩:=s6.bool Tryz.underlying4
 injection b6 with b6; injection b6 with b6; injection a6 with a6
 obtain ⟨d7,q7,s7⟩:=hf 7 _ rfl
 obtain rfl:=Option.some.inj q7
 replace s7:Shp Tryz.prog (n + 1) 4 (([c0,c1,c2,c3,c4,c5,c6,c7,c8].drop 7).take (Tryz.prog.cellsOf 4)) _:=s7
 rw [show Tryz.prog.cellsOf 4=1 from by kernel_rfl] at s7
 replace s7:Shp Tryz.prog (n + 1) 4 [c7] ((.lit (.bool x.dist):DataW H)):=s7
 obtain ⟨v7,a7,b7⟩:=s7.bool Tryz.underlying4
 injection b7 with b7; injection b7 with b7; injection a7 with a7
 obtain ⟨d8,q8,s8⟩:=hf 8 _ rfl
 obtain rfl:=Option.some.inj q8
 replace s8:Shp Tryz.prog (n + 1) 4 (([c0,c1,c2,c3,c4,c5,c6,c7,c8].drop 8).take (Tryz.prog.cellsOf 4)) _:=s8
 rw [show Tryz.prog.cellsOf 4=1 from by kernel_rfl] at s8
 replace s8:Shp Tryz.prog (n + 1) 4 [c8] ((.lit (.bool x.preempt):DataW H)):=s8
 obtain ⟨v8,a8,b8⟩:=s8.bool Tryz.underlying4
 injection b8 with b8; injection b8 with b8; injection a8 with a8
 rw [a0,a1,a2,a3,a4,a5,a6,a7,a8,← b0,← b1,← b2,← b3,← b4,← b5,← b6,← b7,← b8]
 rfl
theorem ZrY {W:World}{rest:List (String×DataW Unit)}(h:laidMet Tryz.prog (("simulator/code.forms",Rows.laid_simulator_code_forms) :: rest) W):GOk GF W:=by
 obtain ⟨ps,⟨g',t',cs,fuel,p,q,hg',ht',hvar,hd,_,_⟩,_⟩:=h
 obtain rfl:0=g':=Option.some.inj ((show Tryz.prog.globalNamed "simulator/code.forms" = some 0 by kernel_rfl).symm.trans hg')
 obtain rfl:98=t':=Option.some.inj ((show (Tryz.prog.globals[0]?).map (·.type)=some 98 by kernel_rfl).symm.trans ht')
 obtain ⟨az,s,hl,hr⟩:=ZcX (Γ := fun _=>.imm) (fun _=>rfl) 4 fuel 98 cs.toList (Rows.laid_simulator_code_forms,p) (by kernel_rfl) hd (fun y hy=>by
  have:((Rows.laid_simulator_code_forms:DataW Unit).weights Tryz.prog 98).all (fun y=>decide (y≤reachBytes))=true:=by kernel_rfl
  exact of_decide_eq_true (List.all_eq_true.1 this y hy))
 obtain ⟨rows,rfl,_,h3⟩:=(Shp.mk s).slice Tryz.underlying98
 have hrows:rows=Iu.map Zl9:=by
  rw [ZuG] at h3
  rcases h3 with ⟨_,h⟩ | ⟨D,ds,spare,e1,e2,e3⟩
  ·cases h
  ·injection e1 with e1 _
   subst e1
   have hlen:rows.length=Iu.length:=by have:=congrArg List.length e2; simpa using this.symm
   refine List.ext_getElem? fun i=>?_
   rcases Nat.lt_or_ge i rows.length with hi | hi
   ·have hi':i < Iu.length:=by omega
    have hD:Zg8 Iu[i]=D i:=by
     have:=congrArg (fun l:List (DataW Unit)=>l[i]?) e2
     simpa [hi,hi'] using this
    have h4:=e3 i rows[i] (List.getElem?_eq_getElem hi)
    rw [← hD] at h4
    rw [List.getElem?_eq_getElem hi,List.getElem?_map,List.getElem?_eq_getElem hi',ZrX h4]; rfl
   ·rw [List.getElem?_eq_none hi,List.getElem?_eq_none (by rw [List.length_map]; omega)]
 subst hrows
 have h9:Tryz.prog.cellsOf 97=9:=by kernel_rfl
 rw [h9] at hr hl
 have hlt:0 < W.heap.size:=by
  rcases Nat.lt_or_ge 0 W.heap.size with h | h
  ·exact h
  ·have:=World.var?_cell (show Tryz.prog.globalNamed "simulator/code.forms" = some 0 by kernel_rfl) hvar 0
   rw [World.cell?,Array.getElem?_eq_none h] at this
   have hz:cs.size=1:=by simpa using hl.symm
   simp [hz] at this
 intro g cells hg
 unfold GF at hg
 split at hg <;> cases hg
 rename_i e; subst e
 refine ⟨hlt,fun j c hc=>?_⟩
 obtain ⟨k1,k2,k3,k4⟩:=hr j c hc
 have hj:j=0:=by have:=Zp hc; simp at this; omega
 subst hj
 have hz:cs.size=1:=by simpa using hl.symm
 refine ⟨_,?_,k3,k1⟩
 rw [World.var?_cell (show Tryz.prog.globalNamed "simulator/code.forms" = some 0 by kernel_rfl) hvar 0]
 simp [hz,List.getD]
end Go.Proofs.YtleomfgijkapfaaGreatDoor
end
