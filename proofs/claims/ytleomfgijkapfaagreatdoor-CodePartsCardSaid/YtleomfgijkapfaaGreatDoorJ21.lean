import Derived.Test.YtleomfgijkapfaaGreatDoorJ20
set_option linter.all false
section
namespace Go.Proofs.YtleomfgijkapfaaGreatDoor
open Go Go.RowKit Go.Proofs.YtleomfgijkapfaaGreatDoor.Abs Go.Proofs.YtleomfgijkapfaaGreatDoor.Tl
set_option maxRecDepth 100000
def orK (f:FuncId)(args:List AV):Option AV:=if f=Ht then (match args with | []=>some (.bool true) | _=>none) else none
theorem Zuf {W0:World}(hG:GOk GF W0):∀ f args v,orK f args=some v→DJ Tryz.prog W0 f args v:=by
 intro f args v h
 unfold orK at h
 split at h
 ·rename_i e; subst e
  split at h <;> cases h
  refine ⟨fun _ _ h=>(by cases h),fun Γ w xs hb hΓ hs hx=>?_⟩
  have hxs:xs=#[]:=Array.eq_empty_of_size_eq_zero hs
  subst hxs
  refine Uh Tryz.func10 (by kernel_rfl) rfl ((Zrq (ZfX hG hb)).mono ?_)
  rintro e w' ⟨rfl,hb'⟩
  exact ⟨_,rfl,hb',.bool true⟩
 ·cases h
noncomputable def O1 (f:FuncId)(args:List AV)(hp:List Z8):Option (AV×List Z8×Eff):=if f=Ht then (orK f args).map fun v=>(v,hp,none) else ZkU 223 2 24 f args hp
theorem ZuZ {W0:World}(hG:GOk GF W0):ZM Tryz.prog W0 O1:=by
 intro f args hp v hp' e ho Γ w xs hr ht hs hx
 unfold O1 at ho
 split at ho
 ·exact UO (Zuf hG) f args hp v hp' e ho Γ w xs hr ht hs hx
 ·exact ZqK W0 f args hp v hp' e ho Γ w xs hr ht hs hx
noncomputable def C1 (L:Nat):Cfg:=⟨GF,cT,O1,L + 64⟩
theorem Zth {W0:World}(hG:GOk GF W0)(L:Nat):Zfu Tryz.prog W0 (C1 L) where
 mixed:=by kernel_rfl
 globals:=hG
 table:=fun f af h=>by
  have h:(tab.find? (·.1 == f)).map (·.2)=some af:=h
  obtain ⟨p,hp,rfl⟩:=Option.map_eq_some_iff.1 h
  have hf:=List.find?_some hp
  have:p.1=f:=by simpa using hf
  subst this
  exact Zrb p (List.mem_of_find?_eq_some hp)
 oracle:=ZuZ hG
theorem Ztg (L:Nat):St (C1 L) L where
 L:=rfl
 G:=ZvW
 T:=fun f a h=>h
 grow:=fun m n hp h1 h2=>by
  show ZkU 223 2 24 223 [.own 2 [],.int .i64 n] hp=_
  have a:(2:Nat)=2∧0≤n∧n.toNat * 24≤140737488355328∧n.toNat≤140737488355328:=⟨rfl,h1,by omega,by omega⟩
  show (if (2:Nat)=2∧0≤n∧n.toNat * 24≤140737488355328∧n.toNat≤140737488355328 then some (AV.own 2 [],hp,none) else none)=(some (AV.own 2 [],hp,none):Option (AV×List Z8×Eff))
  rw [if_pos a]
 awake:=fun m hp=>rfl
theorem Znd {C:Cfg}{f:FuncId}{sig:List SD}{q:RTy tT sig→Option Bool}(h:WT C ⟨f,sig,fun x=>.par ((.one .bool:RD).Ty tT) (q x) ((.one .bool:RD).tv tT)⟩)(x:RTy tT sig)(avs:List AV)(hl:LR [] (tvL tT sig x) avs)(hq:q x=some true):∃ n,Yh C n f avs []=some (.bool true,[],none):=by
 obtain ⟨a,h1,n,h2⟩:=h x [] avs hl true hq
 have h3:=h1 []
 have:a=.bool true:=by
  cases h3 with | av v a h =>
   rcases h with h | h
   ·exact h
   ·cases a <;> cases h; rfl
 subst this
 exact ⟨n,h2 n (Nat.le_refl _)⟩
theorem ZqH {k:Nat}(x:tT.D k){l:List (TV tT)}{cs:List AV}(h:LR [] l cs):LR [] (.row k x :: l) (.agg (tT.row k x) :: cs):=.cons _ _ (.row k x _ (Yi.ro k x)) _ _ h
theorem ZoN {H:Type}{c0:List AV}{d0:DataW H}(S0:O7 Tryz.prog 25 c0 d0)(v0:Value)(w:World)(hG:GOk GF w)(hR0:Rep still w (.agg c0) v0) :
  Calls Tryz.prog DF #[v0] w fun e w'=>e=.returned (.bool true)∧Below w.heap.size w w':=by
 obtain ⟨p,rfl,hp⟩:=Zds S0.of
 obtain ⟨n,hn⟩:=Znd (Na (Ztg (1000 + 2 * SizeOf.sizeOf p))) (p,()) [.agg (KJ p)] (ZqH (k := 19) p .nil) (F5 _ (by omega) p hp (by omega))
 refine ZqE (Zth hG _) hn rfl fun j x hx=>?_
 match j,hx with
 | 0,hx=>cases hx; exact ⟨hR0,fun k r e=>by cases e⟩
theorem Zrr {H:Type}{c0:List AV}{d0:DataW H}(S0:O7 Tryz.prog 25 c0 d0)(v0:Value)(w:World)(hG:GOk GF w)(hR0:Rep still w (.agg c0) v0) :
  Calls Tryz.prog NS #[v0] w fun e w'=>e=.returned (.bool true)∧Below w.heap.size w w':=by
 obtain ⟨p,rfl,hp⟩:=Zds S0.of
 obtain ⟨n,hn⟩:=Znd (SL (Ztg (1000 + 2 * SizeOf.sizeOf p))) (p,()) [.agg (KJ p)] (ZqH (k := 19) p .nil) (Zbd _ (by omega) p hp (by omega))
 refine ZqE (Zth hG _) hn rfl fun j x hx=>?_
 match j,hx with
 | 0,hx=>cases hx; exact ⟨hR0,fun k r e=>by cases e⟩
end Go.Proofs.YtleomfgijkapfaaGreatDoor
end
section
namespace Go.Proofs.YtleomfgijkapfaaGreatDoor
open Go Go.RowKit Go.Proofs.YtleomfgijkapfaaGreatDoor.Abs
set_option maxRecDepth 100000
set_option maxHeartbeats 0
def Zee {H:Type}(x:Gn):DataW H:=.agg [.lit (.string x.word),.lit (.int .i64 x.a),.lit (.int .i64 x.b),.lit (.bool x.c),.lit (.bool x.e),.lit (.bool x.f),.lit (.bool x.args),.lit (.bool x.dist),.lit (.bool x.preempt)]
theorem ZrK {H:Type}:(Rows.laid_simulator_code_forms:DataW H)=.slice (UE.map Zee) []:=rfl
theorem Zpf {H:Type}{n:Nat}{r:List AV}{x:Gn}(h:Shp Tryz.prog (n + 2) 97 r (Zee x:DataW H)):r=ZiS x:=by
 obtain ⟨hl,ds,e,_,hf⟩:=h.struct Tryz.underlying97
 rw [show Tryz.prog.cellsOf 97=9 from by kernel_rfl] at hl
 have hds:ds=[.lit (.string x.word),.lit (.int .i64 x.a),.lit (.int .i64 x.b),.lit (.bool x.c),.lit (.bool x.e),.lit (.bool x.f),.lit (.bool x.args),.lit (.bool x.dist),.lit (.bool x.preempt)]:=by unfold Zee at e; injection e with e; exact e.symm
 subst hds
 obtain ⟨c0,r0,rfl,hl0⟩:=Zgd hl
 obtain ⟨c1,r1,rfl,hl1⟩:=Zgd hl0
 obtain ⟨c2,r2,rfl,hl2⟩:=Zgd hl1
 obtain ⟨c3,r3,rfl,hl3⟩:=Zgd hl2
 obtain ⟨c4,r4,rfl,hl4⟩:=Zgd hl3
 obtain ⟨c5,r5,rfl,hl5⟩:=Zgd hl4
 obtain ⟨c6,r6,rfl,hl6⟩:=Zgd hl5
 obtain ⟨c7,r7,rfl,hl7⟩:=Zgd hl6
 obtain ⟨c8,r8,rfl,hl8⟩:=Zgd hl7
 obtain rfl:=List.eq_nil_of_length_eq_zero hl8
 obtain ⟨d0,q0,s0⟩:=hf 0 _ rfl
 obtain rfl:=Option.some.inj q0
 replace s0:Shp Tryz.prog (n + 1) 9 (([c0,c1,c2,c3,c4,c5,c6,c7,c8].drop 0).take (Tryz.prog.cellsOf 9)) _:=s0
 rw [show Tryz.prog.cellsOf 9=1 from by kernel_rfl] at s0
 replace s0:Shp Tryz.prog (n + 1) 9 [c0] ((.lit (.string x.word):DataW H)):=s0
 obtain ⟨v0,a0,b0,_⟩:=s0.str Tryz.underlying9
 injection b0 with b0; injection b0 with b0; injection a0 with a0
 obtain ⟨d1,q1,s1⟩:=hf 1 _ rfl
 obtain rfl:=Option.some.inj q1
 replace s1:Shp Tryz.prog (n + 1) 95 (([c0,c1,c2,c3,c4,c5,c6,c7,c8].drop 1).take (Tryz.prog.cellsOf 95)) _:=s1
 rw [show Tryz.prog.cellsOf 95=1 from by kernel_rfl] at s1
 replace s1:Shp Tryz.prog (n + 1) 95 [c1] ((.lit (.int .i64 x.a):DataW H)):=s1
 obtain ⟨v1,a1,b1,_⟩:=s1.int Tryz.underlying95
 injection b1 with b1; injection b1 with _ b1; injection a1 with a1
 obtain ⟨d2,q2,s2⟩:=hf 2 _ rfl
 obtain rfl:=Option.some.inj q2
 replace s2:Shp Tryz.prog (n + 1) 95 (([c0,c1,c2,c3,c4,c5,c6,c7,c8].drop 2).take (Tryz.prog.cellsOf 95)) _:=s2
 rw [show Tryz.prog.cellsOf 95=1 from by kernel_rfl] at s2
 replace s2:Shp Tryz.prog (n + 1) 95 [c2] ((.lit (.int .i64 x.b):DataW H)):=s2
 obtain ⟨v2,a2,b2,_⟩:=s2.int Tryz.underlying95
 injection b2 with b2; injection b2 with _ b2; injection a2 with a2
 obtain ⟨d3,q3,s3⟩:=hf 3 _ rfl
 obtain rfl:=Option.some.inj q3
 replace s3:Shp Tryz.prog (n + 1) 4 (([c0,c1,c2,c3,c4,c5,c6,c7,c8].drop 3).take (Tryz.prog.cellsOf 4)) _:=s3
 rw [show Tryz.prog.cellsOf 4=1 from by kernel_rfl] at s3
 replace s3:Shp Tryz.prog (n + 1) 4 [c3] ((.lit (.bool x.c):DataW H)):=s3
 obtain ⟨v3,a3,b3⟩:=s3.bool Tryz.underlying4
 injection b3 with b3; injection b3 with b3; injection a3 with a3
 obtain ⟨d4,q4,s4⟩:=hf 4 _ rfl
 obtain rfl:=Option.some.inj q4
 replace s4:Shp Tryz.prog (n + 1) 4 (([c0,c1,c2,c3,c4,c5,c6,c7,c8].drop 4).take (Tryz.prog.cellsOf 4)) _:=s4
 rw [show Tryz.prog.cellsOf 4=1 from by kernel_rfl] at s4
 replace s4:Shp Tryz.prog (n + 1) 4 [c4] ((.lit (.bool x.e):DataW H)):=s4
 obtain ⟨v4,a4,b4⟩:=s4.bool Tryz.underlying4
 injection b4 with b4; injection b4 with b4; injection a4 with a4
 obtain ⟨d5,q5,s5⟩:=hf 5 _ rfl
 obtain rfl:=Option.some.inj q5
 replace s5:Shp Tryz.prog (n + 1) 4 (([c0,c1,c2,c3,c4,c5,c6,c7,c8].drop 5).take (Tryz.prog.cellsOf 4)) _:=s5
 rw [show Tryz.prog.cellsOf 4=1 from by kernel_rfl] at s5
 replace s5:Shp Tryz.prog (n + 1) 4 [c5] ((.lit (.bool x.f):DataW H)):=s5
 obtain ⟨v5,a5,b5⟩:=s5.bool Tryz.underlying4
 injection b5 with b5; injection b5 with b5; injection a5 with a5
 obtain ⟨d6,q6,s6⟩:=hf 6 _ rfl
 obtain rfl:=Option.some.inj q6
 replace s6:Shp Tryz.prog (n + 1) 4 (([c0,c1,c2,c3,c4,c5,c6,c7,c8].drop 6).take (Tryz.prog.cellsOf 4)) _:=s6
 rw [show Tryz.prog.cellsOf 4=1 from by kernel_rfl] at s6
 replace s6:Shp Tryz.prog (n + 1) 4 [c6] ((.lit (.bool x.args):DataW H)):=s6
 obtain ⟨v6,a6,b6⟩:=s6.bool Tryz.underlying4
 injection b6 with b6; injection b6 with b6; injection a6 with a6
 obtain ⟨d7,q7,s7⟩:=hf 7 _ rfl
 obtain rfl:=Option.some.inj q7
 replace s7:Shp Tryz.prog (n + 1) 4 (([c0,c1,c2,c3,c4,c5,c6,c7,c8].drop 7).take (Tryz.prog.cellsOf 4)) _:=s7
 rw [show Tryz.prog.cellsOf 4=1 from by kernel_rfl] at s7
 replace s7:Shp Tryz.prog (n + 1) 4 [c7] ((.lit (.bool x.dist):DataW H)):=s7
 obtain ⟨v7,a7,b7⟩:=s7.bool Tryz.underlying4
 injection b7 with b7; injection b7 with b7; injection a7 with a7
 obtain ⟨d8,q8,s8⟩:=hf 8 _ rfl
 obtain rfl:=Option.some.inj q8
 replace s8:Shp Tryz.prog (n + 1) 4 (([c0,c1,c2,c3,c4,c5,c6,c7,c8].drop 8).take (Tryz.prog.cellsOf 4)) _:=s8
 rw [show Tryz.prog.cellsOf 4=1 from by kernel_rfl] at s8
 replace s8:Shp Tryz.prog (n + 1) 4 [c8] ((.lit (.bool x.preempt):DataW H)):=s8
 obtain ⟨v8,a8,b8⟩:=s8.bool Tryz.underlying4
 injection b8 with b8; injection b8 with b8; injection a8 with a8
 rw [a0,a1,a2,a3,a4,a5,a6,a7,a8,← b0,← b1,← b2,← b3,← b4,← b5,← b6,← b7,← b8]
 rfl
theorem Zpg {W:World}{rest:List (String×DataW Unit)}(h:laidMet Tryz.prog (("simulator/code.forms",Rows.laid_simulator_code_forms) :: rest) W):GOk GF W:=by
 obtain ⟨ps,⟨g',t',cs,fuel,p,q,hg',ht',hvar,hd,_,_⟩,_⟩:=h
 obtain rfl:0=g':=Option.some.inj ((show Tryz.prog.globalNamed "simulator/code.forms" = some 0 by kernel_rfl).symm.trans hg')
 obtain rfl:98=t':=Option.some.inj ((show (Tryz.prog.globals[0]?).map (·.type)=some 98 by kernel_rfl).symm.trans ht')
 obtain ⟨az,s,hl,hr⟩:=Za1 (Γ := fun _=>.imm) (fun _=>rfl) 4 fuel 98 cs.toList (Rows.laid_simulator_code_forms,p) (by kernel_rfl) hd (fun y hy=>by
  have:((Rows.laid_simulator_code_forms:DataW Unit).weights Tryz.prog 98).all (fun y=>decide (y≤reachBytes))=true:=by kernel_rfl
  exact of_decide_eq_true (List.all_eq_true.1 this y hy))
 obtain ⟨rows,rfl,_,h3⟩:=(Shp.mk s).slice Tryz.underlying98
 have hrows:rows=UE.map ZiS:=by
  rw [ZrK] at h3
  rcases h3 with ⟨_,h⟩ | ⟨D,ds,spare,e1,e2,e3⟩
  ·cases h
  ·injection e1 with e1 _
   subst e1
   have hlen:rows.length=UE.length:=by have:=congrArg List.length e2; simpa using this.symm
   refine List.ext_getElem? fun i=>?_
   rcases Nat.lt_or_ge i rows.length with hi | hi
   ·have hi':i < UE.length:=by omega
    have hD:Zee UE[i]=D i:=by
     have:=congrArg (fun l:List (DataW Unit)=>l[i]?) e2
     simpa [hi,hi'] using this
    have h4:=e3 i rows[i] (List.getElem?_eq_getElem hi)
    rw [← hD] at h4
    rw [List.getElem?_eq_getElem hi,List.getElem?_map,List.getElem?_eq_getElem hi',Zpf h4]; rfl
   ·rw [List.getElem?_eq_none hi,List.getElem?_eq_none (by rw [List.length_map]; omega)]
 subst hrows
 have h9:Tryz.prog.cellsOf 97=9:=by kernel_rfl
 rw [h9] at hr hl
 have hlt:0 < W.heap.size:=by
  rcases Nat.lt_or_ge 0 W.heap.size with h | h
  ·exact h
  ·have:=World.var?_cell (show Tryz.prog.globalNamed "simulator/code.forms" = some 0 by kernel_rfl) hvar 0
   rw [World.cell?,Array.getElem?_eq_none h] at this
   have hz:cs.size=1:=by simpa using hl.symm
   simp [hz] at this
 intro g cells hg
 unfold GF at hg
 split at hg <;> cases hg
 rename_i e; subst e
 refine ⟨hlt,fun j c hc=>?_⟩
 obtain ⟨k1,k2,k3,k4⟩:=hr j c hc
 have hj:j=0:=by have:=Zm hc; simp at this; omega
 subst hj
 have hz:cs.size=1:=by simpa using hl.symm
 refine ⟨_,?_,k3,k1⟩
 rw [World.var?_cell (show Tryz.prog.globalNamed "simulator/code.forms" = some 0 by kernel_rfl) hvar 0]
 simp [hz,List.getD]
end Go.Proofs.YtleomfgijkapfaaGreatDoor
end
