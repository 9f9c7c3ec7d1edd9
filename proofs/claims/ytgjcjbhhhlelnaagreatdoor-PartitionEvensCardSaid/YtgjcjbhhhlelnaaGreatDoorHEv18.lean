import Derived.Test.YtgjcjbhhhlelnaaGreatDoorHEv17
set_option linter.all false
section
namespace Go.Proofs.YtgjcjbhhhlelnaaGreatDoor
open Go Go.RowKit Go.Proofs.YtgjcjbhhhlelnaaGreatDoor.Abs
set_option maxRecDepth 100000
set_option maxHeartbeats 0
def Zfb {H:Type}(x:Iq):DataW H:=.agg [.lit (.string x.word),.lit (.int .i64 x.a),.lit (.int .i64 x.b),.lit (.bool x.c),.lit (.bool x.e),.lit (.bool x.f),.lit (.bool x.args),.lit (.bool x.dist),.lit (.bool x.preempt)]
theorem Zt6 {H:Type}:(Rows.laid_simulator_code_forms:DataW H)=.slice (Hm.map Zfb) []:=rfl
theorem Zq1 {H:Type}{n:Nat}{r:List AV}{x:Iq}(h:Shp Tryz.prog (n + 2) 167 r (Zfb x:DataW H)):r=ZmE x:=by
 obtain ⟨hl,ds,e,_,hf⟩:=h.struct Tryz.underlying167
 rw [show Tryz.prog.cellsOf 167=9 from by kernel_rfl] at hl
 have hds:ds=[.lit (.string x.word),.lit (.int .i64 x.a),.lit (.int .i64 x.b),.lit (.bool x.c),.lit (.bool x.e),.lit (.bool x.f),.lit (.bool x.args),.lit (.bool x.dist),.lit (.bool x.preempt)]:=by unfold Zfb at e; injection e with e; exact e.symm
 subst hds
 obtain ⟨c0,r0,rfl,hl0⟩:=ZgY hl
 obtain ⟨c1,r1,rfl,hl1⟩:=ZgY hl0
 obtain ⟨c2,r2,rfl,hl2⟩:=ZgY hl1
 obtain ⟨c3,r3,rfl,hl3⟩:=ZgY hl2
 obtain ⟨c4,r4,rfl,hl4⟩:=ZgY hl3
 obtain ⟨c5,r5,rfl,hl5⟩:=ZgY hl4
 obtain ⟨c6,r6,rfl,hl6⟩:=ZgY hl5
 obtain ⟨c7,r7,rfl,hl7⟩:=ZgY hl6
 obtain ⟨c8,r8,rfl,hl8⟩:=ZgY hl7
 obtain rfl:=List.eq_nil_of_length_eq_zero hl8
 obtain ⟨d0,q0,s0⟩:=hf 0 _ rfl
 obtain rfl:=Option.some.inj q0
 replace s0:Shp Tryz.prog (n + 1) 9 (([c0,c1,c2,c3,c4,c5,c6,c7,c8].drop 0).take (Tryz.prog.cellsOf 9)) _:=s0
 rw [show Tryz.prog.cellsOf 9=1 from by kernel_rfl] at s0
 replace s0:Shp Tryz.prog (n + 1) 9 [c0] ((.lit (.string x.word):DataW H)):=s0
 obtain ⟨v0,a0,b0,_⟩:=s0.str Tryz.underlying9
 injection b0 with b0; injection b0 with b0; injection a0 with a0
 obtain ⟨d1,q1,s1⟩:=hf 1 _ rfl
 obtain rfl:=Option.some.inj q1
 replace s1:Shp Tryz.prog (n + 1) 165 (([c0,c1,c2,c3,c4,c5,c6,c7,c8].drop 1).take (Tryz.prog.cellsOf 165)) _:=s1
 rw [show Tryz.prog.cellsOf 165=1 from by kernel_rfl] at s1
 replace s1:Shp Tryz.prog (n + 1) 165 [c1] ((.lit (.int .i64 x.a):DataW H)):=s1
 obtain ⟨v1,a1,b1,_⟩:=s1.int Tryz.underlying165
 injection b1 with b1; injection b1 with _ b1; injection a1 with a1
 obtain ⟨d2,q2,s2⟩:=hf 2 _ rfl
 obtain rfl:=Option.some.inj q2
 replace s2:Shp Tryz.prog (n + 1) 165 (([c0,c1,c2,c3,c4,c5,c6,c7,c8].drop 2).take (Tryz.prog.cellsOf 165)) _:=s2
 rw [show Tryz.prog.cellsOf 165=1 from by kernel_rfl] at s2
 replace s2:Shp Tryz.prog (n + 1) 165 [c2] ((.lit (.int .i64 x.b):DataW H)):=s2
 obtain ⟨v2,a2,b2,_⟩:=s2.int Tryz.underlying165
 injection b2 with b2; injection b2 with _ b2; injection a2 with a2
 obtain ⟨d3,q3,s3⟩:=hf 3 _ rfl
 obtain rfl:=Option.some.inj q3
 replace s3:Shp Tryz.prog (n + 1) 4 (([c0,c1,c2,c3,c4,c5,c6,c7,c8].drop 3).take (Tryz.prog.cellsOf 4)) _:=s3
 rw [show Tryz.prog.cellsOf 4=1 from by kernel_rfl] at s3
 replace s3:Shp Tryz.prog (n + 1) 4 [c3] ((.lit (.bool x.c):DataW H)):=s3
 obtain ⟨v3,a3,b3⟩:=s3.bool Tryz.underlying4
 injection b3 with b3; injection b3 with b3; injection a3 with a3
 obtain ⟨d4,q4,s4⟩:=hf 4 _ rfl
 obtain rfl:=Option.some.inj q4
 replace s4:Shp Tryz.prog (n + 1) 4 (([c0,c1,c2,c3,c4,c5,c6,c7,c8].drop 4).take (Tryz.prog.cellsOf 4)) _:=s4
 rw [show Tryz.prog.cellsOf 4=1 from by kernel_rfl] at s4
 replace s4:Shp Tryz.prog (n + 1) 4 [c4] ((.lit (.bool x.e):DataW H)):=s4
 obtain ⟨v4,a4,b4⟩:=s4.bool Tryz.underlying4
 injection b4 with b4; injection b4 with b4; injection a4 with a4
 obtain ⟨d5,q5,s5⟩:=hf 5 _ rfl
 obtain rfl:=Option.some.inj q5
 replace s5:Shp Tryz.prog (n + 1) 4 (([c0,c1,c2,c3,c4,c5,c6,c7,c8].drop 5).take (Tryz.prog.cellsOf 4)) _:=s5
 rw [show Tryz.prog.cellsOf 4=1 from by kernel_rfl] at s5
 replace s5:Shp Tryz.prog (n + 1) 4 [c5] ((.lit (.bool x.f):DataW H)):=s5
 obtain ⟨v5,a5,b5⟩:=s5.bool Tryz.underlying4
 injection b5 with b5; injection b5 with b5; injection a5 with a5
 obtain ⟨d6,q6,s6⟩:=hf 6 _ rfl
 obtain rfl:=Option.some.inj q6
 replace s6:Shp Tryz.prog (n + 1) 4 (([c0,c1,c2,c3,c4,c5,c6,c7,c8].drop 6).take (Tryz.prog.cellsOf 4)) _:=s6
 rw [show Tryz.prog.cellsOf 4=1 from by kernel_rfl] at s6
 replace s6:Shp Tryz.prog (n + 1) 4 [c6] ((.lit (.bool x.args):DataW H)):=s6
 obtain ⟨v6,a6,b6⟩:=s6.bool Tryz.underlying4
 injection b6 with b6; injection b6 with b6; injection a6 with a6
 obtain ⟨d7,q7,s7⟩:=hf 7 _ rfl
 obtain rfl:=Option.some.inj q7
 replace s7:Shp Tryz.prog (n + 1) 4 (([c0,c1,c2,c3,c4,c5,c6,c7,c8].drop 7).take (Tryz.prog.cellsOf 4)) _:=s7
 rw [show Tryz.prog.cellsOf 4=1 from by kernel_rfl] at s7
 replace s7:Shp Tryz.prog (n + 1) 4 [c7] ((.lit (.bool x.dist):DataW H)):=s7
 obtain ⟨v7,a7,b7⟩:=s7.bool Tryz.underlying4
 injection b7 with b7; injection b7 with b7; injection a7 with a7
 obtain ⟨d8,q8,s8⟩:=hf 8 _ rfl
 obtain rfl:=Option.some.inj q8
 replace s8:Shp Tryz.prog (n + 1) 4 (([c0,c1,c2,c3,c4,c5,c6,c7,c8].drop 8).take (Tryz.prog.cellsOf 4)) _:=s8
 rw [show Tryz.prog.cellsOf 4=1 from by kernel_rfl] at s8
 replace s8:Shp Tryz.prog (n + 1) 4 [c8] ((.lit (.bool x.preempt):DataW H)):=s8
 obtain ⟨v8,a8,b8⟩:=s8.bool Tryz.underlying4
 injection b8 with b8; injection b8 with b8; injection a8 with a8
 rw [a0,a1,a2,a3,a4,a5,a6,a7,a8,← b0,← b1,← b2,← b3,← b4,← b5,← b6,← b7,← b8]
 rfl
theorem Zq2 {W:World}{rest:List (String×DataW Unit)}(h:laidMet Tryz.prog (("simulator/code.forms",Rows.laid_simulator_code_forms) :: rest) W):GOk GF W:=by
 obtain ⟨ps,⟨g',t',cs,fuel,p,q,hg',ht',hvar,hd,_,_⟩,_⟩:=h
 obtain rfl:0=g':=Option.some.inj ((show Tryz.prog.globalNamed "simulator/code.forms" = some 0 by kernel_rfl).symm.trans hg')
 obtain rfl:168=t':=Option.some.inj ((show (Tryz.prog.globals[0]?).map (·.type)=some 168 by kernel_rfl).symm.trans ht')
 obtain ⟨az,s,hl,hr⟩:=Zb9 (Γ := fun _=>.imm) (fun _=>rfl) 4 fuel 168 cs.toList (Rows.laid_simulator_code_forms,p) (by kernel_rfl) hd (fun y hy=>by
  have:((Rows.laid_simulator_code_forms:DataW Unit).weights Tryz.prog 168).all (fun y=>decide (y≤reachBytes))=true:=by kernel_rfl
  exact of_decide_eq_true (List.all_eq_true.1 this y hy))
 obtain ⟨rows,rfl,_,h3⟩:=(Shp.mk s).slice Tryz.underlying168
 have hrows:rows=Hm.map ZmE:=by
  rw [Zt6] at h3
  rcases h3 with ⟨_,h⟩ | ⟨D,ds,spare,e1,e2,e3⟩
  ·cases h
  ·injection e1 with e1 _
   subst e1
   have hlen:rows.length=Hm.length:=by have:=congrArg List.length e2; simpa using this.symm
   refine List.ext_getElem? fun i=>?_
   rcases Nat.lt_or_ge i rows.length with hi | hi
   ·have hi':i < Hm.length:=by omega
    have hD:Zfb Hm[i]=D i:=by
     have:=congrArg (fun l:List (DataW Unit)=>l[i]?) e2
     simpa [hi,hi'] using this
    have h4:=e3 i rows[i] (List.getElem?_eq_getElem hi)
    rw [← hD] at h4
    rw [List.getElem?_eq_getElem hi,List.getElem?_map,List.getElem?_eq_getElem hi',Zq1 h4]; rfl
   ·rw [List.getElem?_eq_none hi,List.getElem?_eq_none (by rw [List.length_map]; omega)]
 subst hrows
 have h9:Tryz.prog.cellsOf 167=9:=by kernel_rfl
 rw [h9] at hr hl
 have hlt:0 < W.heap.size:=by
  rcases Nat.lt_or_ge 0 W.heap.size with h | h
  ·exact h
  ·have:=World.var?_cell (show Tryz.prog.globalNamed "simulator/code.forms" = some 0 by kernel_rfl) hvar 0
   rw [World.cell?,Array.getElem?_eq_none h] at this
   have hz:cs.size=1:=by simpa using hl.symm
   simp [hz] at this
 intro g cells hg
 unfold GF at hg
 split at hg <;> cases hg
 rename_i e; subst e
 refine ⟨hlt,fun j c hc=>?_⟩
 obtain ⟨k1,k2,k3,k4⟩:=hr j c hc
 have hj:j=0:=by have:=Zq hc; simp at this; omega
 subst hj
 have hz:cs.size=1:=by simpa using hl.symm
 refine ⟨_,?_,k3,k1⟩
 rw [World.var?_cell (show Tryz.prog.globalNamed "simulator/code.forms" = some 0 by kernel_rfl) hvar 0]
 simp [hz,List.getD]
end Go.Proofs.YtgjcjbhhhlelnaaGreatDoor
end
