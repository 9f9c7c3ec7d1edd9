import Derived.Test.YtgjcjbhhhlelnaaGreatDoorHWa17
set_option linter.all false
section
namespace Go.Proofs.YtgjcjbhhhlelnaaGreatDoor
open Go Go.RowKit Go.Proofs.YtgjcjbhhhlelnaaGreatDoor.Abs
set_option maxRecDepth 100000
set_option maxHeartbeats 0
def Zfz {H:Type}(x:IL):DataW H:=.agg [.lit (.string x.word),.lit (.int .i64 x.a),.lit (.int .i64 x.b),.lit (.bool x.c),.lit (.bool x.e),.lit (.bool x.f),.lit (.bool x.args),.lit (.bool x.dist),.lit (.bool x.preempt)]
theorem Zul {H:Type}:(Rows.laid_simulator_code_forms:DataW H)=.slice (Ii.map Zfz) []:=rfl
theorem Zrg {H:Type}{n:Nat}{r:List AV}{x:IL}(h:Shp Tryz.prog (n + 2) 167 r (Zfz x:DataW H)):r=Zno x:=by
 obtain ⟨hl,ds,e,_,hf⟩:=h.struct Tryz.underlying167
 rw [show Tryz.prog.cellsOf 167=9 from by kernel_rfl] at hl
 have hds:ds=[.lit (.string x.word),.lit (.int .i64 x.a),.lit (.int .i64 x.b),.lit (.bool x.c),.lit (.bool x.e),.lit (.bool x.f),.lit (.bool x.args),.lit (.bool x.dist),.lit (.bool x.preempt)]:=by unfold Zfz at e; injection e with e; exact e.symm
 subst hds
 obtain ⟨c0,r0,rfl,hl0⟩:=Zhy hl
 obtain ⟨c1,r1,rfl,hl1⟩:=Zhy hl0
 obtain ⟨c2,r2,rfl,hl2⟩:=Zhy hl1
 obtain ⟨c3,r3,rfl,hl3⟩:=Zhy hl2
 obtain ⟨c4,r4,rfl,hl4⟩:=Zhy hl3
 obtain ⟨c5,r5,rfl,hl5⟩:=Zhy hl4
 obtain ⟨c6,r6,rfl,hl6⟩:=Zhy hl5
 obtain ⟨c7,r7,rfl,hl7⟩:=Zhy hl6
 obtain ⟨c8,r8,rfl,hl8⟩:=Zhy hl7
 obtain rfl:=List.eq_nil_of_length_eq_zero hl8
 obtain ⟨d0,q0,s0⟩:=hf 0 _ rfl
 obtain rfl:=Option.some.inj q0
 replace s0:Shp Tryz.prog (n + 1) 9 (([c0,c1,c2,c3,c4,c5,c6,c7,c8].drop 0).take (Tryz.prog.cellsOf 9)) _:=s0
 rw [show Tryz.prog.cellsOf 9=1 from by kernel_rfl] at s0
 replace s0:Shp Tryz.prog (n + 1) 9 [c0] ((.lit (.string x.word):DataW H)):=s0
 obtain ⟨v0,a0,b0,_⟩:=s0.str Tryz.underlying9
 injection b0 with b0; injection b0 with b0; injection a0 with a0
 obtain ⟨d1,q1,s1⟩:=hf 1 _ rfl
 obtain rfl:=Option.some.inj q1
 replace s1:Shp Tryz.prog (n + 1) 165 (([c0,c1,c2,c3,c4,c5,c6,c7,c8].drop 1).take (Tryz.prog.cellsOf 165)) _:=s1
 rw [show Tryz.prog.cellsOf 165=1 from by kernel_rfl] at s1
 replace s1:Shp Tryz.prog (n + 1) 165 [c1] ((.lit (.int .i64 x.a):DataW H)):=s1
 obtain ⟨v1,a1,b1,_⟩:=s1.int Tryz.underlying165
 injection b1 with b1; injection b1 with _ b1; injection a1 with a1
 obtain ⟨d2,q2,s2⟩:=hf 2 _ rfl
 obtain rfl:=Option.some.inj q2
 replace s2:Shp Tryz.prog (n + 1) 165 (([c0,c1,c2,c3,c4,c5,c6,c7,c8].drop 2).take (Tryz.prog.cellsOf 165)) _:=s2
 rw [show Tryz.prog.cellsOf 165=1 from by kernel_rfl] at s2
 replace s2:Shp Tryz.prog (n + 1) 165 [c2] ((.lit (.int .i64 x.b):DataW H)):=s2
 obtain ⟨v2,a2,b2,_⟩:=s2.int Tryz.underlying165
 injection b2 with b2; injection b2 with _ b2; injection a2 with a2
 obtain ⟨d3,q3,s3⟩:=hf 3 _ rfl
 obtain rfl:=Option.some.inj q3
 replace s3:Shp Tryz.prog (n + 1) 4 (([c0,c1,c2,c3,c4,c5,c6,c7,c8].drop 3).take (Tryz.prog.cellsOf 4)) _:=s3
 rw [show Tryz.prog.cellsOf 4=1 from by kernel_rfl] at s3
 replace s3:Shp Tryz.prog (n + 1) 4 [c3] ((.lit (.bool x.c):DataW H)):=s3
 obtain ⟨v3,a3,b3⟩:=s3.bool Tryz.underlying4
 injection b3 with b3; injection b3 with b3; injection a3 with a3
 obtain ⟨d4,q4,s4⟩:=hf 4 _ rfl
 obtain rfl:=Option.some.inj q4
 replace s4:Shp Tryz.prog (n + 1) 4 (([c0,c1,c2,c3,c4,c5,c6,c7,c8].drop 4).take (Tryz.prog.cellsOf 4)) _:=s4
 rw [show Tryz.prog.cellsOf 4=1 from by kernel_rfl] at s4
 replace s4:Shp Tryz.prog (n + 1) 4 [c4] ((.lit (.bool x.e):DataW H)):=s4
 obtain ⟨v4,a4,b4⟩:=s4.bool Tryz.underlying4
 injection b4 with b4; injection b4 with b4; injection a4 with a4
 obtain ⟨d5,q5,s5⟩:=hf 5 _ rfl
 obtain rfl:=Option.some.inj q5
 replace s5:Shp Tryz.prog (n + 1) 4 (([c0,c1,c2,c3,c4,c5,c6,c7,c8].drop 5).take (Tryz.prog.cellsOf 4)) _:=s5
 rw [show Tryz.prog.cellsOf 4=1 from by kernel_rfl] at s5
 replace s5:Shp Tryz.prog (n + 1) 4 [c5] ((.lit (.bool x.f):DataW H)):=s5
 obtain ⟨v5,a5,b5⟩:=s5.bool Tryz.underlying4
 injection b5 with b5; injection b5 with b5; injection a5 with a5
 obtain ⟨d6,q6,s6⟩:=hf 6 _ rfl
 obtain rfl:=Option.some.inj q6
 replace s6:Shp Tryz.prog (n + 1) 4 (([c0,c1,c2,c3,c4,c5,c6,c7,c8].drop 6).take (Tryz.prog.cellsOf 4)) _:=s6
 rw [show Tryz.prog.cellsOf 4=1 from by kernel_rfl] at s6
 replace s6:Shp Tryz.prog (n + 1) 4 [c6] ((.lit (.bool x.args):DataW H)):=s6
 obtain ⟨v6,a6,b6⟩:=s6.bool Tryz.underlying4
 injection b6 with b6; injection b6 with b6; injection a6 with a6
 obtain ⟨d7,q7,s7⟩:=hf 7 _ rfl
 obtain rfl:=Option.some.inj q7
 replace s7:Shp Tryz.prog (n + 1) 4 (([c0,c1,c2,c3,c4,c5,c6,c7,c8].drop 7).take (Tryz.prog.cellsOf 4)) _:=s7
 rw [show Tryz.prog.cellsOf 4=1 from by kernel_rfl] at s7
 replace s7:Shp Tryz.prog (n + 1) 4 [c7] ((.lit (.bool x.dist):DataW H)):=s7
 obtain ⟨v7,a7,b7⟩:=s7.bool Tryz.underlying4
 injection b7 with b7; injection b7 with b7; injection a7 with a7
 obtain ⟨d8,q8,s8⟩:=hf 8 _ rfl
 obtain rfl:=Option.some.inj q8
 replace s8:Shp Tryz.prog (n + 1) 4 (([c0,c1,c2,c3,c4,c5,c6,c7,c8].drop 8).take (Tryz.prog.cellsOf 4)) _:=s8
 rw [show Tryz.prog.cellsOf 4=1 from by kernel_rfl] at s8
 replace s8:Shp Tryz.prog (n + 1) 4 [c8] ((.lit (.bool x.preempt):DataW H)):=s8
 obtain ⟨v8,a8,b8⟩:=s8.bool Tryz.underlying4
 injection b8 with b8; injection b8 with b8; injection a8 with a8
 rw [a0,a1,a2,a3,a4,a5,a6,a7,a8,← b0,← b1,← b2,← b3,← b4,← b5,← b6,← b7,← b8]
 rfl
theorem Zrh {W:World}{rest:List (String×DataW Unit)}(h:laidMet Tryz.prog (("simulator/code.forms",Rows.laid_simulator_code_forms) :: rest) W):GOk GF W:=by
 obtain ⟨ps,⟨g',t',cs,fuel,p,q,hg',ht',hvar,hd,_,_⟩,_⟩:=h
 obtain rfl:0=g':=Option.some.inj ((show Tryz.prog.globalNamed "simulator/code.forms" = some 0 by kernel_rfl).symm.trans hg')
 obtain rfl:168=t':=Option.some.inj ((show (Tryz.prog.globals[0]?).map (·.type)=some 168 by kernel_rfl).symm.trans ht')
 obtain ⟨az,s,hl,hr⟩:=ZbR (Γ := fun _=>.imm) (fun _=>rfl) 4 fuel 168 cs.toList (Rows.laid_simulator_code_forms,p) (by kernel_rfl) hd (fun y hy=>by
  have:((Rows.laid_simulator_code_forms:DataW Unit).weights Tryz.prog 168).all (fun y=>decide (y≤reachBytes))=true:=by kernel_rfl
  exact of_decide_eq_true (List.all_eq_true.1 this y hy))
 obtain ⟨rows,rfl,_,h3⟩:=(Shp.mk s).slice Tryz.underlying168
 have hrows:rows=Ii.map Zno:=by
  rw [Zul] at h3
  rcases h3 with ⟨_,h⟩ | ⟨D,ds,spare,e1,e2,e3⟩
  ·cases h
  ·injection e1 with e1 _
   subst e1
   have hlen:rows.length=Ii.length:=by have:=congrArg List.length e2; simpa using this.symm
   refine List.ext_getElem? fun i=>?_
   rcases Nat.lt_or_ge i rows.length with hi | hi
   ·have hi':i < Ii.length:=by omega
    have hD:Zfz Ii[i]=D i:=by
     have:=congrArg (fun l:List (DataW Unit)=>l[i]?) e2
     simpa [hi,hi'] using this
    have h4:=e3 i rows[i] (List.getElem?_eq_getElem hi)
    rw [← hD] at h4
    rw [List.getElem?_eq_getElem hi,List.getElem?_map,List.getElem?_eq_getElem hi',Zrg h4]; rfl
   ·rw [List.getElem?_eq_none hi,List.getElem?_eq_none (by rw [List.length_map]; omega)]
 subst hrows
 have h9:Tryz.prog.cellsOf 167=9:=by kernel_rfl
 rw [h9] at hr hl
 have hlt:0 < W.heap.size:=by
  rcases Nat.lt_or_ge 0 W.heap.size with h | h
  ·exact h
  ·have:=World.var?_cell (show Tryz.prog.globalNamed "simulator/code.forms" = some 0 by kernel_rfl) hvar 0
   rw [World.cell?,Array.getElem?_eq_none h] at this
   have hz:cs.size=1:=by simpa using hl.symm
   simp [hz] at this
 intro g cells hg
 unfold GF at hg
 split at hg <;> cases hg
 rename_i e; subst e
 refine ⟨hlt,fun j c hc=>?_⟩
 obtain ⟨k1,k2,k3,k4⟩:=hr j c hc
 have hj:j=0:=by have:=Zx hc; simp at this; omega
 subst hj
 have hz:cs.size=1:=by simpa using hl.symm
 refine ⟨_,?_,k3,k1⟩
 rw [World.var?_cell (show Tryz.prog.globalNamed "simulator/code.forms" = some 0 by kernel_rfl) hvar 0]
 simp [hz,List.getD]
end Go.Proofs.YtgjcjbhhhlelnaaGreatDoor
end
section
namespace Go.Proofs.YtgjcjbhhhlelnaaGreatDoor
open Go Go.Proofs.YtgjcjbhhhlelnaaGreatDoor.Abs Go.Proofs.YtgjcjbhhhlelnaaGreatDoor.Tl Go.Proofs.YtgjcjbhhhlelnaaGreatDoor.Gr
set_option maxRecDepth 100000
structure Mat (bs:Nat)(t0 t1:TypeId)(gp:Nat)(po:Zm)(g:Nat)(gs:List Nat)(n:Nat)(l:List (List Int))(hp:HP):Prop where
 top:hp[g]? = some (.cells (gs.map (fun x=>AV.arr x 0 n 1) ++ List.replicate (n - gs.length) (.own 1 [])) t0)
 le:gs.length≤n
 len:l.length=gs.length
 row:∀ (i x:Nat),gs[i]? = some x→(l.getD i []).length=n∧hp[x]? = some (.cells (YL (l.getD i [])) t1)
 inj:∀ (i j x:Nat),gs[i]? = some x→gs[j]? = some x→i=j
 ne:∀ x ∈ gs,x≠g∧x≠gp
 low:bs≤g∧∀ x ∈ gs,bs≤x
 prg:hp[gp]? = some po
 gne:g≠gp
section
variable {bs:Nat}{t0 t1:TypeId}{gp:Nat}{po:Zm}{g:Nat}{gs:List Nat}{n:Nat}{l:List (List Int)}{hp:HP}
theorem Na {h:HP}{i:Nat}{o:Zm}(e:h[i]? = some o)(x:Zm):(h ++ [x])[i]? = some o:=by rw [List.getElem?_append_left (List.getElem?_eq_some_iff.1 e).1]; exact e
theorem Mat.push (m:Mat bs t0 t1 gp po g gs n l hp)(o:Zm):Mat bs t0 t1 gp po g gs n l (hp ++ [o]) :=
 ⟨Na m.top o,m.le,m.len,fun i x h=>⟨(m.row i x h).1,Na (m.row i x h).2 o⟩,m.inj,m.ne,m.low,Na m.prg o,m.gne⟩
theorem Mat.at (m:Mat bs t0 t1 gp po g gs n l hp){i:Nat}(hi:i < gs.length):∃ x,gs[i]? = some x∧Y1 hp (.ptr g i)=some (.arr x 0 n 1)∧(l.getD i []).length=n∧hp[x]? = some (.cells (YL (l.getD i [])) t1):=by
 obtain ⟨x,hx⟩:∃ x,gs[i]? = some x:=⟨_,List.getElem?_eq_getElem hi⟩
 obtain ⟨r1,r2⟩:=m.row i x hx
 refine ⟨x,hx,?_,r1,r2⟩
 rw [Zjp m.top,List.getElem?_append_left (by rw [List.length_map]; exact hi),List.getElem?_map,hx]; rfl
theorem Zm0 (r:List Int)(k:Nat)(hk:k < r.length):(YL r)[k]? = some (.int .i64 (r.getD k 0)):=by
 rw [YL,List.getElem?_map,List.getD_eq_getElem?_getD,List.getElem?_eq_getElem hk]; rfl
theorem Mat.get (m:Mat bs t0 t1 gp po g gs n l hp){i k:Nat}(hi:i < gs.length)(hk:k < n){x:Nat}(hx:gs[i]? = some x):Y1 hp (.ptr x k)=some (.int .i64 (getM l i k)):=by
 obtain ⟨r1,r2⟩:=m.row i x hx
 rw [Zjp r2,Zm0 _ k (by omega)]; rfl
theorem Zhp (l:List (List Int))(i j:Nat)(r:List Int):(l.set i r).getD j []=if i=j∧i < l.length then r else l.getD j []:=by
 rw [List.getD_eq_getElem?_getD,List.getElem?_set]
 by_cases h:i=j
 ·subst h
  by_cases h2:i < l.length
  ·rw [if_pos rfl,if_pos h2,if_pos ⟨rfl,h2⟩]; rfl
  ·rw [if_pos rfl,if_neg h2,if_neg (fun c=>h2 c.2),List.getD_eq_getElem?_getD,List.getElem?_eq_none (by omega)]
 ·rw [if_neg h,if_neg (fun c=>h c.1),List.getD_eq_getElem?_getD]
theorem Mat.put (m:Mat bs t0 t1 gp po g gs n l hp){i k:Nat}(hk:k < n){x:Nat}(hx:gs[i]? = some x)(v:Int):Mat bs t0 t1 gp po g gs n (ZiL l i k v) (hp.set x (.cells (YL ((l.getD i []).set k v)) t1)):=by
 have hi:i < gs.length:=(List.getElem?_eq_some_iff.1 hx).1
 obtain ⟨r1,r2⟩:=m.row i x hx
 have hxl:=(List.getElem?_eq_some_iff.1 r2).1
 have hxm:=List.mem_of_getElem? hx
 obtain ⟨n1,n2⟩:=m.ne x hxm
 refine ⟨by rw [List.getElem?_set_ne n1]; exact m.top,m.le,by rw [ZiL,List.length_set]; exact m.len,fun j y hy=>?_,m.inj,m.ne,m.low,by rw [List.getElem?_set_ne n2]; exact m.prg,m.gne⟩
 rw [ZiL,Zhp]
 by_cases c:i=j
 ·subst c
  rw [hx] at hy; cases hy
  rw [if_pos ⟨rfl,by rw [m.len]; exact hi⟩,List.length_set]
  exact ⟨r1,by rw [List.getElem?_set_self hxl]⟩
 ·rw [if_neg (fun d=>c d.1)]
  have hxy:x≠y:=fun e=>c (m.inj i j x hx (by rw [e]; exact hy))
  rw [List.getElem?_set_ne hxy]; exact m.row j y hy
theorem Mat.stt (m:Mat bs t0 t1 gp po g gs n l hp){i k:Nat}(hk:k < n){x:Nat}(hx:gs[i]? = some x)(v:Int)(ef:Eff):Zq6 bs (.ptr x k) (.int .i64 v) hp ef=some (hp.set x (.cells (YL ((l.getD i []).set k v)) t1),ef):=by
 obtain ⟨r1,r2⟩:=m.row i x hx
 exact Zs0 r2 (by omega) v bs (m.low.2 x (List.mem_of_getElem? hx)) ef
theorem Mat.st (m:Mat bs t0 t1 gp po g gs n l hp){i k:Nat}(hk:k < n){x:Nat}(hx:gs[i]? = some x)(v:Int)(ef:Eff):stV bs 1 (.ptr x k) (.int .i64 v) hp ef=some (hp.set x (.cells (YL ((l.getD i []).set k v)) t1),ef):=by
 obtain ⟨r1,r2⟩:=m.row i x hx
 have hb:=m.low.2 x (List.mem_of_getElem? hx)
 have h0:¬ x < bs:=by omega
 have e:splice (YL (l.getD i [])) k [AV.int .i64 v]=YL ((l.getD i []).set k v):=by
  rw [YL,YL,List.map_set,List.set_eq_take_append_cons_drop,if_pos (by rw [List.length_map]; omega)]
  simp only [splice,List.length_singleton,List.append_assoc,List.singleton_append]
 simp only [stV,r2,Nl,if_neg h0,AV.cells]
 rw [if_pos ⟨rfl,by rw [List.length_map]; omega,rfl⟩,e]
theorem Mat.more (m:Mat bs t0 t1 gp po g gs n l hp)(hlt:gs.length < n)(hbs:bs≤hp.length){r:List Int}(hr:r.length=n)(ef:Eff) :
  ∃ hp',Zq6 bs (.ptr g gs.length) (.arr hp.length 0 n 1) (hp ++ [.cells (YL r) t1]) ef=some (hp',ef)∧Mat bs t0 t1 gp po g (gs ++ [hp.length]) n (l ++ [r]) hp'∧hp'.length=hp.length + 1:=by
 have hg:g < hp.length:=(List.getElem?_eq_some_iff.1 m.top).1
 have hgp:gp < hp.length:=(List.getElem?_eq_some_iff.1 m.prg).1
 have htop:=Na m.top (.cells (YL r) t1)
 have h0:¬ g < bs:=by have:=m.low.1; omega
 have hx:∀ x ∈ gs,x < hp.length:=fun x hx=>by
  obtain ⟨i,hi⟩:=List.mem_iff_getElem?.1 hx
  exact (List.getElem?_eq_some_iff.1 (m.row i x hi).2).1
 have e1:(gs.map (fun x=>AV.arr x 0 n 1) ++ List.replicate (n - gs.length) (AV.own 1 [])).set gs.length (.arr hp.length 0 n 1)=(gs ++ [hp.length]).map (fun x=>AV.arr x 0 n 1) ++ List.replicate (n - (gs ++ [hp.length]).length) (AV.own 1 []):=by
  rw [List.set_append_right _ _ (by rw [List.length_map]; omega),List.length_map,Nat.sub_self]
  obtain ⟨q,hq⟩:∃ q,n - gs.length=q + 1:=⟨n - gs.length - 1,by omega⟩
  rw [hq,List.replicate_succ,List.set_cons_zero,List.map_append,List.append_assoc]
  simp only [List.length_append,List.length_singleton,List.map_cons,List.map_nil,List.singleton_append]
  rw [show n - (gs.length + 1)=q by omega]
 refine ⟨(hp ++ [Zm.cells (YL r) t1]).set g (Zm.cells ((gs ++ [hp.length]).map (fun x=>AV.arr x 0 n 1) ++ List.replicate (n - (gs ++ [hp.length]).length) (AV.own 1 [])) t0),?_,?_,by simp⟩
 ·simp only [Zq6,htop,Nl,if_neg h0]
  rw [if_pos ⟨rfl,by simp; omega⟩,e1]
 ·have hgl:g < (hp ++ [Zm.cells (YL r) t1]).length:=by simp; omega
  refine ⟨by rw [List.getElem?_set_self hgl],by simp; omega,by simp [m.len],fun i x hxi=>?_,fun i j x h1 h2=>?_,fun x hxm=>?_,⟨m.low.1,fun x hxm=>?_⟩,by rw [List.getElem?_set_ne m.gne]; exact Na m.prg _,m.gne⟩
  ·rcases Nat.lt_or_ge i gs.length with hi | hi
   ·rw [List.getElem?_append_left hi] at hxi
    obtain ⟨r1,r2⟩:=m.row i x hxi
    have hxm:=m.ne x (List.mem_of_getElem? hxi)
    have e:(l ++ [r]).getD i []=l.getD i []:=by
     rw [List.getD_eq_getElem?_getD,List.getElem?_append_left (by rw [m.len]; exact hi),List.getD_eq_getElem?_getD]
    rw [e,List.getElem?_set_ne (fun c=>hxm.1 c.symm)]
    exact ⟨r1,Na r2 _⟩
   ·rw [List.getElem?_append_right hi] at hxi
    have hi0:i - gs.length=0:=by
     have:=(List.getElem?_eq_some_iff.1 hxi).1; simp at this; omega
    rw [hi0] at hxi; cases hxi
    have e:(l ++ [r]).getD i []=r:=by
     rw [List.getD_eq_getElem?_getD,List.getElem?_append_right (by rw [m.len]; exact hi),m.len,hi0]; rfl
    rw [e,List.getElem?_set_ne (by omega),Ji]
    exact ⟨hr,rfl⟩
  ·rcases Nat.lt_or_ge i gs.length with hi | hi <;> rcases Nat.lt_or_ge j gs.length with hj | hj
   ·rw [List.getElem?_append_left hi] at h1; rw [List.getElem?_append_left hj] at h2; exact m.inj i j x h1 h2
   ·rw [List.getElem?_append_left hi] at h1; rw [List.getElem?_append_right hj] at h2
    have:=hx x (List.mem_of_getElem? h1)
    have hj0:j - gs.length=0:=by
     have:=(List.getElem?_eq_some_iff.1 h2).1; simp at this; omega
    rw [hj0] at h2; cases h2; omega
   ·rw [List.getElem?_append_right hi] at h1; rw [List.getElem?_append_left hj] at h2
    have:=hx x (List.mem_of_getElem? h2)
    have hi0:i - gs.length=0:=by
     have:=(List.getElem?_eq_some_iff.1 h1).1; simp at this; omega
    rw [hi0] at h1; cases h1; omega
   ·rw [List.getElem?_append_right hi] at h1; rw [List.getElem?_append_right hj] at h2
    have:=(List.getElem?_eq_some_iff.1 h1).1; have:=(List.getElem?_eq_some_iff.1 h2).1
    simp at *; omega
  ·rcases List.mem_append.1 hxm with hxm | hxm
   ·exact m.ne x hxm
   ·obtain rfl:=List.mem_singleton.1 hxm; exact ⟨by omega,by omega⟩
  ·rcases List.mem_append.1 hxm with hxm | hxm
   ·exact m.low.2 x hxm
   ·obtain rfl:=List.mem_singleton.1 hxm; exact hbs
def Zky (r:List Int):List (List AV):=r.map fun x=>[.int .i64 x]
theorem Mat.fin {hp0:HP}(m:Mat hp0.length t0 t1 gp po g gs n l hp)(hn:gs.length=n):ZdB false hp0 (.arr g 0 n 1) hp none=(.lst 1 (l.map fun r=>[.lst 1 (Zky r)]),hp0,none):=by
 have hb:¬ g < hp0.length:=by have:=m.low.1; omega
 have e1:gs.map (fun x=>AV.arr x 0 n 1) ++ List.replicate (n - gs.length) (AV.own 1 [])=gs.map (fun x=>AV.arr x 0 n 1):=by rw [hn,Nat.sub_self]; simp
 have hm:∀ q:List Nat,∀ k:Nat,(∀ (i x:Nat),q[i]? = some x→gs[k + i]? = some x)→(q.map (fun x=>AV.arr x 0 n 1)).mapM (ZaX hp0.length hp 3)=some (((l.drop k).take q.length).map fun r=>AV.lst 1 (Zky r)):=by
  intro q
  induction q with
  | nil=>intro k _; rfl
  | cons x q ih =>
   intro k hq
   have hx:=hq 0 x rfl
   rw [Nat.add_zero] at hx
   obtain ⟨r1,r2⟩:=m.row k x hx
   have hk:k < l.length:=by rw [m.len]; exact (List.getElem?_eq_some_iff.1 hx).1
   have e2:=Zo9 (d := 2) (m.low.2 x (List.mem_of_getElem? hx)) r2 r1
   have e3:=ih (k + 1) fun i y hy=>by
    have:=hq (i + 1) y (by simpa using hy)
    rwa [show k + (i + 1)=k + 1 + i by omega] at this
   rw [List.map_cons,List.mapM_cons,e2,e3]
   rw [List.drop_eq_getElem_cons hk,List.length_cons,List.take_succ_cons,List.map_cons]
   have e4:l.getD k []=l[k]:=by rw [List.getD_eq_getElem?_getD,List.getElem?_eq_getElem hk]; rfl
   rw [e4]; rfl
 have h2:=hm gs 0 fun i x h=>by rw [Nat.zero_add]; exact h
 rw [List.drop_zero,List.take_of_length_le (by rw [m.len]; exact Nat.le_refl _)] at h2
 have h3:frz hp0.length hp (.arr g 0 n 1)=some (.lst 1 (l.map fun r=>[.lst 1 (Zky r)])):=by
  show ZaX hp0.length hp 4 (.arr g 0 n 1)=_
  have ht:=m.top
  rw [e1] at ht
  rw [ZaX,if_neg hb]
  simp only [ht]
  have hl:(gs.map (fun x=>AV.arr x 0 n 1)).length=n:=by rw [List.length_map]; exact hn
  rw [if_pos (by omega),List.drop_zero,List.take_of_length_le (by omega),h2]
  simp only [Option.bind_some]
  have h5:(l.map fun r=>AV.lst 1 (Zky r)).all AV.noId1=true:=by simp [AV.noId1]
  have h6:(l.map fun r=>AV.lst 1 (Zky r)).length=n:=by rw [List.length_map,m.len]; exact hn
  rw [if_pos h5,← h6,ZbT,List.map_map]; rfl
 unfold ZdB finish
 simp only [h3]
 rfl
end
end Go.Proofs.YtgjcjbhhhlelnaaGreatDoor
end
section
namespace Go.Proofs.YtgjcjbhhhlelnaaGreatDoor
open Go Go.Proofs.YtgjcjbhhhlelnaaGreatDoor.Abs
set_option maxRecDepth 100000
set_option maxHeartbeats 0
def Zg:List Nat:=[96,97]
def X8:WP :=
 .seq (.region false [⟨(some 24),.bin .lss .prim (.tmp 23) (.tmp 22),none⟩])
 (.seq (.cond (.tmp 24) (.skip)
  (.exit 0))
  (.seq (.block 1 (.seq (.region false [⟨(some 25),.mv (.tmp 23),none⟩,
     ⟨(some 5),.take 25,none⟩])
   (.seq (.region false [⟨(some 26),.mv (.tmp 4),none⟩,
     ⟨(some 27),.mv (.tmp 5),none⟩,
     ⟨(some 28),.lit 3 1 [(.const (.int .i64 (-1)))],none⟩,
     ⟨(some 29),.mv (.tmp 3),none⟩,
     ⟨(some 30),.call (.const (.fn 28 [] [])) [(.inr (.tmp 28)),(.inr (.tmp 29))],none⟩,
     ⟨(some 31),.ia (.slice 1) (.tmp 26) (.tmp 27),none⟩,
     ⟨none,.stt (.tmp 31) 30,none⟩])
    (.region false [⟨(some 32),.mv (.tmp 4),none⟩,
     ⟨(some 33),.mv (.tmp 5),none⟩,
     ⟨(some 34),.ia (.slice 1) (.tmp 32) (.tmp 33),none⟩,
     ⟨(some 35),.ldc (.tmp 34),none⟩,
     ⟨(some 36),.mv (.tmp 5),none⟩,
     ⟨(some 37),.ia (.slice 1) (.tmp 35) (.tmp 36),none⟩,
     ⟨none,.st 1 (.tmp 37) (.const (.int .i64 0)),none⟩]))))
  (.region false [⟨(some 38),.bin .add .prim (.tmp 23) (.const (.int .i64 1)),none⟩,
    ⟨(some 23),.mv (.tmp 38),none⟩])))
def UX:WP:=.loop X8
def X9:WP :=
 .seq (.region false [⟨(some 43),.bin .lss .prim (.tmp 42) (.tmp 41),none⟩])
 (.seq (.cond (.tmp 43) (.skip)
  (.exit 2))
  (.seq (.block 3 (.seq (.region false [⟨(some 44),.ia (.slice 3) (.tmp 40) (.tmp 42),none⟩,
     ⟨(some 45),.lda 3 (.tmp 44),none⟩,
     ⟨(some 7),.mk 36 [(.int .i64 0),(.int .i64 0),(.int .i64 0)],none⟩,
     ⟨none,.st 3 (.tmp 7) (.tmp 45),none⟩])
   (.region true [⟨(some 46),.mv (.tmp 4),none⟩,
     ⟨(some 47),.fa 0 (.tmp 7),none⟩,
     ⟨(some 48),.ldc (.tmp 47),none⟩,
     ⟨(some 49),.ia (.slice 1) (.tmp 46) (.tmp 48),none⟩,
     ⟨(some 50),.ldc (.tmp 49),none⟩,
     ⟨(some 51),.fa 1 (.tmp 7),none⟩,
     ⟨(some 52),.ldc (.tmp 51),none⟩,
     ⟨(some 53),.mv (.tmp 4),none⟩,
     ⟨(some 54),.fa 0 (.tmp 7),none⟩,
     ⟨(some 55),.ldc (.tmp 54),none⟩,
     ⟨(some 56),.ia (.slice 1) (.tmp 53) (.tmp 55),none⟩,
     ⟨(some 57),.ldc (.tmp 56),none⟩,
     ⟨(some 58),.fa 1 (.tmp 7),none⟩,
     ⟨(some 59),.ldc (.tmp 58),none⟩,
     ⟨(some 60),.ia (.slice 1) (.tmp 57) (.tmp 59),none⟩,
     ⟨(some 61),.ldc (.tmp 60),none⟩,
     ⟨(some 62),.fa 2 (.tmp 7),none⟩,
     ⟨(some 63),.ldc (.tmp 62),none⟩,
     ⟨(some 64),.call (.const (.fn 29 [] [])) [(.inr (.tmp 61)),(.inr (.tmp 63))],none⟩,
     ⟨(some 65),.ia (.slice 1) (.tmp 50) (.tmp 52),none⟩,
     ⟨none,.stt (.tmp 65) 64,none⟩])))
  (.region false [⟨(some 66),.bin .add .prim (.tmp 42) (.const (.int .i64 1)),none⟩,
    ⟨(some 42),.mv (.tmp 66),none⟩])))
def UY:WP:=.loop X9
def XA:WP :=
 .seq (.region false [⟨(some 77),.bin .lss .prim (.tmp 76) (.tmp 75),none⟩])
 (.seq (.cond (.tmp 77) (.skip)
  (.exit 8))
  (.seq (.block 9 (.seq (.region false [⟨(some 78),.mv (.tmp 76),none⟩,
     ⟨(some 10),.take 78,none⟩])
   (.seq (.region true [⟨(some 79),.mv (.tmp 4),none⟩,
     ⟨(some 80),.mv (.tmp 9),none⟩,
     ⟨(some 81),.ia (.slice 1) (.tmp 79) (.tmp 80),none⟩,
     ⟨(some 82),.ldc (.tmp 81),none⟩,
     ⟨(some 83),.mv (.tmp 8),none⟩,
     ⟨(some 84),.ia (.slice 1) (.tmp 82) (.tmp 83),none⟩,
     ⟨(some 85),.ldc (.tmp 84),none⟩,
     ⟨(some 86),.mv (.tmp 4),none⟩,
     ⟨(some 87),.mv (.tmp 8),none⟩,
     ⟨(some 88),.ia (.slice 1) (.tmp 86) (.tmp 87),none⟩,
     ⟨(some 89),.ldc (.tmp 88),none⟩,
     ⟨(some 90),.mv (.tmp 10),none⟩,
     ⟨(some 91),.ia (.slice 1) (.tmp 89) (.tmp 90),none⟩,
     ⟨(some 92),.ldc (.tmp 91),none⟩,
     ⟨(some 11),.mv (.tmp 85),none⟩,
     ⟨(some 12),.mv (.tmp 92),none⟩])
    (.seq (.region false [⟨(some 93),.mv (.tmp 11),none⟩,
      ⟨(some 94),.bin .neq .prim (.tmp 93) (.const (.int .i64 (-1))),none⟩,
      ⟨(some 95),.mv (.tmp 94),none⟩,
      ⟨(some 96),.mv (.tmp 12),(some (95,true))⟩,
      ⟨(some 97),.bin .neq .prim (.tmp 96) (.const (.int .i64 (-1))),(some (95,true))⟩,
      ⟨(some 98),.pick (.tmp 95) (.tmp 97) (.const (.bool false)),none⟩])
    (.cond (.tmp 98) (.region true [⟨(some 99),.mv (.tmp 4),none⟩,
      ⟨(some 100),.mv (.tmp 9),none⟩,
      ⟨(some 101),.ia (.slice 1) (.tmp 99) (.tmp 100),none⟩,
      ⟨(some 102),.ldc (.tmp 101),none⟩,
      ⟨(some 103),.mv (.tmp 10),none⟩,
      ⟨(some 104),.mv (.tmp 4),none⟩,
      ⟨(some 105),.mv (.tmp 9),none⟩,
      ⟨(some 106),.ia (.slice 1) (.tmp 104) (.tmp 105),none⟩,
      ⟨(some 107),.ldc (.tmp 106),none⟩,
      ⟨(some 108),.mv (.tmp 10),none⟩,
      ⟨(some 109),.ia (.slice 1) (.tmp 107) (.tmp 108),none⟩,
      ⟨(some 110),.ldc (.tmp 109),none⟩,
      ⟨(some 111),.mv (.tmp 11),none⟩,
      ⟨(some 112),.mv (.tmp 12),none⟩,
      ⟨(some 113),.call (.const (.fn 30 [] [])) [(.inr (.tmp 111)),(.inr (.tmp 112))],none⟩,
      ⟨(some 114),.call (.const (.fn 29 [] [])) [(.inr (.tmp 110)),(.inr (.tmp 113))],none⟩,
      ⟨(some 115),.ia (.slice 1) (.tmp 102) (.tmp 103),none⟩,
      ⟨none,.stt (.tmp 115) 114,none⟩])
     (.skip))))))
  (.region false [⟨(some 116),.bin .add .prim (.tmp 76) (.const (.int .i64 1)),none⟩,
    ⟨(some 76),.mv (.tmp 116),none⟩])))
def Kq:WP:=.loop XA
def UU:WP :=
 .region false [⟨(some 117),.bin .add .prim (.tmp 72) (.const (.int .i64 1)),none⟩,
  ⟨(some 72),.mv (.tmp 117),none⟩]
def Qo:WP :=
 .seq (.region false [⟨(some 73),.bin .lss .prim (.tmp 72) (.tmp 71),none⟩])
 (.seq (.cond (.tmp 73) (.skip)
  (.exit 6))
  (.seq (.block 7 (.seq (.region false [⟨(some 74),.mv (.tmp 72),none⟩,
     ⟨(some 9),.take 74,none⟩])
   (.seq (.region false [⟨(some 75),.mv (.tmp 3),none⟩,
     ⟨(some 76),.mv (.const (.int .i64 0)),none⟩])
    (.block 8 (Kq)))))
  UU))
def Ko:WP:=.loop Qo
def UV:WP :=
 .region false [⟨(some 118),.bin .add .prim (.tmp 68) (.const (.int .i64 1)),none⟩,
  ⟨(some 68),.mv (.tmp 118),none⟩]
def Qn:WP :=
 .seq (.region false [⟨(some 69),.bin .lss .prim (.tmp 68) (.tmp 67),none⟩])
 (.seq (.cond (.tmp 69) (.skip)
  (.exit 4))
  (.seq (.block 5 (.seq (.region false [⟨(some 70),.mv (.tmp 68),none⟩,
     ⟨(some 8),.take 70,none⟩])
   (.seq (.region false [⟨(some 71),.mv (.tmp 3),none⟩,
     ⟨(some 72),.mv (.const (.int .i64 0)),none⟩])
    (.block 6 (Ko)))))
  UV))
def UZ:WP:=.loop Qn
def UW:WP :=
 .seq (.region false [⟨(some 119),.take 4,none⟩,
   ⟨(some 2),.take 119,none⟩])
 (.ret)
def Vj:WP :=
 .seq (.seq (.region false [⟨(some 67),.mv (.tmp 3),none⟩,
   ⟨(some 68),.mv (.const (.int .i64 0)),none⟩])
  (.block 4 (UZ)))
 UW
def Vh:WP :=
 .seq (.seq (.region false [⟨(some 39),.fa 2 (.tmp 1),none⟩,
   ⟨(some 40),.ldc (.tmp 39),none⟩,
   ⟨(some 41),.len .slice (.tmp 40),none⟩,
   ⟨(some 42),.mv (.const (.int .i64 0)),none⟩])
  (.block 2 (UY)))
 Vj
def JD:WP :=
 .seq (.region false [⟨(some 1),.box 25 3 (.tmp 0),none⟩,
   ⟨(some 2),.mv (.const (.own 1 [])),none⟩])
 (.seq (.seq (.region false [⟨(some 13),.lda 3 (.tmp 1),none⟩,
    ⟨(some 14),.call (.const (.fn 25 [] [])) [(.inr (.tmp 13))],none⟩,
    ⟨(some 15),.bin .neq .prim (.tmp 14) (.const (.int .i64 0)),none⟩])
  (.cond (.tmp 15) (.seq (.region false [⟨(some 2),.mv (.const (.own 1 [])),none⟩])
   (.ret))
   (.skip)))
  (.seq (.region false [⟨(some 16),.fa 1 (.tmp 1),none⟩,
    ⟨(some 17),.ldc (.tmp 16),none⟩,
    ⟨(some 18),.len .slice (.tmp 17),none⟩,
    ⟨(some 3),.take 18,none⟩])
  (.seq (.region false [⟨(some 19),.mv (.tmp 3),none⟩,
    ⟨(some 20),.mksl 26 [(.own 1 [])] (.tmp 19),none⟩,
    ⟨(some 4),.take 20,none⟩])
   (.seq (.seq (.region false [⟨(some 21),.mv (.tmp 4),none⟩,
     ⟨(some 22),.len .slice (.tmp 21),none⟩,
     ⟨(some 23),.mv (.const (.int .i64 0)),none⟩])
    (.block 0 (UX)))
   Vh))))
def Zp:AFn:=⟨120,[.tmp 2],JD,false⟩
theorem Ur:Og=Zp:=by kernel_rfl
def QG (G:GT)(K:KT)(L:Nat)(hp0:HP)(y4:AV)(hp:HP)(ef:Eff):KR :=
 some (ZdB false hp0 y4 hp ef)
theorem OJ (G:GT)(K:KT)(L:Nat)(hp0:HP)   : WA G 120 hp0.length K Zg L UW (Tu Zg Zp hp0) (Tu Zg Zp hp0) []=fun e hp ef=>QG G K L hp0  (e 4).val hp ef:=by
 kernel_rfl
def QF (G:GT)(K:KT)(L:Nat)(hp0:HP)(kn:AV→AV→AV→AV→AV→HP→Eff→KR)(x3:AV)(x4:AV)(y4:AV)(x67:AV)(x68:AV)(hp:HP)(ef:Eff):KR :=
 YV (ZM .add .prim x68 (.int .i64 1)) fun v13 =>
 kn x3 x4 y4 x67 v13 hp ef
theorem OI (G:GT)(K:KT)(L:Nat)(hp0:HP)(kn:AV→AV→AV→AV→AV→HP→Eff→KR)(z4:IW):WA G 120 hp0.length K Zg L UV (fun e hp ef=>kn (e 3).rd (e 4).rd (e 4).val (e 67).rd (e 68).rd hp ef) (Tu Zg Zp hp0) [(4,z4)]=fun e hp ef=>QF G K L hp0 kn (e 3).rd (e 4).rd (e 4).val (e 67).rd (e 68).rd hp ef:=by
 kernel_rfl
def QE (G:GT)(K:KT)(L:Nat)(hp0:HP)(kn:AV→AV→AV→AV→AV→AV→AV→AV→HP→Eff→KR)(x3:AV)(x4:AV)(y4:AV)(x8:AV)(x67:AV)(x68:AV)(x71:AV)(x72:AV)(hp:HP)(ef:Eff):KR :=
 YV (ZM .add .prim x72 (.int .i64 1)) fun v15 =>
 kn x3 x4 y4 x8 x67 x68 x71 v15 hp ef
theorem OH (G:GT)(K:KT)(L:Nat)(hp0:HP)(kn:AV→AV→AV→AV→AV→AV→AV→AV→HP→Eff→KR)(z6 z5 z4:IW):WA G 120 hp0.length K Zg L UU (fun e hp ef=>kn (e 3).rd (e 4).rd (e 4).val (e 8).rd (e 67).rd (e 68).rd (e 71).rd (e 72).rd hp ef) (Tu Zg Zp hp0) [(6,z6),(5,z5),(4,z4)]=fun e hp ef=>QE G K L hp0 kn (e 3).rd (e 4).rd (e 4).val (e 8).rd (e 67).rd (e 68).rd (e 71).rd (e 72).rd hp ef:=by
 kernel_rfl
def Y4 (G:GT)(K:KT)(L:Nat)(hp0:HP)(k8:AV→AV→AV→AV→AV→AV→AV→AV→HP→Eff→KR):Nat→AV→AV→AV→AV→AV→AV→AV→AV→AV→AV→AV→HP→Eff→KR
 | 0,_,_,_,_,_,_,_,_,_,_,_,_,_=>none
 | m + 1,x3,x4,y4,x8,x9,x67,x68,x71,x72,x75,x76,hp,ef =>
  YV (ZM .lss .prim x76 x75) fun v16 =>
  ifK v16
  (YV (V8 (.slice 1) x4 x9) fun v17 =>
  YV (Y1 hp v17) fun v18 =>
  YV (V8 (.slice 1) v18 x8) fun v19 =>
  YV (Y1 hp v19) fun v20 =>
  YV (V8 (.slice 1) x4 x8) fun v21 =>
  YV (Y1 hp v21) fun v22 =>
  YV (V8 (.slice 1) v22 x76) fun v23 =>
  YV (Y1 hp v23) fun v24 =>
  YV (ZM .neq .prim v20 (.int .i64 (-1))) fun v25 =>
  Zf1 v25 true
  (YV (ZM .neq .prim v24 (.int .i64 (-1))) fun v26 =>
  some (v26,hp,ef))
  (some (.bool false)) hp ef fun v27 h28 f29 =>
  ifK (AV.ro v27)
  (YV (V8 (.slice 1) x4 x9) fun v30 =>
  YV (Y1 h28 v30) fun v31 =>
  YV (V8 (.slice 1) x4 x9) fun v32 =>
  YV (Y1 h28 v32) fun v33 =>
  YV (V8 (.slice 1) v33 x76) fun v34 =>
  YV (Y1 h28 v34) fun v35 =>
  Ik (Wj K Gq [v20,v24] h28) fun v36 h37 f38 =>
  Ik (Wj K Yi [v35,(AV.ro v36)] h37) fun v39 h40 f41 =>
  YV (V8 (.slice 1) v31 x76) fun v42 =>
  Zd0 (Zq6 hp0.length v42 v39 h40 (Gy hp0.length (Gy hp0.length f29 f38) f41)) fun h43 f44 =>
  YV (ZM .add .prim x76 (.int .i64 1)) fun v45 =>
  Y4 G K L hp0 k8 m x3 x4 y4 x8 x9 x67 x68 x71 x72 x75 v45 h43 f44)
  (YV (ZM .add .prim x76 (.int .i64 1)) fun v46 =>
  Y4 G K L hp0 k8 m x3 x4 y4 x8 x9 x67 x68 x71 x72 x75 v46 h28 f29))
  (k8 x3 x4 y4 x8 x67 x68 x71 x72 hp ef)
theorem OZ (G:GT)(K:KT)(L:Nat)(hp0:HP)(k8:AV→AV→AV→AV→AV→AV→AV→AV→HP→Eff→KR)(z7 z6 z5 z4:IW):∀ m,Dz (fun n'=>WA G 120 hp0.length K Zg L XA n' (Tu Zg Zp hp0) [(8,(fun e hp ef=>k8 (e 3).rd (e 4).rd (e 4).val (e 8).rd (e 67).rd (e 68).rd (e 71).rd (e 72).rd hp ef)),(7,z7),(6,z6),(5,z5),(4,z4)]) m=fun e hp ef=>Y4 G K L hp0 k8 m (e 3).rd (e 4).rd (e 4).val (e 8).rd (e 9).rd (e 67).rd (e 68).rd (e 71).rd (e 72).rd (e 75).rd (e 76).rd hp ef:=by
 intro m
 induction m with
 | zero=>rfl
 | succ m ih =>
  show WA G 120 hp0.length K Zg L XA (Dz _ m) (Tu Zg Zp hp0) [(8,(fun e hp ef=>k8 (e 3).rd (e 4).rd (e 4).val (e 8).rd (e 67).rd (e 68).rd (e 71).rd (e 72).rd hp ef)),(7,z7),(6,z6),(5,z5),(4,z4)]=_
  rw [ih]
  kernel_rfl
theorem OY (G:GT)(K:KT)(L:Nat)(hp0:HP)(k8:AV→AV→AV→AV→AV→AV→AV→AV→HP→Eff→KR)(z7 z6 z5 z4:IW)(zn:IW):WA G 120 hp0.length K Zg L Kq zn (Tu Zg Zp hp0) [(8,(fun e hp ef=>k8 (e 3).rd (e 4).rd (e 4).val (e 8).rd (e 67).rd (e 68).rd (e 71).rd (e 72).rd hp ef)),(7,z7),(6,z6),(5,z5),(4,z4)]=fun e hp ef=>Y4 G K L hp0 k8 L (e 3).rd (e 4).rd (e 4).val (e 8).rd (e 9).rd (e 67).rd (e 68).rd (e 71).rd (e 72).rd (e 75).rd (e 76).rd hp ef:=OZ G K L hp0 k8 z7 z6 z5 z4 L
def Yn (G:GT)(K:KT)(L:Nat)(hp0:HP)(k6:AV→AV→AV→AV→AV→HP→Eff→KR):Nat→AV→AV→AV→AV→AV→AV→AV→AV→HP→Eff→KR
 | 0,_,_,_,_,_,_,_,_,_,_=>none
 | m + 1,x3,x4,y4,x8,x67,x68,x71,x72,hp,ef =>
  YV (ZM .lss .prim x72 x71) fun v14 =>
  ifK v14
  (Y4 G K L hp0 (QE G K L hp0 (Yn G K L hp0 k6 m)) L x3 x4 y4 x8 x72 x67 x68 x71 x72 x3 (.int .i64 0) hp ef)
  (k6 x3 x4 y4 x67 x68 hp ef)
theorem OX (G:GT)(K:KT)(L:Nat)(hp0:HP)(k6:AV→AV→AV→AV→AV→HP→Eff→KR)(z5 z4:IW):∀ m,Dz (fun n'=>WA G 120 hp0.length K Zg L Qo n' (Tu Zg Zp hp0) [(6,(fun e hp ef=>k6 (e 3).rd (e 4).rd (e 4).val (e 67).rd (e 68).rd hp ef)),(5,z5),(4,z4)]) m=fun e hp ef=>Yn G K L hp0 k6 m (e 3).rd (e 4).rd (e 4).val (e 8).rd (e 67).rd (e 68).rd (e 71).rd (e 72).rd hp ef:=by
 intro m
 induction m with
 | zero=>rfl
 | succ m ih =>
  show WA G 120 hp0.length K Zg L Qo (Dz _ m) (Tu Zg Zp hp0) [(6,(fun e hp ef=>k6 (e 3).rd (e 4).rd (e 4).val (e 67).rd (e 68).rd hp ef)),(5,z5),(4,z4)]=_
  rw [ih]
  simp only [Qo,Ut,XB,XC,VN]
  rw [OH G K L hp0 (Yn G K L hp0 k6 m) _ _ _,OY G K L hp0 (QE G K L hp0 (Yn G K L hp0 k6 m)) _ _ _ _ _]
  kernel_rfl
theorem OW (G:GT)(K:KT)(L:Nat)(hp0:HP)(k6:AV→AV→AV→AV→AV→HP→Eff→KR)(z5 z4:IW)(zn:IW):WA G 120 hp0.length K Zg L Ko zn (Tu Zg Zp hp0) [(6,(fun e hp ef=>k6 (e 3).rd (e 4).rd (e 4).val (e 67).rd (e 68).rd hp ef)),(5,z5),(4,z4)]=fun e hp ef=>Yn G K L hp0 k6 L (e 3).rd (e 4).rd (e 4).val (e 8).rd (e 67).rd (e 68).rd (e 71).rd (e 72).rd hp ef:=OX G K L hp0 k6 z5 z4 L
def Ym (G:GT)(K:KT)(L:Nat)(hp0:HP)(k4:AV→HP→Eff→KR):Nat→AV→AV→AV→AV→AV→HP→Eff→KR
 | 0,_,_,_,_,_,_,_=>none
 | m + 1,x3,x4,y4,x67,x68,hp,ef =>
  YV (ZM .lss .prim x68 x67) fun v12 =>
  ifK v12
  (Yn G K L hp0 (QF G K L hp0 (Ym G K L hp0 k4 m)) L x3 x4 y4 x68 x67 x68 x3 (.int .i64 0) hp ef)
  (k4 y4 hp ef)
theorem OV (G:GT)(K:KT)(L:Nat)(hp0:HP)(k4:AV→HP→Eff→KR)  : ∀ m,Dz (fun n'=>WA G 120 hp0.length K Zg L Qn n' (Tu Zg Zp hp0) [(4,(fun e hp ef=>k4 (e 4).val hp ef))]) m=fun e hp ef=>Ym G K L hp0 k4 m (e 3).rd (e 4).rd (e 4).val (e 67).rd (e 68).rd hp ef:=by
 intro m
 induction m with
 | zero=>rfl
 | succ m ih =>
  show WA G 120 hp0.length K Zg L Qn (Dz _ m) (Tu Zg Zp hp0) [(4,(fun e hp ef=>k4 (e 4).val hp ef))]=_
  rw [ih]
  simp only [Qn,Ut,XB,XC,VN]
  rw [OI G K L hp0 (Ym G K L hp0 k4 m) _,OW G K L hp0 (QF G K L hp0 (Ym G K L hp0 k4 m)) _ _ _]
  kernel_rfl
theorem OU (G:GT)(K:KT)(L:Nat)(hp0:HP)(k4:AV→HP→Eff→KR)(zn:IW):WA G 120 hp0.length K Zg L UZ zn (Tu Zg Zp hp0) [(4,(fun e hp ef=>k4 (e 4).val hp ef))]=fun e hp ef=>Ym G K L hp0 k4 L (e 3).rd (e 4).rd (e 4).val (e 67).rd (e 68).rd hp ef:=OV G K L hp0 k4  L
def QD (G:GT)(K:KT)(L:Nat)(hp0:HP)(x3:AV)(x4:AV)(y4:AV)(hp:HP)(ef:Eff):KR :=
 Ym G K L hp0 (QG G K L hp0) L x3 x4 y4 x3 (.int .i64 0) hp ef
theorem OG (G:GT)(K:KT)(L:Nat)(hp0:HP)   : WA G 120 hp0.length K Zg L Vj (Tu Zg Zp hp0) (Tu Zg Zp hp0) []=fun e hp ef=>QD G K L hp0  (e 3).rd (e 4).rd (e 4).val hp ef:=by
 simp only [Vj,Ut,XB,XC,VN]
 rw [OJ G K L hp0  ,OU G K L hp0 (QG G K L hp0)  _]
 kernel_rfl
def YR (G:GT)(K:KT)(L:Nat)(hp0:HP)(k2:AV→AV→AV→HP→Eff→KR):Nat→AV→AV→AV→AV→AV→AV→HP→Eff→KR
 | 0,_,_,_,_,_,_,_,_=>none
 | m + 1,x3,x4,y4,x40,x41,x42,hp,ef =>
  YV (ZM .lss .prim x42 x41) fun v50 =>
  ifK v50
  (YV (V8 (.slice 3) x40 x42) fun v51 =>
  YV (XF hp 3 v51) fun v52 =>
  ZvG (hp ++ [.cells [(.int .i64 0),(.int .i64 0),(.int .i64 0)] VT]) fun h53 =>
  Zd0 (stV hp0.length 3 (.ptr (hp).length 0) v52 h53 ef) fun h54 f55 =>
  YV (KD 0 (.ptr (hp).length 0)) fun v56 =>
  YV (Y1 h54 v56) fun v57 =>
  YV (V8 (.slice 1) x4 v57) fun v58 =>
  YV (Y1 h54 v58) fun v59 =>
  YV (KD 1 (.ptr (hp).length 0)) fun v60 =>
  YV (Y1 h54 v60) fun v61 =>
  YV (KD 0 (.ptr (hp).length 0)) fun v62 =>
  YV (Y1 h54 v62) fun v63 =>
  YV (V8 (.slice 1) x4 v63) fun v64 =>
  YV (Y1 h54 v64) fun v65 =>
  YV (KD 1 (.ptr (hp).length 0)) fun v66 =>
  YV (Y1 h54 v66) fun v67 =>
  YV (V8 (.slice 1) v65 v67) fun v68 =>
  YV (Y1 h54 v68) fun v69 =>
  YV (KD 2 (.ptr (hp).length 0)) fun v70 =>
  YV (Y1 h54 v70) fun v71 =>
  Ik (Wj K Yi [v69,v71] h54) fun v72 h73 f74 =>
  YV (V8 (.slice 1) v59 v61) fun v75 =>
  Zd0 (Zq6 hp0.length v75 v72 h73 (Gy hp0.length f55 f74)) fun h76 f77 =>
  YV (ZM .add .prim x42 (.int .i64 1)) fun v78 =>
  YR G K L hp0 k2 m x3 x4 y4 x40 x41 v78 h76 f77)
  (k2 x3 x4 y4 hp ef)
theorem OT (G:GT)(K:KT)(L:Nat)(hp0:HP)(k2:AV→AV→AV→HP→Eff→KR)  : ∀ m,Dz (fun n'=>WA G 120 hp0.length K Zg L X9 n' (Tu Zg Zp hp0) [(2,(fun e hp ef=>k2 (e 3).rd (e 4).rd (e 4).val hp ef))]) m=fun e hp ef=>YR G K L hp0 k2 m (e 3).rd (e 4).rd (e 4).val (e 40).rd (e 41).rd (e 42).rd hp ef:=by
 intro m
 induction m with
 | zero=>rfl
 | succ m ih =>
  show WA G 120 hp0.length K Zg L X9 (Dz _ m) (Tu Zg Zp hp0) [(2,(fun e hp ef=>k2 (e 3).rd (e 4).rd (e 4).val hp ef))]=_
  rw [ih]
  kernel_rfl
theorem OQ (G:GT)(K:KT)(L:Nat)(hp0:HP)(k2:AV→AV→AV→HP→Eff→KR)(zn:IW):WA G 120 hp0.length K Zg L UY zn (Tu Zg Zp hp0) [(2,(fun e hp ef=>k2 (e 3).rd (e 4).rd (e 4).val hp ef))]=fun e hp ef=>YR G K L hp0 k2 L (e 3).rd (e 4).rd (e 4).val (e 40).rd (e 41).rd (e 42).rd hp ef:=OT G K L hp0 k2  L
def QB (G:GT)(K:KT)(L:Nat)(hp0:HP)(x1:AV)(x3:AV)(x4:AV)(y4:AV)(hp:HP)(ef:Eff):KR :=
 YV (KD 2 x1) fun v47 =>
 YV (Y1 hp v47) fun v48 =>
 YV (Xf hp .slice v48) fun v49 =>
 YR G K L hp0 (QD G K L hp0) L x3 x4 y4 v48 v49 (.int .i64 0) hp ef
theorem OE (G:GT)(K:KT)(L:Nat)(hp0:HP)   : WA G 120 hp0.length K Zg L Vh (Tu Zg Zp hp0) (Tu Zg Zp hp0) []=fun e hp ef=>QB G K L hp0  (e 1).rd (e 3).rd (e 4).rd (e 4).val hp ef:=by
 simp only [Vh,Ut,XB,XC,VN]
 rw [OG G K L hp0  ,OQ G K L hp0 (QD G K L hp0)  _]
 kernel_rfl
def YQ (G:GT)(K:KT)(L:Nat)(hp0:HP)(k0:AV→AV→AV→AV→HP→Eff→KR):Nat→AV→AV→AV→AV→AV→AV→HP→Eff→KR
 | 0,_,_,_,_,_,_,_,_=>none
 | m + 1,x1,x3,x4,y4,x22,x23,hp,ef =>
  YV (ZM .lss .prim x23 x22) fun v80 =>
  ifK v80
  (Zd0 (ZvI XK 1 [(.int .i64 (-1))] hp) fun v81 h82 =>
  Ik (K ZC [(AV.ro v81),x3] h82) fun v83 h84 f85 =>
  YV (V8 (.slice 1) x4 x23) fun v86 =>
  Zd0 (Zq6 hp0.length v86 v83 h84 (Gy hp0.length ef f85)) fun h87 f88 =>
  YV (V8 (.slice 1) x4 x23) fun v89 =>
  YV (Y1 h87 v89) fun v90 =>
  YV (V8 (.slice 1) v90 x23) fun v91 =>
  Zd0 (stV hp0.length 1 v91 (.int .i64 0) h87 f88) fun h92 f93 =>
  YV (ZM .add .prim x23 (.int .i64 1)) fun v94 =>
  YQ G K L hp0 k0 m x1 x3 x4 y4 x22 v94 h92 f93)
  (k0 x1 x3 x4 y4 hp ef)
theorem OO (G:GT)(K:KT)(L:Nat)(hp0:HP)(k0:AV→AV→AV→AV→HP→Eff→KR)  : ∀ m,Dz (fun n'=>WA G 120 hp0.length K Zg L X8 n' (Tu Zg Zp hp0) [(0,(fun e hp ef=>k0 (e 1).rd (e 3).rd (e 4).rd (e 4).val hp ef))]) m=fun e hp ef=>YQ G K L hp0 k0 m (e 1).rd (e 3).rd (e 4).rd (e 4).val (e 22).rd (e 23).rd hp ef:=by
 intro m
 induction m with
 | zero=>rfl
 | succ m ih =>
  show WA G 120 hp0.length K Zg L X8 (Dz _ m) (Tu Zg Zp hp0) [(0,(fun e hp ef=>k0 (e 1).rd (e 3).rd (e 4).rd (e 4).val hp ef))]=_
  rw [ih]
  kernel_rfl
theorem OL (G:GT)(K:KT)(L:Nat)(hp0:HP)(k0:AV→AV→AV→AV→HP→Eff→KR)(zn:IW):WA G 120 hp0.length K Zg L UX zn (Tu Zg Zp hp0) [(0,(fun e hp ef=>k0 (e 1).rd (e 3).rd (e 4).rd (e 4).val hp ef))]=fun e hp ef=>YQ G K L hp0 k0 L (e 1).rd (e 3).rd (e 4).rd (e 4).val (e 22).rd (e 23).rd hp ef:=OO G K L hp0 k0  L
def XT (G:GT)(K:KT)(L:Nat)(x0:AV)(hp0:HP):KR :=
 YV (ZsJ 3 (AV.ro x0)) fun v1 =>
 ZvG (hp0 ++ [.cells v1 ZX]) fun h0 =>
 YV (XF h0 3 (.ptr (hp0).length 0)) fun v2 =>
 Ik (K VJ [v2] h0) fun v3 h4 f5 =>
 YV (ZM .neq .prim (AV.ro v3) (.int .i64 0)) fun v6 =>
 ifK v6
 (some (ZdB false hp0 (.own 1 []) h4 (Gy hp0.length none f5)))
 (YV (KD 1 (.ptr (hp0).length 0)) fun v7 =>
 YV (Y1 h4 v7) fun v8 =>
 YV (Xf h4 .slice v8) fun v9 =>
 Zd0 (Zh1 NL [(.own 1 [])] v9 h4) fun v10 h11 =>
 YV (Xf h11 .slice v10) fun v79 =>
 YQ G K L hp0 (QB G K L hp0) L (.ptr (hp0).length 0) v9 v10 v10 v79 (.int .i64 0) h11 (Gy hp0.length none f5))
theorem Dx (G:GT)(K:KT)(L:Nat)(x0:AV)(hp0:HP):fnK G K Zg L Zp [x0] hp0=XT G K L x0 hp0:=by
 show WA G 120 hp0.length K Zg L JD (Tu Zg Zp hp0) (Tu Zg Zp hp0) [] (ZsG [x0]) hp0 none=_
 simp only [JD,Ut,XB,XC,VN]
 rw [OE G K L hp0  ,OL G K L hp0 (QB G K L hp0)  _]
 kernel_rfl
theorem GH {C:Cfg}(h:C.T XQ=some Zp){n:Nat}{x0:AV}{hp:HP}{r:AV×HP×Eff}(hr:XT C.G (Zv C n) C.L x0 hp=some r):Zv C (n + 1) XQ [x0] hp=some r:=Zhk h (Nat.le_of_ble_eq_true rfl) ((Dx ..).trans hr)
def Nu:List Nat:=[8,9]
def PP:WP :=
 .seq (.region false [⟨(some 4),.mv (.const (.int .i64 0)),none⟩])
 (.seq (.seq (.region false [⟨(some 5),.mv (.tmp 0),none⟩,
    ⟨(some 6),.bin .eql .prim (.tmp 5) (.const (.int .i64 (-1))),none⟩,
    ⟨(some 7),.mv (.tmp 6),none⟩,
    ⟨(some 8),.mv (.tmp 1),(some (7,false))⟩,
    ⟨(some 9),.bin .eql .prim (.tmp 8) (.const (.int .i64 (-1))),(some (7,false))⟩,
    ⟨(some 10),.pick (.tmp 7) (.const (.bool true)) (.tmp 9),none⟩])
  (.cond (.tmp 10) (.seq (.region false [⟨(some 11),.mv (.tmp 0),none⟩,
     ⟨(some 12),.mv (.tmp 1),none⟩,
     ⟨(some 13),.max [(.tmp 11),(.tmp 12)],none⟩,
     ⟨(some 4),.take 13,none⟩])
   (.ret))
   (.skip)))
  (.seq (.region false [⟨(some 14),.mv (.tmp 0),none⟩,
    ⟨(some 15),.mv (.tmp 1),none⟩,
    ⟨(some 16),.min [(.tmp 14),(.tmp 15)],none⟩,
    ⟨(some 4),.take 16,none⟩])
  (.ret)))
def Vg:AFn:=⟨17,[.tmp 4],PP,false⟩
theorem OD:Gx=Vg:=by kernel_rfl
def V7 (G:GT)(K:KT)(L:Nat)(x0 x1:AV)(hp0:HP):KR :=
 YV (ZM .eql .prim (AV.ro x0) (.int .i64 (-1))) fun v0 =>
 Zf1 v0 false
 (YV (ZM .eql .prim (AV.ro x1) (.int .i64 (-1))) fun v1 =>
 some (v1,hp0,none))
 (some (.bool true)) hp0 none fun v2 h3 f4 =>
 ifK (AV.ro v2)
 (YV (Zut [(AV.ro x0),(AV.ro x1)]) fun v5 =>
 some (ZdB false hp0 v5 h3 f4))
 (YV (Zuu [(AV.ro x0),(AV.ro x1)]) fun v6 =>
 some (ZdB false hp0 v6 h3 f4))
theorem Lu (G:GT)(K:KT)(L:Nat)(x0 x1:AV)(hp0:HP):fnK G K Nu L Vg [x0,x1] hp0=V7 G K L x0 x1 hp0:=by
 kernel_rfl
theorem Rx {C:Cfg}(h:C.T Yi=some Vg){n:Nat}{x0 x1:AV}{hp:HP}{r:AV×HP×Eff}(hr:V7 C.G (Zv C n) C.L x0 x1 hp=some r):Zv C (n + 1) Yi [x0,x1] hp=some r:=Zhk h (Nat.le_of_ble_eq_true rfl) ((Lu ..).trans hr)
def ZpA:List Nat:=[]
def Zog:WP :=
 .seq (.region false [⟨(some 4),.mv (.const (.int .i64 0)),none⟩])
 (.seq (.region false [⟨(some 5),.mv (.tmp 0),none⟩,
   ⟨(some 6),.call (.const (.fn 45 [] [])) [(.inr (.tmp 5))],none⟩,
   ⟨(some 7),.mv (.tmp 1),none⟩,
   ⟨(some 8),.call (.const (.fn 45 [] [])) [(.inr (.tmp 7))],none⟩,
   ⟨(some 9),.bin .add .prim (.tmp 6) (.tmp 8),none⟩,
   ⟨(some 10),.call (.const (.fn 45 [] [])) [(.inr (.tmp 9))],none⟩,
   ⟨(some 4),.take 10,none⟩])
  (.ret))
def AC:AFn:=⟨11,[.tmp 4],Zog,false⟩
theorem Zfl:ZgI=AC:=by kernel_rfl
def ZbU (G:GT)(K:KT)(L:Nat)(x0 x1:AV)(hp0:HP):KR :=
 Ik (K Gj [(AV.ro x0)] hp0) fun v0 h1 f2 =>
 Ik (K Gj [(AV.ro x1)] h1) fun v3 h4 f5 =>
 YV (ZM .add .prim (AV.ro v0) (AV.ro v3)) fun v6 =>
 Ik (K Gj [v6] h4) fun v7 h8 f9 =>
 some (ZdB false hp0 v7 h8 (Gy hp0.length (Gy hp0.length (Gy hp0.length none f2) f5) f9))
theorem ZgZ (G:GT)(K:KT)(L:Nat)(x0 x1:AV)(hp0:HP):fnK G K ZpA L AC [x0,x1] hp0=ZbU G K L x0 x1 hp0:=by
 kernel_rfl
theorem Zju {C:Cfg}(h:C.T Gq=some AC){n:Nat}{x0 x1:AV}{hp:HP}{r:AV×HP×Eff}(hr:ZbU C.G (Zv C n) C.L x0 x1 hp=some r):Zv C (n + 1) Gq [x0,x1] hp=some r:=Zhk h (Nat.le_of_ble_eq_true rfl) ((ZgZ ..).trans hr)
def ZmO:List Nat:=[]
def Zmq:WP :=
 .seq (.region false [⟨(some 2),.mv (.const (.int .i64 0)),none⟩])
 (.seq (.region false [⟨(some 3),.mv (.tmp 0),none⟩,
   ⟨(some 4),.min [(.tmp 3),(.const (.int .i64 1000000000000))],none⟩,
   ⟨(some 5),.max [(.const (.int .i64 (-1000000000000))),(.tmp 4)],none⟩,
   ⟨(some 2),.take 5,none⟩])
  (.ret))
def PM:AFn:=⟨6,[.tmp 2],Zmq,false⟩
theorem Zd7:Zeg=PM:=by kernel_rfl
def AX (G:GT)(K:KT)(L:Nat)(x0:AV)(hp0:HP):KR :=
 YV (Zuu [(AV.ro x0),(.int .i64 1000000000000)]) fun v0 =>
 YV (Zut [(.int .i64 (-1000000000000)),v0]) fun v1 =>
 some (ZdB false hp0 v1 hp0 none)
theorem Zfq (G:GT)(K:KT)(L:Nat)(x0:AV)(hp0:HP):fnK G K ZmO L PM [x0] hp0=AX G K L x0 hp0:=by
 kernel_rfl
theorem Zh7 {C:Cfg}(h:C.T Gj=some PM){n:Nat}{x0:AV}{hp:HP}{r:AV×HP×Eff}(hr:AX C.G (Zv C n) C.L x0 hp=some r):Zv C (n + 1) Gj [x0] hp=some r:=Zhk h (Nat.le_of_ble_eq_true rfl) ((Zfq ..).trans hr)
end Go.Proofs.YtgjcjbhhhlelnaaGreatDoor
end
section
namespace Go.Proofs.YtgjcjbhhhlelnaaGreatDoor
open Go Go.Proofs.YtgjcjbhhhlelnaaGreatDoor.Abs Go.Proofs.YtgjcjbhhhlelnaaGreatDoor.Tl Go.Proofs.YtgjcjbhhhlelnaaGreatDoor.Gr
set_option maxRecDepth 100000
def AU (n:Int):Int:=max (-1000000000000) (min n 1000000000000)
def ZgM (a b:Int):Int:=AU (AU a + AU b)
def tri (a:ZgB):Nat×Nat×Int:=(a.From.toNat,a.To.toNat,a.Delay)
def Zht (n:Nat):Nat→Nat→List (List Int)→List (List Int)
 | 0,_,l=>l
 | q + 1,i,l=>Zht n q (i + 1) (l ++ [(List.replicate n (-1)).set i 0])
theorem Zru (g len:Nat)(i:Nat)(h1:i < len):V8 (.slice 1) (.arr g 0 len 1) (.int .i64 i)=some (.ptr g i):=by
 rw [Zw9 g 0 len 1 i (by omega) (by omega),Int.toNat_natCast,Nat.zero_add,Nat.mul_one]
theorem ZmF {i n:Nat}(h:i < n):decide ((i:Int) < (n:Int))=true:=by simp; omega
theorem Zpi (n:Nat):decide ((n:Int) < (n:Int))=false:=by simp
theorem Zvr (l:List (List Int))(r:List Int)(k:Nat)(v:Int):ZiL (l ++ [r]) l.length k v=l ++ [r.set k v]:=by
 have e:(l ++ [r]).getD l.length []=r:=by rw [List.getD_eq_getElem?_getD,List.getElem?_append_right (Nat.le_refl _),Nat.sub_self]; rfl
 rw [ZiL,e,List.set_append_right _ _ (Nat.le_refl _),Nat.sub_self]; rfl
section
variable {bs:Nat}{t0:TypeId}{gp:Nat}{po:Zm}{g n:Nat}{G:GT}{K:KT}{L:Nat}{hp0:HP}(hbs:bs=hp0.length)(hn1:1≤n)(hn:n≤16)(hL:64≤L)
include hbs hn
theorem la0 (hrep:∀ hp:HP,K ZC [.lst 1 [[.int .i64 (-1)]],.int .i64 n] hp=some (.arr hp.length 0 n 1,hp ++ [.cells (YL (List.replicate n (-1))) XK],none))(k0:AV→AV→AV→AV→HP→Eff→KR)(R:KR)(p:AV) :
  ∀ (m q i:Nat) (gs:List Nat) (l:List (List Int)) (hp:HP),i + q=n→q < m→gs.length=i→bs≤hp.length→Mat bs t0 XK gp po g gs n l hp →
  (∀ gs' hp',gs'.length=n→bs≤hp'.length→Mat bs t0 XK gp po g gs' n (Zht n q i l) hp'→k0 p (.int .i64 n) (.arr g 0 n 1) (.arr g 0 n 1) hp' none=R) →
  YQ G K L hp0 k0 m p (.int .i64 n) (.arr g 0 n 1) (.arr g 0 n 1) (.int .i64 n) (.int .i64 i) hp none=R
 | 0,_,_,_,_,_,_,h,_,_,_,_=>absurd h (Nat.not_lt_zero _)
 | m + 1,q,i,gs,l,hp,hq,hm,hi,hlen,mt,hk=>by
  rw [YQ]
  cases q with
  | zero =>
   obtain rfl:i=n:=by omega
   simp only [EV,Zpi,Bool.false_eq_true,if_false]
   exact hk gs hp hi hlen mt
  | succ q =>
   have hlt:i < n:=by omega
   have e1:=hrep hp
   have e2:=Zru g n i hlt
   obtain ⟨hp1,s1,s2,s3⟩:=mt.more (by omega) hlen (r := List.replicate n (-1)) (by simp) none
   obtain ⟨x,x1,x2,x3,x4⟩:=s2.at (i := i) (by rw [List.length_append,hi]; exact Nat.lt_succ_self i)
   rw [hi] at s1
   have e3:=Zru x n i hlt
   have s4:=s2.st hlt x1 0 none
   have s5:=s2.put hlt x1 0
   have e9:ZiL (l ++ [List.replicate n (-1)]) i i 0=l ++ [(List.replicate n (-1)).set i 0]:=by
    have:=Zvr l (List.replicate n (-1)) i 0
    rwa [mt.len,hi] at this
   rw [e9] at s5
   have ew:IntKind.i64.wrap ((i:Int) + 1)=((i + 1:Nat):Int):=Dh i (by omega)
   have ih:=la0 hrep k0 R p m q (i + 1) (gs ++ [hp.length]) (l ++ [(List.replicate n (-1)).set i 0]) _ (by omega) (by omega) (by simp [hi]) (by rw [List.length_set,s3]; omega) s5 hk
   subst hbs
   simp only [EV,LIT,ZmF hlt,if_true,e1,e2,e3,s1,x2,s4,ew,ih]
include hL
theorem la6 (hadd:∀ (a b:Int) (hp:HP),K Gq [.int .i64 a,.int .i64 b] hp=some (.int .i64 (ZgM a b),hp,none))(hsh:∀ (a b:Int) (hp:HP),K Yi [.int .i64 a,.int .i64 b] hp=some (.int .i64 (Wq a b),hp,none))(k8:AV→AV→AV→AV→AV→AV→AV→AV→HP→Eff→KR)(R:KR)(t i:Nat)(ht:t < n)(hi:i < n) :
  ∀ (m q k:Nat) (gs:List Nat) (l:List (List Int)) (hp:HP),k + q=n→q < m→gs.length=n→Mat bs t0 XK gp po g gs n l hp →
  (∀ gs' hp',gs'.length=n→Mat bs t0 XK gp po g gs' n (fwK ZgM t i q k l) hp'→k8 (.int .i64 n) (.arr g 0 n 1) (.arr g 0 n 1) (.int .i64 t) (.int .i64 n) (.int .i64 t) (.int .i64 n) (.int .i64 i) hp' none=R) →
  Y4 G K L hp0 k8 m (.int .i64 n) (.arr g 0 n 1) (.arr g 0 n 1) (.int .i64 t) (.int .i64 i) (.int .i64 n) (.int .i64 t) (.int .i64 n) (.int .i64 i) (.int .i64 n) (.int .i64 k) hp none=R
 | 0,_,_,_,_,_,_,h,_,_,_=>absurd h (Nat.not_lt_zero _)
 | m + 1,q,k,gs,l,hp,hq,hm,hgs,mt,hk=>by
  rw [Y4]
  cases q with
  | zero =>
   obtain rfl:k=n:=by omega
   simp only [EV,Zpi,Bool.false_eq_true,if_false]
   exact hk gs hp hgs mt
  | succ q =>
   have hlt:k < n:=by omega
   have e1:=Zru g n i hi
   have e2:=Zru g n t ht
   obtain ⟨x,x1,x2,x3,x4⟩:=mt.at (i := i) (by omega)
   obtain ⟨y,y1,y2,y3,y4⟩:=mt.at (i := t) (by omega)
   have e3:=Zru x n t ht
   have e4:=Zru x n k hlt
   have e5:=Zru y n k hlt
   have g1:=mt.get (by omega) ht x1
   have g2:=mt.get (by omega) hlt x1
   have g3:=mt.get (by omega) hlt y1
   have s4:=mt.stt hlt x1 (Wq (getM l i k) (ZgM (getM l i t) (getM l t k))) none
   have s5:=mt.put hlt x1 (Wq (getM l i k) (ZgM (getM l i t) (getM l t k)))
   have ew:IntKind.i64.wrap ((k:Int) + 1)=((k + 1:Nat):Int):=Dh k (by omega)
   rw [fwK,Znu] at hk
   by_cases c:(decide (getM l i t≠-1) && decide (getM l t k≠-1))=true
   ·rw [if_pos c] at hk
    have ih:=la6 hadd hsh k8 R t i ht hi m q (k + 1) gs _ _ (by omega) (by omega) hgs s5 hk
    subst hbs
    simp only [EV,QC,ZmF hlt,if_true,e1,e2,e3,e4,e5,x2,y2,g1,g2,g3,c,hadd,hsh,s4,ew,ih]
   ·rw [if_neg c] at hk
    have ih:=la6 hadd hsh k8 R t i ht hi m q (k + 1) gs _ _ (by omega) (by omega) hgs mt hk
    subst hbs
    simp only [EV,QC,ZmF hlt,if_true,e1,e2,e3,e4,e5,x2,y2,g1,g2,g3,c,ew,ih,if_false,Bool.false_eq_true]
theorem la5 (hadd:∀ (a b:Int) (hp:HP),K Gq [.int .i64 a,.int .i64 b] hp=some (.int .i64 (ZgM a b),hp,none))(hsh:∀ (a b:Int) (hp:HP),K Yi [.int .i64 a,.int .i64 b] hp=some (.int .i64 (Wq a b),hp,none))(k6:AV→AV→AV→AV→AV→HP→Eff→KR)(R:KR)(t:Nat)(ht:t < n) :
  ∀ (m q i:Nat) (gs:List Nat) (l:List (List Int)) (hp:HP),i + q=n→q < m→gs.length=n→Mat bs t0 XK gp po g gs n l hp →
  (∀ gs' hp',gs'.length=n→Mat bs t0 XK gp po g gs' n (fwI ZgM n t q i l) hp'→k6 (.int .i64 n) (.arr g 0 n 1) (.arr g 0 n 1) (.int .i64 n) (.int .i64 t) hp' none=R) →
  Yn G K L hp0 k6 m (.int .i64 n) (.arr g 0 n 1) (.arr g 0 n 1) (.int .i64 t) (.int .i64 n) (.int .i64 t) (.int .i64 n) (.int .i64 i) hp none=R
 | 0,_,_,_,_,_,_,h,_,_,_=>absurd h (Nat.not_lt_zero _)
 | m + 1,q,i,gs,l,hp,hq,hm,hgs,mt,hk=>by
  rw [Yn]
  cases q with
  | zero =>
   obtain rfl:i=n:=by omega
   simp only [EV,Zpi,Bool.false_eq_true,if_false]
   exact hk gs hp hgs mt
  | succ q =>
   have hlt:i < n:=by omega
   have ew:IntKind.i64.wrap ((i:Int) + 1)=((i + 1:Nat):Int):=Dh i (by omega)
   simp only [EV,ZmF hlt,if_true]
   rw [fwI] at hk
   refine la6 hbs hn hL hadd hsh _ R t i ht hlt L n 0 gs l hp (by omega) (by omega) hgs mt fun gs' hp' h1 h2=>?_
   simp only [QE,EV,ew]
   exact la5 hadd hsh k6 R t ht m q (i + 1) gs' _ hp' (by omega) (by omega) h1 h2 hk
theorem la4 (hadd:∀ (a b:Int) (hp:HP),K Gq [.int .i64 a,.int .i64 b] hp=some (.int .i64 (ZgM a b),hp,none))(hsh:∀ (a b:Int) (hp:HP),K Yi [.int .i64 a,.int .i64 b] hp=some (.int .i64 (Wq a b),hp,none))(k4:AV→HP→Eff→KR)(R:KR) :
  ∀ (m q t:Nat) (gs:List Nat) (l:List (List Int)) (hp:HP),t + q=n→q < m→gs.length=n→Mat bs t0 XK gp po g gs n l hp →
  (∀ gs' hp',gs'.length=n→Mat bs t0 XK gp po g gs' n (fwV ZgM n q t l) hp'→k4 (.arr g 0 n 1) hp' none=R) →
  Ym G K L hp0 k4 m (.int .i64 n) (.arr g 0 n 1) (.arr g 0 n 1) (.int .i64 n) (.int .i64 t) hp none=R
 | 0,_,_,_,_,_,_,h,_,_,_=>absurd h (Nat.not_lt_zero _)
 | m + 1,q,t,gs,l,hp,hq,hm,hgs,mt,hk=>by
  rw [Ym]
  cases q with
  | zero =>
   obtain rfl:t=n:=by omega
   simp only [EV,Zpi,Bool.false_eq_true,if_false]
   exact hk gs hp hgs mt
  | succ q =>
   have hlt:t < n:=by omega
   have ew:IntKind.i64.wrap ((t:Int) + 1)=((t + 1:Nat):Int):=Dh t (by omega)
   simp only [EV,ZmF hlt,if_true]
   rw [fwV] at hk
   refine la5 hbs hn hL hadd hsh _ R t hlt L n 0 gs l hp (by omega) (by omega) hgs mt fun gs' hp' h1 h2=>?_
   simp only [QF,EV,ew]
   exact la4 hadd hsh k4 R m q (t + 1) gs' _ hp' (by omega) (by omega) h1 h2 hk
omit hL hn in
theorem la2 (hsh:∀ (a b:Int) (hp:HP),K Yi [.int .i64 a,.int .i64 b] hp=some (.int .i64 (Wq a b),hp,none))(k2:AV→AV→AV→HP→Eff→KR)(R:KR)(arcs:List ZgB)(hv:∀ a ∈ arcs,0≤a.From∧a.From < (n:Int)∧0≤a.To∧a.To < (n:Int))(ha:arcs.length < 4611686018427387904) :
  ∀ (m q i:Nat) (gs:List Nat) (l:List (List Int)) (hp:HP),i + q=arcs.length→q < m→gs.length=n→bs≤hp.length→Mat bs t0 XK gp po g gs n l hp →
  (∀ gs' hp',gs'.length=n→Mat bs t0 XK gp po g gs' n (Zfc ((arcs.drop i).map tri) l) hp'→k2 (.int .i64 n) (.arr g 0 n 1) (.arr g 0 n 1) hp' none=R) →
  YR G K L hp0 k2 m (.int .i64 n) (.arr g 0 n 1) (.arr g 0 n 1) (.lst 3 (arcs.map ZeR)) (.int .i64 arcs.length) (.int .i64 i) hp none=R
 | 0,_,_,_,_,_,_,h,_,_,_,_=>absurd h (Nat.not_lt_zero _)
 | m + 1,q,i,gs,l,hp,hq,hm,hgs,hlen,mt,hk=>by
  rw [YR]
  cases q with
  | zero =>
   obtain rfl:i=arcs.length:=by omega
   rw [List.drop_length] at hk
   simp only [EV,Zpi,Bool.false_eq_true,if_false]
   exact hk gs hp hgs mt
  | succ q =>
   have hlt:i < arcs.length:=by omega
   rw [List.drop_eq_getElem_cons hlt,List.map_cons] at hk
   have hx:arcs[i]? = some arcs[i]:=List.getElem?_eq_getElem hlt
   generalize arcs[i]=a at hx hk
   obtain ⟨b1,b2,b3,b4⟩:=hv a (List.mem_of_getElem? hx)
   obtain ⟨F,hF⟩:∃ F:Nat,a.From=F:=⟨a.From.toNat,by omega⟩
   obtain ⟨T,hT⟩:∃ T:Nat,a.To=T:=⟨a.To.toNat,by omega⟩
   have hFn:F < n:=by omega
   have hTn:T < n:=by omega
   have e0:V8 (.slice 3) (.lst 3 (arcs.map ZeR)) (.int .i64 i)=some (.ref (ZeR a)):=by simp [V8,hx]
   have e1:XF hp 3 (.ref (ZeR a))=some (.agg (ZeR a)):=rfl
   have e2:stV bs 3 (.ptr hp.length 0) (.agg (ZeR a)) (hp ++ [.cells [.int .i64 0,.int .i64 0,.int .i64 0] VT]) none=some (hp ++ [.cells (ZeR a) VT],none):=st_all bs 3 hp _ (ZeR a) VT none rfl rfl hlen
   have f0:Y1 (hp ++ [.cells (ZeR a) VT]) (.ptr hp.length 0)=some (.int .i64 F):=by rw [ZfD,← hF]; rfl
   have f1:Y1 (hp ++ [.cells (ZeR a) VT]) (.ptr hp.length 1)=some (.int .i64 T):=by rw [ZfD,← hT]; rfl
   have f2:Y1 (hp ++ [.cells (ZeR a) VT]) (.ptr hp.length 2)=some (.int .i64 a.Delay):=by rw [ZfD]; rfl
   have p0:KD 0 (.ptr hp.length 0)=some (.ptr hp.length 0):=rfl
   have p1:KD 1 (.ptr hp.length 0)=some (.ptr hp.length 1):=rfl
   have p2:KD 2 (.ptr hp.length 0)=some (.ptr hp.length 2):=rfl
   have mt2:=mt.push (.cells (ZeR a) VT)
   obtain ⟨x,x1,x2,x3,x4⟩:=mt2.at (i := F) (by omega)
   have e3:=Zru g n F hFn
   have e4:=Zru x n T hTn
   have g1:=mt2.get (by omega) hTn x1
   have s4:=mt2.stt hTn x1 (Wq (getM l F T) a.Delay) none
   have s5:=mt2.put hTn x1 (Wq (getM l F T) a.Delay)
   have ew:IntKind.i64.wrap ((i:Int) + 1)=((i + 1:Nat):Int):=Dh i (by omega)
   have htri:tri a=(F,T,a.Delay):=by rw [tri,hF,hT]; rfl
   rw [htri,Zfc] at hk
   have ih:=la2 hsh k2 R arcs hv ha m q (i + 1) gs _ _ (by omega) (by omega) hgs (by rw [List.length_set,List.length_append]; omega) s5 hk
   subst hbs
   simp only [EV,QC,ZmF hlt,if_true,e0,e1,e2,e3,e4,f0,f1,f2,p0,p1,p2,x2,g1,hsh,s4,ew,ih]
end
end Go.Proofs.YtgjcjbhhhlelnaaGreatDoor
end
section
namespace Go.Proofs.YtgjcjbhhhlelnaaGreatDoor
open Go Go.Proofs.YtgjcjbhhhlelnaaGreatDoor.Abs Go.Proofs.YtgjcjbhhhlelnaaGreatDoor.Tl Go.Proofs.YtgjcjbhhhlelnaaGreatDoor.Gr
set_option maxRecDepth 100000
def ZdH (i:Nat):Nat→Nat→List Int→List Int
 | 0,_,r=>r
 | q + 1,k,r=>ZdH i q (k + 1) (if decide ((k:Int)≠(i:Int))=true then r.set k (-1) else r)
def ZnS (n:Nat)(arcs:List (Nat×Nat×Int)):Nat→Nat→List (List Int)→List (List Int)
 | 0,_,l=>l
 | q + 1,i,l=>ZnS n arcs q (i + 1) (l ++ [Ry ZgM arcs n (ZdH i n 0 (List.replicate n 0))])
theorem Zhu (i:Nat):∀ (q k:Nat) (r:List Int),(ZdH i q k r).length=r.length
 | 0,_,_=>rfl
 | q + 1,k,r=>by rw [ZdH,Zhu]; split <;> simp
end Go.Proofs.YtgjcjbhhhlelnaaGreatDoor
end
section
namespace Go.Proofs.YtgjcjbhhhlelnaaGreatDoor
open Go Go.Proofs.YtgjcjbhhhlelnaaGreatDoor.Abs Go.Proofs.YtgjcjbhhhlelnaaGreatDoor.Tl Go.Proofs.YtgjcjbhhhlelnaaGreatDoor.Gr
set_option maxRecDepth 100000
section
variable {C:Cfg}{L:Nat}(h:St C L)
include h
theorem Zyi (m:Nat)(a:Int)(hp:HP):Zv C (m + 1) Gj [.int .i64 a] hp=some (.int .i64 (AU a),hp,none):=by
 refine Zh7 (by rw [← Zd7]; exact h.T _ _ (by kernel_rfl)) ?_
 simp only [AX,EV,min2,max2]
 have:(if (if (1000000000000:Int) < a then (1000000000000:Int) else a) > -1000000000000 then (if (1000000000000:Int) < a then (1000000000000:Int) else a) else -1000000000000)=AU a:=by unfold AU; split <;> split <;> omega
 rw [this]
theorem ZzV (m:Nat)(a b:Int)(hp:HP):Zv C (m + 2) Gq [.int .i64 a,.int .i64 b] hp=some (.int .i64 (ZgM a b),hp,none):=by
 refine Zju (by rw [← Zfl]; exact h.T _ _ (by kernel_rfl)) ?_
 have e:IntKind.i64.wrap (AU a + AU b)=AU a + AU b:=i64_in (by unfold AU; omega) (by unfold AU; omega)
 simp only [ZbU,EV,Zyi h m,e]
 rfl
theorem ZiI (m:Nat)(a b:Int)(hp:HP):Zv C (m + 1) Yi [.int .i64 a,.int .i64 b] hp=some (.int .i64 (Wq a b),hp,none):=by
 refine Rx (by rw [← OD]; exact h.T _ _ (by kernel_rfl)) ?_
 simp only [V7,EV,min2,max2,Wq]
 split <;> rfl
def Zyo (p:Zk):Prop:=(1≤p.Sites.length∧p.Sites.length≤16)∧p.Links.length < 64∧∀ a ∈ p.Links,0≤a.From∧a.From < (p.Sites.length:Int)∧0≤a.To∧a.To < (p.Sites.length:Int)
omit h in
theorem Z0t (hp:HP)(cs:List AV)(n:Nat):Mat hp.length NL XK hp.length (.cells cs ZX) (hp ++ [Zm.cells cs ZX]).length [] n [] (hp ++ [Zm.cells cs ZX] ++ [Zm.cells (List.replicate n (.own 1 [])) NL]) :=
 ⟨by rw [Ji]; rfl,Nat.zero_le _,rfl,fun i x hx=>by simp at hx,fun i j x hx=>by simp at hx,fun x hx=>by simp at hx,⟨by simp,fun x hx=>by simp at hx⟩,Na (Ji hp _) _,by simp⟩
def fwX (p:Zk):List (List Int):=fwV ZgM p.Sites.length p.Sites.length 0 (Zfc (p.Links.map tri) (Zht p.Sites.length p.Sites.length 0 []))
def Zd8 (p:Zk):List (List Int):=ZnS p.Sites.length (p.Links.map tri) p.Sites.length 0 []
theorem Zv8 (n:Nat)(p:Zk)(hf:Zyo p)(hp:HP)(cs:List AV)(hc:cs.map AV.ro=Xv p)
  (hk:Zv C (n + 2) VJ [.agg (Xv p)] (hp ++ [.cells cs ZX])=some (.int .i64 0,hp ++ [.cells cs ZX],none)) :
  Zv C (n + 3) XQ [.agg cs] hp=some (.lst 1 ((fwX p).map fun r=>[.lst 1 (Zky r)]),hp,none):=by
 refine GH (by rw [← Ur]; exact h.T _ _ (by kernel_rfl)) ?_
 obtain ⟨⟨f1,f2⟩,f3,f4⟩:=hf
 have hcl:cs.length=3:=by have:=congrArg List.length hc; rw [List.length_map] at this; exact this
 have e1:XF (hp ++ [.cells cs ZX]) 3 (.ptr hp.length 0)=some (.agg (Xv p)):=by
  rw [Zpa (Ji hp _) 3 0 (by omega),List.drop_zero,List.take_of_length_le (by omega),hc]
 have e2:=cells_at (Ji hp (.cells cs ZX)) hc 1 rfl
 have e0:ZsJ 3 (.agg cs)=some cs:=ZnU 3 cs hcl
 have e3:KD 1 (.ptr hp.length 0)=some (.ptr hp.length 1):=rfl
 have e4:Zh1 NL [.own 1 []] (.int .i64 (p.Sites.length:Nat)) (hp ++ [.cells cs ZX])=some (.arr (hp ++ [Zm.cells cs ZX]).length 0 p.Sites.length 1,hp ++ [Zm.cells cs ZX] ++ [Zm.cells (List.replicate p.Sites.length (.own 1 [])) NL]):=by
  have:(0:Int)≤(p.Sites.length:Int)∧(p.Sites.length:Int)≤4294967296:=⟨by omega,by omega⟩
  simp only [Zh1,if_pos this,Int.toNat_natCast,List.length_singleton,Eg]
 have e5:Xf (hp ++ [Zm.cells cs ZX] ++ [Zm.cells (List.replicate p.Sites.length (.own 1 [])) NL]) .slice (.arr (hp ++ [Zm.cells cs ZX]).length 0 p.Sites.length 1)=some (.int .i64 (p.Sites.length:Nat)):=rfl
 have e6:decide ((0:Int)≠0)=false:=rfl
 simp only [XT,e0,e1,e2,e3,e4,e5,e6,hk,EV,List.length_map,Bool.false_eq_true,if_false]
 have hl1:hp.length≤(hp ++ [Zm.cells cs ZX] ++ [Zm.cells (List.replicate p.Sites.length (AV.own 1 [])) NL]).length:=by simp
 refine la0 rfl f2 (fun hq=>h.rep (n + 1) p.Sites.length hq f1 f2) _ _ (.ptr hp.length 0) C.L p.Sites.length 0 [] [] _ (by omega) (by rw [h.L]; omega) rfl hl1 (Z0t hp cs p.Sites.length) fun gs hq h1 h1' h2=>?_
 have g0:KD 2 (.ptr hp.length 0)=some (.ptr hp.length 2):=rfl
 have g1:=cells_at h2.prg hc 2 rfl
 have g2:Xf hq .slice (.lst 3 (p.Links.map ZeR))=some (.int .i64 (p.Links.length:Nat)):=by
  show some (AV.int .i64 ((p.Links.map ZeR).length:Nat))=_; rw [List.length_map]
 simp only [QB,g0,g1,g2,EV]
 refine la2 rfl (fun a b hq=>ZiI h (n + 1) a b hq) _ _ p.Links f4 (by omega) C.L p.Links.length 0 gs _ hq (by omega) (by rw [h.L]; omega) h1 h1' h2 fun gs2 hq2 h3 h4=>?_
 rw [List.drop_zero] at h4
 simp only [QD]
 refine la4 rfl f2 (by rw [h.L]; omega) (fun a b hq=>ZzV h n a b hq) (fun a b hq=>ZiI h (n + 1) a b hq) _ _ C.L p.Sites.length 0 gs2 _ hq2 (by omega) (by rw [h.L]; omega) h3 h4 fun gs3 hq3 h5 h6=>?_
 simp only [QG]
 exact congrArg some (h6.fin h5)
end
open Classical in
noncomputable def Vd (L:Nat) (x:Zk×PUnit):Option (List (List Int)):=bT (Wy L (x.1,())) fun e=>if e=0 then (if Zyo x.1 then some (fwX x.1) else none) else some []
noncomputable def O0 (L:Nat):Sum tT:=mU XQ [.row 19] (.one (.lst 1 (.lst 1 (.int .i64)))) (Vd L)
open Classical in
noncomputable def Zdv (L:Nat) (x:Zk×PUnit):Option (List (List Int)):=bT (Me L (x.1,())) fun e=>if e=0 then (if Zyo x.1 then some (Zd8 x.1) else none) else some []
theorem Zur {p:Zk}{avs:List AV}(h:LR [] (tvL tT [.row 19] (p,())) avs):∃ cs,avs=[.agg cs]∧cs.map AV.ro=Xv p:=by
 cases h with
 | cons _ a h1 _ _ h2=>cases h2 with
  | nil=>cases h1 with | row _ _ cs hc=>exact ⟨cs,rfl,hc⟩
theorem ZzS (l:List (List Int))(ad:List Nat):VR (T := tT) ad (.lst 1 (.lst 1 (.int .i64)) l) (.lst 1 (l.map fun r=>[.lst 1 (Zky r)])):=.lst 1 (.lst 1 (.int .i64)) l _ rfl
theorem F6:SX O0:=fun {C L} h=>fun x hp avs hv y hy=>by
 obtain ⟨(p:Zk),u⟩:=x
 obtain ⟨cs,rfl,hc⟩:=Zur hv
 change bT (Wy L (p,())) _=some y at hy
 cases hq:Wy L (p,()) with
 | none=>rw [hq] at hy; cases hy
 | some e =>
  rw [hq] at hy
  simp only [bT] at hy
  obtain ⟨n0,h0⟩:=ZqF (Zip h) p hq (hp ++ [.cells cs ZX])
  split at hy
  ·rename_i he
   subst he
   split at hy
   ·rename_i hf
    cases hy
    refine ⟨_,fun ad=>ZzS _ ad,n0 + 3,fun m hm=>?_⟩
    obtain ⟨k,rfl⟩:∃ k,m=k + 3:=⟨m - 3,by omega⟩
    exact Zv8 h k p hf hp cs hc (h0 (k + 2) (by omega))
   ·cases hy
  ·rename_i he
   cases hy
   refine ⟨.own 1 [],fun ad=>.lst 1 (.lst 1 (.int .i64)) [] _ rfl,n0 + 1,fun m hm=>?_⟩
   obtain ⟨k,rfl⟩:∃ k,m=k + 1:=⟨m - 1,by omega⟩
   have hk:=h0 k (by omega)
   refine GH (by rw [← Ur]; exact h.T _ _ (by kernel_rfl)) ?_
   have hcl:cs.length=3:=by have:=congrArg List.length hc; rw [List.length_map] at this; exact this
   have e1:XF (hp ++ [.cells cs ZX]) 3 (.ptr hp.length 0)=some (.agg (Xv p)):=by
    rw [Zpa (Ji hp _) 3 0 (by omega),List.drop_zero,List.take_of_length_le (by omega),hc]
   have e0:ZsJ 3 (.agg cs)=some cs:=ZnU 3 cs hcl
   have e6:decide (e≠0)=true:=decide_eq_true he
   simp only [XT,e0,e1,e6,hk,EV,if_true]
end Go.Proofs.YtgjcjbhhhlelnaaGreatDoor
end
noncomputable section
namespace Go.Proofs.YtgjcjbhhhlelnaaGreatDoor
open Go Go.Proofs.YtgjcjbhhhlelnaaGreatDoor.Abs Go.Proofs.YtgjcjbhhhlelnaaGreatDoor.Tl
set_option maxRecDepth 100000
set_option maxHeartbeats 0
def XN (L:Nat)(x:Zk×PUnit):Option Bool:=fT [Zqr,P5 L,O0 L,Zdi L] L Un [.rnd [.slot 2 .bool,.slot 5 (.int .i64)],.rnd [.slot 2 .bool,.slot 6 (.int .i64)],.rnd [.slot 2 .bool,.slot 7 (.int .i64)],.rnd [.slot 8 (.int .i64)]] (.one .bool) [.row 19] x
def Bq (L:Nat):Sum tT:=mU 8 [.row 19] (.one .bool) (XN L)
theorem Be:SX Bq:=fun h=>sT h (Zl (Zvp h) (Zl (ZdT h) (Zl (F6 h) (Zl (Zk2 h) ZR)))) rfl (by kernel_rfl) fun _=>rfl
def We:Zk→List (List Int)→Bool×Int×PUnit→(Bool×Int×PUnit→Option Bool)→Bool×Int×PUnit→(Bool×Int×PUnit→Option Bool)→Bool×Int×PUnit→Option Bool:=fun x0 y acc self acc_1 self_1 acc_2=>bif decide (acc_2.2.1 < (↑x0.2.length:Int)) then bT (ZK y acc.2.1) fun y_1=>bT (ZK y_1 acc_2.2.1) fun y_2=>bT (bif decide (y_2 ≥ 0) == true then bT (ZK y acc_2.2.1) fun y=>bT (ZK y acc_1.2.1) fun y=>some (decide (y ≥ 0)) else some false) fun y_3=>bT (bif y_3 == true then bT (ZK y acc.2.1) fun y_4=>bT (ZK y_4 acc_1.2.1) fun y_5=>bif decide (y_5 < 0) == false then bT (ZK y acc.2.1) fun y_6=>bT (ZK y_6 acc_1.2.1) fun y_7=>bT (ZK y acc.2.1) fun y_8=>bT (ZK y_8 acc_2.2.1) fun y_9=>bT (ZK y acc_2.2.1) fun y=>bT (ZK y acc_1.2.1) fun y=>some (decide (y_7 > Go.IntKind.i64.wrap (y_9 + y))) else some true else some false) fun y=>bif y then some false else self_1 (acc_2.1,Go.IntKind.i64.wrap (acc_2.2.1 + 1),()) else self (acc_2.1,Go.IntKind.i64.wrap (acc_1.2.1 + 1),())
def Wh:Zk→Nat→List (List Int)→(Bool×Int×PUnit→Option Bool)→Bool×Int×PUnit→(Bool×Int×PUnit→Option Bool)→Bool×Int×PUnit→Option Bool:=fun x0 L y self acc self_1 acc_1=>bif decide (acc_1.2.1 < (↑x0.2.length:Int)) then bT (ZK y acc.2.1) fun y_1=>bT (ZK y_1 acc_1.2.1) fun y_2=>bT (bif decide (y_2 < (-1)) == false then bT (ZK y acc.2.1) fun y=>bT (ZK y acc_1.2.1) fun y=>some !(y == 0) == (acc.2.1 == acc_1.2.1) else some true) fun y_3=>bif y_3 then some false else Zt (We x0 y acc self_1 acc_1) L (acc_1.1,0,()) else self (acc_1.1,Go.IntKind.i64.wrap (acc.2.1 + 1),())
def Wi:Zk→List (List Int)→(Int×PUnit→Option Bool)→Int×PUnit→Option Bool:=fun x0 y self acc=>bif decide (acc.1 < (↑x0.3.length:Int)) then bT (ZK x0.3 acc.1) fun y_1=>bT (bif (decide (y_1.1 < 0) || decide (y_1.2 < 0) || decide (y_1.1 ≥ (↑x0.2.length:Int)) || decide (y_1.2 ≥ (↑x0.2.length:Int))) == false then bT (ZK y y_1.1) fun y=>bT (ZK y y_1.2) fun y=>some (decide (y < 0)) else some true) fun y_2=>bT (bif y_2 == false then bT (ZK y y_1.1) fun y=>bT (ZK y y_1.2) fun y=>some (decide (y > y_1.3)) else some true) fun y=>bif y then some false else self (Go.IntKind.i64.wrap (acc.1 + 1),()) else some true
def Qj:Zk→Nat→List (List Int)→(Bool×Int×PUnit→Option Bool)→Bool×Int×PUnit→Option Bool:=fun x0 L y self acc=>bif decide (acc.2.1 < (↑x0.2.length:Int)) then Zt (Wh x0 L y self acc) L (acc.1,0,()) else Zt (Wi x0 y) L (0,())
theorem RF (L:Nat)(x0:Zk):XN L (x0,())=bT (NY L (x0,[],())) fun y=>bif !y then some true else bT (Vd L (x0,())) fun y=>bif (↑y.length:Int) == 0 then some true else bT (Vt L (y,(↑x0.2.length:Int),())) fun y_1=>bif !y_1 then some false else Zt (Qj x0 L y) L (false,0,()):=by kernel_rfl
end Go.Proofs.YtgjcjbhhhlelnaaGreatDoor
end
section
namespace Go.Proofs.YtgjcjbhhhlelnaaGreatDoor
open Go Go.Proofs.YtgjcjbhhhlelnaaGreatDoor.Abs Go.Proofs.YtgjcjbhhhlelnaaGreatDoor.Tl Go.Proofs.YtgjcjbhhhlelnaaGreatDoor.Gr
set_option maxRecDepth 100000
theorem getD_lt (l:List Int)(k:Nat)(h:k < l.length):l.getD k 0=l[k]:=by rw [List.getD_eq_getElem?_getD,List.getElem?_eq_getElem h]; rfl
theorem Zlx (n:Nat):∀ (q i:Nat) (l:List (List Int)),Zht n q i l=l ++ (List.range' i q).map fun j=>(List.replicate n (-1)).set j 0
 | 0,i,l=>by rw [Zht]; simp
 | q + 1,i,l=>by rw [Zht,Zlx n q,List.range'_succ,List.map_cons,List.append_assoc]; rfl
theorem Zfm (n:Nat)(arcs:List (Nat×Nat×Int)):∀ (q i:Nat) (l:List (List Int)),ZnS n arcs q i l=l ++ (List.range' i q).map fun j=>Ry ZgM arcs n (ZdH j n 0 (List.replicate n 0))
 | 0,i,l=>by rw [ZnS]; simp
 | q + 1,i,l=>by rw [ZnS,Zfm n arcs q,List.range'_succ,List.map_cons,List.append_assoc]; rfl
theorem IM {n i:Nat}(f:Nat→List Int)(h:i < n):((List.range' 0 n).map f).getD i []=f i:=by
 rw [List.getD_eq_getElem?_getD,List.getElem?_map,List.getElem?_range' h]; simp
theorem Zrv (n:Nat):Dim n (Zht n n 0 [])∧∀ i k,i < n→k < n→Gr.getM (Zht n n 0 []) i k=if k=i then 0 else -1:=by
 rw [Zlx,List.nil_append]
 refine ⟨⟨by simp,fun i hi=>by rw [IM _ hi]; simp⟩,fun i k hi hk=>?_⟩
 rw [Gr.getM,IM _ hi,BP _ _ _ _ (by simpa using hi)]
 by_cases h:i=k
 ·rw [if_pos h,if_pos h.symm]
 ·rw [if_neg h,if_neg (fun e=>h e.symm),List.getD_eq_getElem?_getD,List.getElem?_replicate,if_pos hk]; rfl
theorem Zck (i:Nat):∀ (q k:Nat) (r:List Int),r.length=k + q→∀ j,j < r.length→(ZdH i q k r).getD j 0=if k≤j∧j≠i then -1 else r.getD j 0
 | 0,k,r,hr,j,hj=>by rw [ZdH,if_neg (by omega)]
 | q + 1,k,r,hr,j,hj=>by
  rw [ZdH]
  by_cases c:decide ((k:Int)≠(i:Int))=true
  ·rw [if_pos c,Zck i q (k + 1) _ (by rw [List.length_set]; omega) j (by rw [List.length_set]; exact hj),BP _ _ _ _ (by omega)]
   simp only [decide_eq_true_eq] at c
   by_cases h1:k=j
   ·subst h1; rw [if_neg (by omega),if_pos rfl,if_pos ⟨Nat.le_refl _,by omega⟩]
   ·rw [if_neg h1]
    by_cases h2:k + 1≤j∧j≠i
    ·rw [if_pos h2,if_pos ⟨by omega,h2.2⟩]
    ·rw [if_neg h2,if_neg (by omega)]
  ·rw [if_neg c,Zck i q (k + 1) _ (by omega) j hj]
   simp only [decide_eq_true_eq] at c
   by_cases h2:k + 1≤j∧j≠i
   ·rw [if_pos h2,if_pos ⟨by omega,h2.2⟩]
   ·rw [if_neg h2,if_neg (by omega)]
theorem ZkX (a b:Int)(h1:0≤a)(h2:a≤1000000000000)(h3:0≤b)(h4:b≤1000000000000):ZgM a b=min 1000000000000 (a + b):=by
 unfold ZgM AU; omega
section
variable (L:Nat)(h1:1000≤L)(p:Zk)(h:X5 p)(hL:2 * SizeOf.sizeOf p≤L)(hq:Wy L (p,())=some 0)
def EP (p:Zk)(j k:Nat)(w:Int):Prop:=(j,k,w) ∈ p.Links.map tri
include h1 h hL hq
theorem Ze7:Zyo p∧∀ a ∈ p.Links,1≤a.Delay∧a.Delay≤1000000000:=by
 have hk:=ZqS L h1 p h hL hq
 refine ⟨⟨hk.1,by have:=hk.2.1.1; omega,fun a ha=>?_⟩,fun a ha=>?_⟩
 ·have:=(ZiU p p.Links [] hk.2.1.2 a ha).1; exact ⟨this.1,this.2.1,this.2.2.1,this.2.2.2.1⟩
 ·have:=(ZiU p p.Links [] hk.2.1.2 a ha).1; exact ⟨this.2.2.2.2.2.1,this.2.2.2.2.2.2⟩
theorem Zyn (j k:Nat)(w:Int)(e:EP p j k w):1≤w∧w≤1000000000000∧j < p.Sites.length∧k < p.Sites.length:=by
 obtain ⟨a,ha,e⟩:=List.mem_map.1 e
 obtain ⟨⟨_,_,f4⟩,f5⟩:=Ze7 L h1 p h hL hq
 obtain ⟨b1,b2,b3,b4⟩:=f4 a ha
 obtain ⟨c1,c2⟩:=f5 a ha
 simp only [tri,Prod.mk.injEq] at e
 obtain ⟨rfl,rfl,rfl⟩:=e
 exact ⟨c1,by omega,by omega,by omega⟩
theorem Zhn:Dim p.Sites.length (fwX p)∧∀ i k,i < p.Sites.length→k < p.Sites.length→IsD (EP p) 1000000000000 i k (Gr.getM (fwX p) i k):=by
 have he:=Zyn L h1 p h hL hq
 obtain ⟨d1,d2⟩:=Zrv p.Sites.length
 exact Zre (EP p) (fun j k w e=>(he j k w e).1) p.Sites.length 1000000000000 (by decide) ZgM ZkX (fun j k w e=>(he j k w e).2.1) (fun j k w e=>(he j k w e).2.2) (p.Links.map tri) (fun a ha=>ha) (fun j k w e=>e) _ d1 d2
theorem ZqH:Dim p.Sites.length (Zd8 p)∧∀ i k,i < p.Sites.length→k < p.Sites.length→IsD (EP p) 1000000000000 i k (Gr.getM (Zd8 p) i k):=by
 have he:=Zyn L h1 p h hL hq
 have hb:∀ i,i < p.Sites.length→(Zd8 p).getD i []=Ry ZgM (p.Links.map tri) p.Sites.length (ZdH i p.Sites.length 0 (List.replicate p.Sites.length 0)):=fun i hi=>by
  rw [Zd8,Zfm,List.nil_append,IM _ hi]
 have hr:∀ i,i < p.Sites.length→_:=fun i hi=>Zt7 (EP p) (fun j k w e=>(he j k w e).1) p.Sites.length 1000000000000 (by decide) ZgM ZkX (fun j k w e=>(he j k w e).2.1) (fun j k w e=>(he j k w e).2.2) (i := i) hi (p.Links.map tri) (fun a ha=>ha) (fun j k w e=>e) (ZdH i p.Sites.length 0 (List.replicate p.Sites.length 0)) (by rw [Zhu,List.length_replicate]) (fun k hk=>by
  rw [Zck i _ 0 _ (by simp) k (by simpa using hk)]
  by_cases c:k=i
  ·rw [if_neg (by omega),if_pos c,List.getD_eq_getElem?_getD,List.getElem?_replicate,if_pos hk]; rfl
  ·rw [if_pos ⟨Nat.zero_le _,c⟩,if_neg c])
 refine ⟨⟨by rw [Zd8,Zfm]; simp,fun i hi=>by rw [hb i hi]; exact (hr i hi).1⟩,fun i k hi hk=>?_⟩
 rw [Gr.getM,hb i hi]; exact (hr i hi).2 k hk
theorem ZnT:fwX p=Zd8 p:=by
 obtain ⟨a1,a2⟩:=Zhn L h1 p h hL hq
 obtain ⟨b1,b2⟩:=ZqH L h1 p h hL hq
 refine List.ext_getElem (by rw [a1.len,b1.len]) fun i hi hi'=>?_
 have hin:i < p.Sites.length:=by rw [← a1.len]; exact hi
 have r1:=a1.row i hin; have r2:=b1.row i hin
 have e1:(fwX p).getD i []=(fwX p)[i]:=by rw [List.getD_eq_getElem?_getD,List.getElem?_eq_getElem hi]; rfl
 have e2:(Zd8 p).getD i []=(Zd8 p)[i]:=by rw [List.getD_eq_getElem?_getD,List.getElem?_eq_getElem hi']; rfl
 have hu:∀ k,k < p.Sites.length→Gr.getM (fwX p) i k=Gr.getM (Zd8 p) i k:=fun k hk=>(a2 i k hin hk).unique _ (b2 i k hin hk)
 rw [← e1,← e2]
 refine List.ext_getElem (by rw [r1,r2]) fun k hk hk'=>?_
 have:=hu k (by omega)
 rw [Gr.getM,Gr.getM,getD_lt _ _ hk,getD_lt _ _ hk'] at this
 exact this
end
section
variable (L:Nat)(h1:1000≤L)(p:Zk)(h:X5 p)(hL:2 * SizeOf.sizeOf p≤L)
include h1 h hL
theorem Zmk:∃ l,Vd L (p,())=some l∧Zdv L (p,())=some l∧(l=[]∨(Wy L (p,())=some 0∧l=fwX p)):=by
 obtain ⟨v,e1,e2⟩:=Zm3 L h1 p h hL
 have a1:Vd L (p,())=bT (Wy L (p,())) _:=rfl
 have a2:Zdv L (p,())=bT (Me L (p,())) _:=rfl
 rw [e1,Z5] at a1
 rw [e2,Z5] at a2
 by_cases hv:v=0
 ·subst hv
  have hf:=(Ze7 L h1 p h hL e1).1
  rw [if_pos rfl,if_pos hf] at a1
  rw [if_pos rfl,if_pos hf] at a2
  exact ⟨fwX p,a1,by rw [a2]; exact congrArg some (ZnT L h1 p h hL e1).symm,.inr ⟨e1,rfl⟩⟩
 ·rw [if_neg hv] at a1
  rw [if_neg hv] at a2
  exact ⟨[],a1,a2,.inl rfl⟩
end
theorem Eh {n:Nat}{l:List (List Int)}(hd:Dim n l){i:Nat}(hi:i < n):ZK l (i:Int)=some (l.getD i []):=by
 rw [Zf,List.getD_eq_getElem?_getD,List.getElem?_eq_getElem (by rw [hd.len]; exact hi)]; rfl
theorem Rq {n:Nat}{l:List (List Int)}(hd:Dim n l){i k:Nat}(hi:i < n)(hk:k < n):ZK (l.getD i []) (k:Int)=some (Gr.getM l i k):=by
 rw [Zf,Gr.getM,List.getD_eq_getElem?_getD (l := l.getD i []),List.getElem?_eq_getElem (by rw [hd.row i hi]; exact hk)]; rfl
section
variable (L:Nat)(h1:1000≤L)(p:Zk)(h:X5 p)(hL:2 * SizeOf.sizeOf p≤L)(hq:Wy L (p,())=some 0)
include h1 h hL hq
theorem Zv1 (i k:Nat)(hi:i < p.Sites.length)(hk:k < p.Sites.length)(b c:Bool)(self:Bool×Int×PUnit→Option Bool)(e:∀ s,self (s,IntKind.i64.wrap ((k:Int) + 1),())=some true)(d:Bool):Zt (We p (fwX p) (b,(i:Int),()) self (c,(k:Int),())) L (d,0,())=some true:=by
 obtain ⟨hd,hx⟩:=Zhn L h1 p h hL hq
 have hn:=(Ze7 L h1 p h hL hq).1.1.2
 have hM:∀ i k,i < p.Sites.length→k < p.Sites.length→Gr.getM (fwX p) i k≤1000000000000:=fun i k hi hk=>by
  have:=hx i k hi hk
  by_cases c:0≤Gr.getM (fwX p) i k
  ·obtain ⟨d,_,e⟩:=this.snd c; omega
  ·omega
 have:=Zcs (f := We p (fwX p) (b,(i:Int),()) self (c,(k:Int),())) (σ := Bool) (List.range p.Sites.length) (fun s j=>(s,j,())) (fun _ _=>some true) (fun self1 s j x r hxx hj mem e1=>by
  rw [List.length_range] at hj
  have t1:=hx i j hi hj; have t2:=hx j k hj hk; have t3:=hx i k hi hk
  have g1:=Eh hd hi; have g2:=Eh hd hj
  have c1:=Rq hd hi hj; have c2:=Rq hd hj hk; have c3:=Rq hd hi hk
  have m1:=hM i j hi hj; have m2:=hM j k hj hk
  have lt:decide ((j:Int) < (p.2.length:Int))=true:=decide_eq_true (show (j:Int) < (p.Sites.length:Int) by omega)
  have ew:IntKind.i64.wrap ((j:Int) + 1)=(j:Int) + 1:=i64_in (by omega) (by omega)
  have key:0≤Gr.getM (fwX p) i j→0≤Gr.getM (fwX p) j k→0≤Gr.getM (fwX p) i k∧Gr.getM (fwX p) i k≤Gr.getM (fwX p) i j + Gr.getM (fwX p) j k:=fun n1 n2=>by
   obtain ⟨d1,w1,s1⟩:=t1.snd n1
   obtain ⟨d2,w2,s2⟩:=t2.snd n2
   have hw:∀ j k w,EP p j k w→1≤w:=fun j k w e=>(Zyn L h1 p h hL hq j k w e).1
   have p1:=w1.nonneg (EP p) hw; have p2:=w2.nonneg (EP p) hw
   obtain ⟨q1,q2⟩:=t3.cmp _ (w1.cat (EP p) w2)
   have:=hM i k hi hk
   exact ⟨q1,by omega⟩
  rw [We]
  simp only [lt,cond_true,g1,g2,c1,c2,c3,Z5]
  have e1':=fun s=>e1 s
  by_cases n1:0≤Gr.getM (fwX p) i j
  ·by_cases n2:0≤Gr.getM (fwX p) j k
   ·obtain ⟨k1,k2⟩:=key n1 n2
    have ea:IntKind.i64.wrap (Gr.getM (fwX p) i j + Gr.getM (fwX p) j k)=Gr.getM (fwX p) i j + Gr.getM (fwX p) j k:=i64_in (by omega) (by omega)
    have d1:decide (Gr.getM (fwX p) i j ≥ 0)=true:=decide_eq_true n1
    have d2:decide (Gr.getM (fwX p) j k ≥ 0)=true:=decide_eq_true n2
    have d3:decide (Gr.getM (fwX p) i k < 0)=false:=decide_eq_false (by omega)
    have d4:decide (Gr.getM (fwX p) i k > Gr.getM (fwX p) i j + Gr.getM (fwX p) j k)=false:=decide_eq_false (by omega)
    simp only [d1,d2,d3,d4,ea,ew,e1',Z5,beq_self_eq_true,cond_true,cond_false]
   ·have d1:decide (Gr.getM (fwX p) i j ≥ 0)=true:=decide_eq_true n1
    have d2:decide (Gr.getM (fwX p) j k ≥ 0)=false:=decide_eq_false n2
    simp only [d1,d2,ew,e1',Z5,beq_self_eq_true,cond_true,cond_false,show (false == true)=false from rfl]
  ·have d1:decide (Gr.getM (fwX p) i j ≥ 0)=false:=decide_eq_false n1
   simp only [d1,ew,e1',Z5,beq_self_eq_true,cond_true,cond_false,show (false == true)=false from rfl]) (fun self1 s=>by
  rw [We]
  simp only [List.length_range]
  have lt:decide (((p.Sites.length:Nat):Int) < (p.2.length:Int))=false:=decide_eq_false (show ¬ ((p.Sites.length:Nat):Int) < (p.Sites.length:Int) by omega)
  simp only [lt,cond_false]
  exact e s) L 0 d (Nat.zero_le _) (by rw [List.length_range]; omega)
 exact this
theorem Zv2 (i:Nat)(hi:i < p.Sites.length)(b:Bool)(self:Bool×Int×PUnit→Option Bool)(e:∀ s,self (s,IntKind.i64.wrap ((i:Int) + 1),())=some true)(d:Bool):Zt (Wh p L (fwX p) self (b,(i:Int),())) L (d,0,())=some true:=by
 obtain ⟨hd,hx⟩:=Zhn L h1 p h hL hq
 have hn:=(Ze7 L h1 p h hL hq).1.1.2
 have hw:∀ j k w,EP p j k w→1≤w:=fun j k w e=>(Zyn L h1 p h hL hq j k w e).1
 have:=Zcs (f := Wh p L (fwX p) self (b,(i:Int),())) (σ := Bool) (List.range p.Sites.length) (fun s j=>(s,j,())) (fun _ _=>some true) (fun self1 s k x r hxx hk mem e1=>by
  rw [List.length_range] at hk
  have t3:=hx i k hi hk
  have g1:=Eh hd hi
  have c3:=Rq hd hi hk
  have lt:decide ((k:Int) < (p.2.length:Int))=true:=decide_eq_true (show (k:Int) < (p.Sites.length:Int) by omega)
  have ew:IntKind.i64.wrap ((k:Int) + 1)=(k:Int) + 1:=i64_in (by omega) (by omega)
  have d1:decide (Gr.getM (fwX p) i k < -1)=false:=decide_eq_false (by have:=t3.low; omega)
  have hz:(Gr.getM (fwX p) i k == 0)=((i:Int) == (k:Int)):=by
   rw [ZL,ZL]
   by_cases c:i=k
   ·subst c
    have:=t3.cmp 0 ⟨0,.nil i⟩
    rw [decide_eq_true (show Gr.getM (fwX p) i i=0 by omega),decide_eq_true rfl]
   ·have:¬ (i:Int)=(k:Int):=by omega
    rw [decide_eq_false this,decide_eq_false]
    intro hz
    obtain ⟨d,w,e⟩:=t3.snd (by omega)
    exact c (w.zero (EP p) hw (by omega))
  rw [Wh]
  simp only [lt,cond_true,g1,c3,Z5,d1,hz,beq_self_eq_true,Bool.not_true,cond_false]
  exact Zv1 L h1 p h hL hq i k hi hk b s self1 (fun s=>by rw [ew]; exact e1 s) s) (fun self1 s=>by
  rw [Wh]
  simp only [List.length_range]
  have lt:decide (((p.Sites.length:Nat):Int) < (p.2.length:Int))=false:=decide_eq_false (show ¬ ((p.Sites.length:Nat):Int) < (p.Sites.length:Int) by omega)
  simp only [lt,cond_false]
  exact e s) L 0 d (Nat.zero_le _) (by rw [List.length_range]; omega)
 exact this
theorem Zv3:Zt (Wi p (fwX p)) L (0,())=some true:=by
 obtain ⟨hd,hx⟩:=Zhn L h1 p h hL hq
 obtain ⟨⟨⟨_,hn⟩,hm,hv⟩,hdl⟩:=Ze7 L h1 p h hL hq
 refine Fj (f := Wi p (fwX p)) p.Links (fun _=>some true) (by omega) (fun self i a r hxx hi mem e=>?_) (fun self=>?_)
 ·obtain ⟨b1,b2,b3,b4⟩:=hv a mem
  obtain ⟨F,hF⟩:∃ F:Nat,a.From=F:=⟨a.From.toNat,by omega⟩
  obtain ⟨T,hT⟩:∃ T:Nat,a.To=T:=⟨a.To.toNat,by omega⟩
  have hFn:F < p.Sites.length:=by omega
  have hTn:T < p.Sites.length:=by omega
  have hE:EP p F T a.Delay:=List.mem_map.2 ⟨a,mem,by rw [tri,hF,hT]; rfl⟩
  have t:=(hx F T hFn hTn).cmp _ (W.arc (EP p) hE)
  have g1:=Eh hd hFn
  have c1:=Rq hd hFn hTn
  have l1:decide ((i:Int) < (p.3.length:Int))=true:=decide_eq_true (show (i:Int) < (p.Links.length:Int) by omega)
  have l2:ZK p.3 (i:Int)=some a:=by rw [Zf]; exact hxx
  have f1:decide ((F:Int) < 0)=false:=decide_eq_false (by omega)
  have f2:decide ((T:Int) < 0)=false:=decide_eq_false (by omega)
  have f3:decide ((F:Int) ≥ (p.2.length:Int))=false:=decide_eq_false (show ¬ (F:Int) ≥ (p.Sites.length:Int) by omega)
  have f4:decide ((T:Int) ≥ (p.2.length:Int))=false:=decide_eq_false (show ¬ (T:Int) ≥ (p.Sites.length:Int) by omega)
  have f5:decide (Gr.getM (fwX p) F T < 0)=false:=decide_eq_false (by omega)
  have f6:decide (Gr.getM (fwX p) F T > a.3)=false:=decide_eq_false (show ¬ Gr.getM (fwX p) F T > a.Delay by omega)
  have hF':a.1=F:=hF
  have hT':a.2=T:=hT
  rw [Wi]
  simp only [l1,l2,hF',hT',f1,f2,f3,f4,f5,f6,g1,c1,Z5,cond_true,cond_false,Bool.or_false,beq_self_eq_true]
  rw [wrap_succ hi (by omega)]; exact e
 ·rw [Wi]
  have l1:decide (((p.Links.length:Nat):Int) < (p.3.length:Int))=false:=decide_eq_false (show ¬ ((p.Links.length:Nat):Int) < (p.Links.length:Int) by omega)
  simp only [l1,cond_false]
end
theorem Zsf (L:Nat)(n:Nat)(hn:n≤40)(hL:1000≤L)(l:List (List Int))(hd:Dim n l):Vt L (l,(n:Int),())=some true:=by
 rw [ZdL,hd.len,show ((n:Int) != (n:Int))=false by simp,cond_false]
 have:=Zcr (f := Jj l (n:Int)) n (fun i=>(i,())) (fun _=>some true) (fun self i hi e=>by
  rw [Jj]
  have lt:decide ((i:Int) < (n:Int))=true:=decide_eq_true (by omega)
  have ew:IntKind.i64.wrap ((i:Int) + 1)=(i:Int) + 1:=i64_in (by omega) (by omega)
  have hr:=hd.row i hi
  simp only [lt,cond_true,Eh hd hi,Z5,hr,ew]
  rw [show ((n:Int) != (n:Int))=false by simp,cond_false]; exact e) (fun self=>by
  rw [Jj]
  simp only [Zd,cond_false]) L 0 (Nat.zero_le _) (by omega)
 exact this
theorem Ny (L:Nat)(h1:1000≤L)(p:Zk)(h:X5 p)(hL:2 * SizeOf.sizeOf p≤L):XN L (p,())=some true:=by
 rw [RF,ZjM,Z5]
 generalize (decide ((p.2.length:Int)≤20) && decide ((p.3.length:Int)≤40) && decide ((([]:List Int).length:Int)≤40))=b
 cases b with
 | false=>rfl
 | true =>
  obtain ⟨l,a1,a2,a3⟩:=Zmk L h1 p h hL
  rw [a1]
  simp only [Z5,Bool.not_true,cond_false]
  by_cases hz:l=[]
  ·subst hz; rfl
  ·obtain ⟨hq,rfl⟩:=a3.resolve_left hz
   obtain ⟨hd,hx⟩:=Zhn L h1 p h hL hq
   have hn:=(Ze7 L h1 p h hL hq).1.1
   have z:(((fwX p).length:Int) == 0)=false:=by rw [ZL,hd.len]; exact decide_eq_false (by omega)
   rw [z,cond_false]
   have hs:=Zsf L p.Sites.length (by omega) h1 (fwX p) hd
   have hs':Vt L (fwX p,(p.2.length:Int),())=some true:=hs
   rw [hs']
   simp only [Z5,Bool.not_true,cond_false]
   have:=Zcs (f := Qj p L (fwX p)) (σ := Bool) (List.range p.Sites.length) (fun s j=>(s,j,())) (fun _ _=>some true) (fun self s i x r hxx hi mem e1=>by
    rw [List.length_range] at hi
    have lt:decide ((i:Int) < (p.2.length:Int))=true:=decide_eq_true (show (i:Int) < (p.Sites.length:Int) by omega)
    have ew:IntKind.i64.wrap ((i:Int) + 1)=(i:Int) + 1:=i64_in (by omega) (by omega)
    rw [Qj]
    simp only [lt,cond_true]
    exact Zv2 L h1 p h hL hq i hi s self (fun s=>by rw [ew]; exact e1 s) s) (fun self s=>by
    rw [Qj]
    simp only [List.length_range]
    have lt:decide (((p.Sites.length:Nat):Int) < (p.2.length:Int))=false:=decide_eq_false (show ¬ ((p.Sites.length:Nat):Int) < (p.Sites.length:Int) by omega)
    simp only [lt,cond_false]
    exact Zv3 L h1 p h hL hq) L 0 false (Nat.zero_le _) (by rw [List.length_range]; omega)
   exact this
end Go.Proofs.YtgjcjbhhhlelnaaGreatDoor
end
section
namespace Go.Proofs.YtgjcjbhhhlelnaaGreatDoor
open Go Go.RowKit Go.Proofs.YtgjcjbhhhlelnaaGreatDoor.Abs Go.Proofs.YtgjcjbhhhlelnaaGreatDoor.Tl
set_option maxRecDepth 100000
theorem ZtE {H:Type}{c0:List AV}{d0:DataW H}(S0:BI Tryz.prog 25 c0 d0)(v0:Value)(w:World)(hG:GOk GF w)(hR0:Rep still w (.agg c0) v0) :
  Calls Tryz.prog L9 #[v0] w fun e w'=>e=.returned (.bool true)∧Below w.heap.size w w':=by
 obtain ⟨p,rfl,hp⟩:=ZmG S0.of
 obtain ⟨n,hn⟩:=Zum (Be (Zy1 (1000 + 2 * SizeOf.sizeOf p))) (p,()) [.agg (Xv p)] (ZwN (k := 19) p .nil) (Ny _ (by omega) p hp (by omega))
 refine ZsW (Zy2 hG _) hn rfl fun j x hx=>?_
 match j,hx with
 | 0,hx=>cases hx; exact ⟨hR0,fun k r e=>by cases e⟩
end Go.Proofs.YtgjcjbhhhlelnaaGreatDoor
end
