import Derived.Test.YtgjcjbhhhlelnaaGreatDoorHAh17
set_option linter.all false
section
namespace Go.Proofs.YtgjcjbhhhlelnaaGreatDoor
open Go Go.RowKit Go.Proofs.YtgjcjbhhhlelnaaGreatDoor.Abs
set_option maxRecDepth 100000
set_option maxHeartbeats 0
def Zhz {H:Type}(x:O0):DataW H:=.agg [.lit (.string x.word),.lit (.int .i64 x.a),.lit (.int .i64 x.b),.lit (.bool x.c),.lit (.bool x.e),.lit (.bool x.f),.lit (.bool x.args),.lit (.bool x.dist),.lit (.bool x.preempt)]
theorem Zwy {H:Type}:(Rows.laid_simulator_code_forms:DataW H)=.slice (IU.map Zhz) []:=rfl
theorem Ztu {H:Type}{n:Nat}{r:List AV}{x:O0}(h:Shp Tryz.prog (n + 2) 167 r (Zhz x:DataW H)):r=Zp1 x:=by
 obtain ⟨hl,ds,e,_,hf⟩:=h.struct Tryz.underlying167
 rw [show Tryz.prog.cellsOf 167=9 from by kernel_rfl] at hl
 have hds:ds=[.lit (.string x.word),.lit (.int .i64 x.a),.lit (.int .i64 x.b),.lit (.bool x.c),.lit (.bool x.e),.lit (.bool x.f),.lit (.bool x.args),.lit (.bool x.dist),.lit (.bool x.preempt)]:=by unfold Zhz at e; injection e with e; exact e.symm
 subst hds
 obtain ⟨c0,r0,rfl,hl0⟩:=Zjz hl
 obtain ⟨c1,r1,rfl,hl1⟩:=Zjz hl0
 obtain ⟨c2,r2,rfl,hl2⟩:=Zjz hl1
 obtain ⟨c3,r3,rfl,hl3⟩:=Zjz hl2
 obtain ⟨c4,r4,rfl,hl4⟩:=Zjz hl3
 obtain ⟨c5,r5,rfl,hl5⟩:=Zjz hl4
 obtain ⟨c6,r6,rfl,hl6⟩:=Zjz hl5
 obtain ⟨c7,r7,rfl,hl7⟩:=Zjz hl6
 obtain ⟨c8,r8,rfl,hl8⟩:=Zjz hl7
 obtain rfl:=List.eq_nil_of_length_eq_zero hl8
 obtain ⟨d0,q0,s0⟩:=hf 0 _ rfl
 obtain rfl:=Option.some.inj q0
 replace s0:Shp Tryz.prog (n + 1) 9 (([c0,c1,c2,c3,c4,c5,c6,c7,c8].drop 0).take (Tryz.prog.cellsOf 9)) _:=s0
 rw [show Tryz.prog.cellsOf 9=1 from by kernel_rfl] at s0
 replace s0:Shp Tryz.prog (n + 1) 9 [c0] ((.lit (.string x.word):DataW H)):=s0
 obtain ⟨v0,a0,b0,_⟩:=s0.str Tryz.underlying9
 injection b0 with b0; injection b0 with b0; injection a0 with a0
 obtain ⟨d1,q1,s1⟩:=hf 1 _ rfl
 obtain rfl:=Option.some.inj q1
 replace s1:Shp Tryz.prog (n + 1) 165 (([c0,c1,c2,c3,c4,c5,c6,c7,c8].drop 1).take (Tryz.prog.cellsOf 165)) _:=s1
 rw [show Tryz.prog.cellsOf 165=1 from by kernel_rfl] at s1
 replace s1:Shp Tryz.prog (n + 1) 165 [c1] ((.lit (.int .i64 x.a):DataW H)):=s1
 obtain ⟨v1,a1,b1,_⟩:=s1.int Tryz.underlying165
 injection b1 with b1; injection b1 with _ b1; injection a1 with a1
 obtain ⟨d2,q2,s2⟩:=hf 2 _ rfl
 obtain rfl:=Option.some.inj q2
 replace s2:Shp Tryz.prog (n + 1) 165 (([c0,c1,c2,c3,c4,c5,c6,c7,c8].drop 2).take (Tryz.prog.cellsOf 165)) _:=s2
 rw [show Tryz.prog.cellsOf 165=1 from by kernel_rfl] at s2
 replace s2:Shp Tryz.prog (n + 1) 165 [c2] ((.lit (.int .i64 x.b):DataW H)):=s2
 obtain ⟨v2,a2,b2,_⟩:=s2.int Tryz.underlying165
 injection b2 with b2; injection b2 with _ b2; injection a2 with a2
 obtain ⟨d3,q3,s3⟩:=hf 3 _ rfl
 obtain rfl:=Option.some.inj q3
 replace s3:Shp Tryz.prog (n + 1) 4 (([c0,c1,c2,c3,c4,c5,c6,c7,c8].drop 3).take (Tryz.prog.cellsOf 4)) _:=s3
 rw [show Tryz.prog.cellsOf 4=1 from by kernel_rfl] at s3
 replace s3:Shp Tryz.prog (n + 1) 4 [c3] ((.lit (.bool x.c):DataW H)):=s3
 obtain ⟨v3,a3,b3⟩:=s3.bool Tryz.underlying4
 injection b3 with b3; injection b3 with b3; injection a3 with a3
 obtain ⟨d4,q4,s4⟩:=hf 4 _ rfl
 obtain rfl:=Option.some.inj q4
 replace s4:Shp Tryz.prog (n + 1) 4 (([c0,c1,c2,c3,c4,c5,c6,c7,c8].drop 4).take (Tryz.prog.cellsOf 4)) _:=s4
 rw [show Tryz.prog.cellsOf 4=1 from by kernel_rfl] at s4
 replace s4:Shp Tryz.prog (n + 1) 4 [c4] ((.lit (.bool x.e):DataW H)):=s4
 obtain ⟨v4,a4,b4⟩:=s4.bool Tryz.underlying4
 injection b4 with b4; injection b4 with b4; injection a4 with a4
 obtain ⟨d5,q5,s5⟩:=hf 5 _ rfl
 obtain rfl:=Option.some.inj q5
 replace s5:Shp Tryz.prog (n + 1) 4 (([c0,c1,c2,c3,c4,c5,c6,c7,c8].drop 5).take (Tryz.prog.cellsOf 4)) _:=s5
 rw [show Tryz.prog.cellsOf 4=1 from by kernel_rfl] at s5
 replace s5:Shp Tryz.prog (n + 1) 4 [c5] ((.lit (.bool x.f):DataW H)):=s5
 obtain ⟨v5,a5,b5⟩:=s5.bool Tryz.underlying4
 injection b5 with b5; injection b5 with b5; injection a5 with a5
 obtain ⟨d6,q6,s6⟩:=hf 6 _ rfl
 obtain rfl:=Option.some.inj q6
 replace s6:Shp Tryz.prog (n + 1) 4 (([c0,c1,c2,c3,c4,c5,c6,c7,c8].drop 6).take (Tryz.prog.cellsOf 4)) _:=s6
 rw [show Tryz.prog.cellsOf 4=1 from by kernel_rfl] at s6
 replace s6:Shp Tryz.prog (n + 1) 4 [c6] ((.lit (.bool x.args):DataW H)):=s6
 obtain ⟨v6,a6,b6⟩:=s6.bool Tryz.underlying4
 injection b6 with b6; injection b6 with b6; injection a6 with a6
 obtain ⟨d7,q7,s7⟩:=hf 7 _ rfl
 obtain rfl:=Option.some.inj q7
 replace s7:Shp Tryz.prog (n + 1) 4 (([c0,c1,c2,c3,c4,c5,c6,c7,c8].drop 7).take (Tryz.prog.cellsOf 4)) _:=s7
 rw [show Tryz.prog.cellsOf 4=1 from by kernel_rfl] at s7
 replace s7:Shp Tryz.prog (n + 1) 4 [c7] ((.lit (.bool x.dist):DataW H)):=s7
 obtain ⟨v7,a7,b7⟩:=s7.bool Tryz.underlying4
 injection b7 with b7; injection b7 with b7; injection a7 with a7
 obtain ⟨d8,q8,s8⟩:=hf 8 _ rfl
 obtain rfl:=Option.some.inj q8
 replace s8:Shp Tryz.prog (n + 1) 4 (([c0,c1,c2,c3,c4,c5,c6,c7,c8].drop 8).take (Tryz.prog.cellsOf 4)) _:=s8
 rw [show Tryz.prog.cellsOf 4=1 from by kernel_rfl] at s8
 replace s8:Shp Tryz.prog (n + 1) 4 [c8] ((.lit (.bool x.preempt):DataW H)):=s8
 obtain ⟨v8,a8,b8⟩:=s8.bool Tryz.underlying4
 injection b8 with b8; injection b8 with b8; injection a8 with a8
 rw [a0,a1,a2,a3,a4,a5,a6,a7,a8,← b0,← b1,← b2,← b3,← b4,← b5,← b6,← b7,← b8]
 rfl
theorem Ztv {W:World}{rest:List (String×DataW Unit)}(h:laidMet Tryz.prog (("simulator/code.forms",Rows.laid_simulator_code_forms) :: rest) W):GOk GF W:=by
 obtain ⟨ps,⟨g',t',cs,fuel,p,q,hg',ht',hvar,hd,_,_⟩,_⟩:=h
 obtain rfl:0=g':=Option.some.inj ((show Tryz.prog.globalNamed "simulator/code.forms" = some 0 by kernel_rfl).symm.trans hg')
 obtain rfl:168=t':=Option.some.inj ((show (Tryz.prog.globals[0]?).map (·.type)=some 168 by kernel_rfl).symm.trans ht')
 obtain ⟨az,s,hl,hr⟩:=Zd0 (Γ := fun _=>.imm) (fun _=>rfl) 4 fuel 168 cs.toList (Rows.laid_simulator_code_forms,p) (by kernel_rfl) hd (fun y hy=>by
  have:((Rows.laid_simulator_code_forms:DataW Unit).weights Tryz.prog 168).all (fun y=>decide (y≤reachBytes))=true:=by kernel_rfl
  exact of_decide_eq_true (List.all_eq_true.1 this y hy))
 obtain ⟨rows,rfl,_,h3⟩:=(Shp.mk s).slice Tryz.underlying168
 have hrows:rows=IU.map Zp1:=by
  rw [Zwy] at h3
  rcases h3 with ⟨_,h⟩ | ⟨D,ds,spare,e1,e2,e3⟩
  ·cases h
  ·injection e1 with e1 _
   subst e1
   have hlen:rows.length=IU.length:=by have:=congrArg List.length e2; simpa using this.symm
   refine List.ext_getElem? fun i=>?_
   rcases Nat.lt_or_ge i rows.length with hi | hi
   ·have hi':i < IU.length:=by omega
    have hD:Zhz IU[i]=D i:=by
     have:=congrArg (fun l:List (DataW Unit)=>l[i]?) e2
     simpa [hi,hi'] using this
    have h4:=e3 i rows[i] (List.getElem?_eq_getElem hi)
    rw [← hD] at h4
    rw [List.getElem?_eq_getElem hi,List.getElem?_map,List.getElem?_eq_getElem hi',Ztu h4]; rfl
   ·rw [List.getElem?_eq_none hi,List.getElem?_eq_none (by rw [List.length_map]; omega)]
 subst hrows
 have h9:Tryz.prog.cellsOf 167=9:=by kernel_rfl
 rw [h9] at hr hl
 have hlt:0 < W.heap.size:=by
  rcases Nat.lt_or_ge 0 W.heap.size with h | h
  ·exact h
  ·have:=World.var?_cell (show Tryz.prog.globalNamed "simulator/code.forms" = some 0 by kernel_rfl) hvar 0
   rw [World.cell?,Array.getElem?_eq_none h] at this
   have hz:cs.size=1:=by simpa using hl.symm
   simp [hz] at this
 intro g cells hg
 unfold GF at hg
 split at hg <;> cases hg
 rename_i e; subst e
 refine ⟨hlt,fun j c hc=>?_⟩
 obtain ⟨k1,k2,k3,k4⟩:=hr j c hc
 have hj:j=0:=by have:=Zz hc; simp at this; omega
 subst hj
 have hz:cs.size=1:=by simpa using hl.symm
 refine ⟨_,?_,k3,k1⟩
 rw [World.var?_cell (show Tryz.prog.globalNamed "simulator/code.forms" = some 0 by kernel_rfl) hvar 0]
 simp [hz,List.getD]
end Go.Proofs.YtgjcjbhhhlelnaaGreatDoor
end
section
namespace Go.Proofs.YtgjcjbhhhlelnaaGreatDoor
open Go Go.Proofs.YtgjcjbhhhlelnaaGreatDoor.Abs Go.Proofs.YtgjcjbhhhlelnaaGreatDoor.Tl Go.Proofs.YtgjcjbhhhlelnaaGreatDoor.Gr
set_option maxRecDepth 100000
structure Mat (bs:Nat)(t0 t1:TypeId)(gp:Nat)(po:Zn)(g:Nat)(gs:List Nat)(n:Nat)(l:List (List Int))(hp:HP):Prop where
 top:hp[g]? = some (.cells (gs.map (fun x=>AV.arr x 0 n 1) ++ List.replicate (n - gs.length) (.own 1 [])) t0)
 le:gs.length≤n
 len:l.length=gs.length
 row:∀ (i x:Nat),gs[i]? = some x→(l.getD i []).length=n∧hp[x]? = some (.cells (YO (l.getD i [])) t1)
 inj:∀ (i j x:Nat),gs[i]? = some x→gs[j]? = some x→i=j
 ne:∀ x ∈ gs,x≠g∧x≠gp
 low:bs≤g∧∀ x ∈ gs,bs≤x
 prg:hp[gp]? = some po
 gne:g≠gp
section
variable {bs:Nat}{t0 t1:TypeId}{gp:Nat}{po:Zn}{g:Nat}{gs:List Nat}{n:Nat}{l:List (List Int)}{hp:HP}
theorem Eb {h:HP}{i:Nat}{o:Zn}(e:h[i]? = some o)(x:Zn):(h ++ [x])[i]? = some o:=by rw [List.getElem?_append_left (List.getElem?_eq_some_iff.1 e).1]; exact e
theorem Mat.push (m:Mat bs t0 t1 gp po g gs n l hp)(o:Zn):Mat bs t0 t1 gp po g gs n l (hp ++ [o]) :=
 ⟨Eb m.top o,m.le,m.len,fun i x h=>⟨(m.row i x h).1,Eb (m.row i x h).2 o⟩,m.inj,m.ne,m.low,Eb m.prg o,m.gne⟩
theorem Mat.at (m:Mat bs t0 t1 gp po g gs n l hp){i:Nat}(hi:i < gs.length):∃ x,gs[i]? = some x∧ZV hp (.ptr g i)=some (.arr x 0 n 1)∧(l.getD i []).length=n∧hp[x]? = some (.cells (YO (l.getD i [])) t1):=by
 obtain ⟨x,hx⟩:∃ x,gs[i]? = some x:=⟨_,List.getElem?_eq_getElem hi⟩
 obtain ⟨r1,r2⟩:=m.row i x hx
 refine ⟨x,hx,?_,r1,r2⟩
 rw [Zlu m.top,List.getElem?_append_left (by rw [List.length_map]; exact hi),List.getElem?_map,hx]; rfl
theorem ZoC (r:List Int)(k:Nat)(hk:k < r.length):(YO r)[k]? = some (.int .i64 (r.getD k 0)):=by
 rw [YO,List.getElem?_map,List.getD_eq_getElem?_getD,List.getElem?_eq_getElem hk]; rfl
theorem Mat.get (m:Mat bs t0 t1 gp po g gs n l hp){i k:Nat}(hi:i < gs.length)(hk:k < n){x:Nat}(hx:gs[i]? = some x):ZV hp (.ptr x k)=some (.int .i64 (getM l i k)):=by
 obtain ⟨r1,r2⟩:=m.row i x hx
 rw [Zlu r2,ZoC _ k (by omega)]; rfl
theorem Zjq (l:List (List Int))(i j:Nat)(r:List Int):(l.set i r).getD j []=if i=j∧i < l.length then r else l.getD j []:=by
 rw [List.getD_eq_getElem?_getD,List.getElem?_set]
 by_cases h:i=j
 ·subst h
  by_cases h2:i < l.length
  ·rw [if_pos rfl,if_pos h2,if_pos ⟨rfl,h2⟩]; rfl
  ·rw [if_pos rfl,if_neg h2,if_neg (fun c=>h2 c.2),List.getD_eq_getElem?_getD,List.getElem?_eq_none (by omega)]
 ·rw [if_neg h,if_neg (fun c=>h c.1),List.getD_eq_getElem?_getD]
theorem Mat.put (m:Mat bs t0 t1 gp po g gs n l hp){i k:Nat}(hk:k < n){x:Nat}(hx:gs[i]? = some x)(v:Int):Mat bs t0 t1 gp po g gs n (ZiB l i k v) (hp.set x (.cells (YO ((l.getD i []).set k v)) t1)):=by
 have hi:i < gs.length:=(List.getElem?_eq_some_iff.1 hx).1
 obtain ⟨r1,r2⟩:=m.row i x hx
 have hxl:=(List.getElem?_eq_some_iff.1 r2).1
 have hxm:=List.mem_of_getElem? hx
 obtain ⟨n1,n2⟩:=m.ne x hxm
 refine ⟨by rw [List.getElem?_set_ne n1]; exact m.top,m.le,by rw [ZiB,List.length_set]; exact m.len,fun j y hy=>?_,m.inj,m.ne,m.low,by rw [List.getElem?_set_ne n2]; exact m.prg,m.gne⟩
 rw [ZiB,Zjq]
 by_cases c:i=j
 ·subst c
  rw [hx] at hy; cases hy
  rw [if_pos ⟨rfl,by rw [m.len]; exact hi⟩,List.length_set]
  exact ⟨r1,by rw [List.getElem?_set_self hxl]⟩
 ·rw [if_neg (fun d=>c d.1)]
  have hxy:x≠y:=fun e=>c (m.inj i j x hx (by rw [e]; exact hy))
  rw [List.getElem?_set_ne hxy]; exact m.row j y hy
theorem Mat.stt (m:Mat bs t0 t1 gp po g gs n l hp){i k:Nat}(hk:k < n){x:Nat}(hx:gs[i]? = some x)(v:Int)(ef:Eff):ZpP bs (.ptr x k) (.int .i64 v) hp ef=some (hp.set x (.cells (YO ((l.getD i []).set k v)) t1),ef):=by
 obtain ⟨r1,r2⟩:=m.row i x hx
 exact ZuC r2 (by omega) v bs (m.low.2 x (List.mem_of_getElem? hx)) ef
theorem Mat.st (m:Mat bs t0 t1 gp po g gs n l hp){i k:Nat}(hk:k < n){x:Nat}(hx:gs[i]? = some x)(v:Int)(ef:Eff):stV bs 1 (.ptr x k) (.int .i64 v) hp ef=some (hp.set x (.cells (YO ((l.getD i []).set k v)) t1),ef):=by
 obtain ⟨r1,r2⟩:=m.row i x hx
 have hb:=m.low.2 x (List.mem_of_getElem? hx)
 have h0:¬ x < bs:=by omega
 have e:splice (YO (l.getD i [])) k [AV.int .i64 v]=YO ((l.getD i []).set k v):=by
  rw [YO,YO,List.map_set,List.set_eq_take_append_cons_drop,if_pos (by rw [List.length_map]; omega)]
  simp only [splice,List.length_singleton,List.append_assoc,List.singleton_append]
 simp only [stV,r2,Eh,if_neg h0,AV.cells]
 rw [if_pos ⟨rfl,by rw [List.length_map]; omega,rfl⟩,e]
theorem Mat.more (m:Mat bs t0 t1 gp po g gs n l hp)(hlt:gs.length < n)(hbs:bs≤hp.length){r:List Int}(hr:r.length=n)(ef:Eff) :
  ∃ hp',ZpP bs (.ptr g gs.length) (.arr hp.length 0 n 1) (hp ++ [.cells (YO r) t1]) ef=some (hp',ef)∧Mat bs t0 t1 gp po g (gs ++ [hp.length]) n (l ++ [r]) hp'∧hp'.length=hp.length + 1:=by
 have hg:g < hp.length:=(List.getElem?_eq_some_iff.1 m.top).1
 have hgp:gp < hp.length:=(List.getElem?_eq_some_iff.1 m.prg).1
 have htop:=Eb m.top (.cells (YO r) t1)
 have h0:¬ g < bs:=by have:=m.low.1; omega
 have hx:∀ x ∈ gs,x < hp.length:=fun x hx=>by
  obtain ⟨i,hi⟩:=List.mem_iff_getElem?.1 hx
  exact (List.getElem?_eq_some_iff.1 (m.row i x hi).2).1
 have e1:(gs.map (fun x=>AV.arr x 0 n 1) ++ List.replicate (n - gs.length) (AV.own 1 [])).set gs.length (.arr hp.length 0 n 1)=(gs ++ [hp.length]).map (fun x=>AV.arr x 0 n 1) ++ List.replicate (n - (gs ++ [hp.length]).length) (AV.own 1 []):=by
  rw [List.set_append_right _ _ (by rw [List.length_map]; omega),List.length_map,Nat.sub_self]
  obtain ⟨q,hq⟩:∃ q,n - gs.length=q + 1:=⟨n - gs.length - 1,by omega⟩
  rw [hq,List.replicate_succ,List.set_cons_zero,List.map_append,List.append_assoc]
  simp only [List.length_append,List.length_singleton,List.map_cons,List.map_nil,List.singleton_append]
  rw [show n - (gs.length + 1)=q by omega]
 refine ⟨(hp ++ [Zn.cells (YO r) t1]).set g (Zn.cells ((gs ++ [hp.length]).map (fun x=>AV.arr x 0 n 1) ++ List.replicate (n - (gs ++ [hp.length]).length) (AV.own 1 [])) t0),?_,?_,by simp⟩
 ·simp only [ZpP,htop,Eh,if_neg h0]
  rw [if_pos ⟨rfl,by simp; omega⟩,e1]
 ·have hgl:g < (hp ++ [Zn.cells (YO r) t1]).length:=by simp; omega
  refine ⟨by rw [List.getElem?_set_self hgl],by simp; omega,by simp [m.len],fun i x hxi=>?_,fun i j x h1 h2=>?_,fun x hxm=>?_,⟨m.low.1,fun x hxm=>?_⟩,by rw [List.getElem?_set_ne m.gne]; exact Eb m.prg _,m.gne⟩
  ·rcases Nat.lt_or_ge i gs.length with hi | hi
   ·rw [List.getElem?_append_left hi] at hxi
    obtain ⟨r1,r2⟩:=m.row i x hxi
    have hxm:=m.ne x (List.mem_of_getElem? hxi)
    have e:(l ++ [r]).getD i []=l.getD i []:=by
     rw [List.getD_eq_getElem?_getD,List.getElem?_append_left (by rw [m.len]; exact hi),List.getD_eq_getElem?_getD]
    rw [e,List.getElem?_set_ne (fun c=>hxm.1 c.symm)]
    exact ⟨r1,Eb r2 _⟩
   ·rw [List.getElem?_append_right hi] at hxi
    have hi0:i - gs.length=0:=by
     have:=(List.getElem?_eq_some_iff.1 hxi).1; simp at this; omega
    rw [hi0] at hxi; cases hxi
    have e:(l ++ [r]).getD i []=r:=by
     rw [List.getD_eq_getElem?_getD,List.getElem?_append_right (by rw [m.len]; exact hi),m.len,hi0]; rfl
    rw [e,List.getElem?_set_ne (by omega),XF]
    exact ⟨hr,rfl⟩
  ·rcases Nat.lt_or_ge i gs.length with hi | hi <;> rcases Nat.lt_or_ge j gs.length with hj | hj
   ·rw [List.getElem?_append_left hi] at h1; rw [List.getElem?_append_left hj] at h2; exact m.inj i j x h1 h2
   ·rw [List.getElem?_append_left hi] at h1; rw [List.getElem?_append_right hj] at h2
    have:=hx x (List.mem_of_getElem? h1)
    have hj0:j - gs.length=0:=by
     have:=(List.getElem?_eq_some_iff.1 h2).1; simp at this; omega
    rw [hj0] at h2; cases h2; omega
   ·rw [List.getElem?_append_right hi] at h1; rw [List.getElem?_append_left hj] at h2
    have:=hx x (List.mem_of_getElem? h2)
    have hi0:i - gs.length=0:=by
     have:=(List.getElem?_eq_some_iff.1 h1).1; simp at this; omega
    rw [hi0] at h1; cases h1; omega
   ·rw [List.getElem?_append_right hi] at h1; rw [List.getElem?_append_right hj] at h2
    have:=(List.getElem?_eq_some_iff.1 h1).1; have:=(List.getElem?_eq_some_iff.1 h2).1
    simp at *; omega
  ·rcases List.mem_append.1 hxm with hxm | hxm
   ·exact m.ne x hxm
   ·obtain rfl:=List.mem_singleton.1 hxm; exact ⟨by omega,by omega⟩
  ·rcases List.mem_append.1 hxm with hxm | hxm
   ·exact m.low.2 x hxm
   ·obtain rfl:=List.mem_singleton.1 hxm; exact hbs
def Zkq (r:List Int):List (List AV):=r.map fun x=>[.int .i64 x]
theorem Mat.fin {hp0:HP}(m:Mat hp0.length t0 t1 gp po g gs n l hp)(hn:gs.length=n):Za8 false hp0 (.arr g 0 n 1) hp none=(.lst 1 (l.map fun r=>[.lst 1 (Zkq r)]),hp0,none):=by
 have hb:¬ g < hp0.length:=by have:=m.low.1; omega
 have e1:gs.map (fun x=>AV.arr x 0 n 1) ++ List.replicate (n - gs.length) (AV.own 1 [])=gs.map (fun x=>AV.arr x 0 n 1):=by rw [hn,Nat.sub_self]; simp
 have hm:∀ q:List Nat,∀ k:Nat,(∀ (i x:Nat),q[i]? = some x→gs[k + i]? = some x)→(q.map (fun x=>AV.arr x 0 n 1)).mapM (Zc3 hp0.length hp 3)=some (((l.drop k).take q.length).map fun r=>AV.lst 1 (Zkq r)):=by
  intro q
  induction q with
  | nil=>intro k _; rfl
  | cons x q ih =>
   intro k hq
   have hx:=hq 0 x rfl
   rw [Nat.add_zero] at hx
   obtain ⟨r1,r2⟩:=m.row k x hx
   have hk:k < l.length:=by rw [m.len]; exact (List.getElem?_eq_some_iff.1 hx).1
   have e2:=ZqO (d := 2) (m.low.2 x (List.mem_of_getElem? hx)) r2 r1
   have e3:=ih (k + 1) fun i y hy=>by
    have:=hq (i + 1) y (by simpa using hy)
    rwa [show k + (i + 1)=k + 1 + i by omega] at this
   rw [List.map_cons,List.mapM_cons,e2,e3]
   rw [List.drop_eq_getElem_cons hk,List.length_cons,List.take_succ_cons,List.map_cons]
   have e4:l.getD k []=l[k]:=by rw [List.getD_eq_getElem?_getD,List.getElem?_eq_getElem hk]; rfl
   rw [e4]; rfl
 have h2:=hm gs 0 fun i x h=>by rw [Nat.zero_add]; exact h
 rw [List.drop_zero,List.take_of_length_le (by rw [m.len]; exact Nat.le_refl _)] at h2
 have h3:frz hp0.length hp (.arr g 0 n 1)=some (.lst 1 (l.map fun r=>[.lst 1 (Zkq r)])):=by
  show Zc3 hp0.length hp 4 (.arr g 0 n 1)=_
  have ht:=m.top
  rw [e1] at ht
  rw [Zc3,if_neg hb]
  simp only [ht]
  have hl:(gs.map (fun x=>AV.arr x 0 n 1)).length=n:=by rw [List.length_map]; exact hn
  rw [if_pos (by omega),List.drop_zero,List.take_of_length_le (by omega),h2]
  simp only [Option.bind_some]
  have h5:(l.map fun r=>AV.lst 1 (Zkq r)).all AV.noId1=true:=by simp [AV.noId1]
  have h6:(l.map fun r=>AV.lst 1 (Zkq r)).length=n:=by rw [List.length_map,m.len]; exact hn
  rw [if_pos h5,← h6,Zd2,List.map_map]; rfl
 unfold Za8 finish
 simp only [h3]
 rfl
end
end Go.Proofs.YtgjcjbhhhlelnaaGreatDoor
end
section
namespace Go.Proofs.YtgjcjbhhhlelnaaGreatDoor
open Go Go.Proofs.YtgjcjbhhhlelnaaGreatDoor.Abs
set_option maxRecDepth 100000
set_option maxHeartbeats 0
def Zh:List Nat:=[96,97]
def XR:YE :=
 .seq (.region false [⟨(some 24),.bin .lss .prim (.tmp 23) (.tmp 22),none⟩])
 (.seq (.cond (.tmp 24) (.skip)
  (.exit 0))
  (.seq (.block 1 (.seq (.region false [⟨(some 25),.mv (.tmp 23),none⟩,
     ⟨(some 5),.take 25,none⟩])
   (.seq (.region false [⟨(some 26),.mv (.tmp 4),none⟩,
     ⟨(some 27),.mv (.tmp 5),none⟩,
     ⟨(some 28),.lit 3 1 [(.const (.int .i64 (-1)))],none⟩,
     ⟨(some 29),.mv (.tmp 3),none⟩,
     ⟨(some 30),.call (.const (.fn 28 [] [])) [(.inr (.tmp 28)),(.inr (.tmp 29))],none⟩,
     ⟨(some 31),.ia (.slice 1) (.tmp 26) (.tmp 27),none⟩,
     ⟨none,.stt (.tmp 31) 30,none⟩])
    (.region false [⟨(some 32),.mv (.tmp 4),none⟩,
     ⟨(some 33),.mv (.tmp 5),none⟩,
     ⟨(some 34),.ia (.slice 1) (.tmp 32) (.tmp 33),none⟩,
     ⟨(some 35),.ldc (.tmp 34),none⟩,
     ⟨(some 36),.mv (.tmp 5),none⟩,
     ⟨(some 37),.ia (.slice 1) (.tmp 35) (.tmp 36),none⟩,
     ⟨none,.st 1 (.tmp 37) (.const (.int .i64 0)),none⟩]))))
  (.region false [⟨(some 38),.bin .add .prim (.tmp 23) (.const (.int .i64 1)),none⟩,
    ⟨(some 23),.mv (.tmp 38),none⟩])))
def KP:YE:=.loop XR
def XT:YE :=
 .seq (.region false [⟨(some 43),.bin .lss .prim (.tmp 42) (.tmp 41),none⟩])
 (.seq (.cond (.tmp 43) (.skip)
  (.exit 2))
  (.seq (.block 3 (.seq (.region false [⟨(some 44),.ia (.slice 3) (.tmp 40) (.tmp 42),none⟩,
     ⟨(some 45),.lda 3 (.tmp 44),none⟩,
     ⟨(some 7),.mk 36 [(.int .i64 0),(.int .i64 0),(.int .i64 0)],none⟩,
     ⟨none,.st 3 (.tmp 7) (.tmp 45),none⟩])
   (.region true [⟨(some 46),.mv (.tmp 4),none⟩,
     ⟨(some 47),.fa 0 (.tmp 7),none⟩,
     ⟨(some 48),.ldc (.tmp 47),none⟩,
     ⟨(some 49),.ia (.slice 1) (.tmp 46) (.tmp 48),none⟩,
     ⟨(some 50),.ldc (.tmp 49),none⟩,
     ⟨(some 51),.fa 1 (.tmp 7),none⟩,
     ⟨(some 52),.ldc (.tmp 51),none⟩,
     ⟨(some 53),.mv (.tmp 4),none⟩,
     ⟨(some 54),.fa 0 (.tmp 7),none⟩,
     ⟨(some 55),.ldc (.tmp 54),none⟩,
     ⟨(some 56),.ia (.slice 1) (.tmp 53) (.tmp 55),none⟩,
     ⟨(some 57),.ldc (.tmp 56),none⟩,
     ⟨(some 58),.fa 1 (.tmp 7),none⟩,
     ⟨(some 59),.ldc (.tmp 58),none⟩,
     ⟨(some 60),.ia (.slice 1) (.tmp 57) (.tmp 59),none⟩,
     ⟨(some 61),.ldc (.tmp 60),none⟩,
     ⟨(some 62),.fa 2 (.tmp 7),none⟩,
     ⟨(some 63),.ldc (.tmp 62),none⟩,
     ⟨(some 64),.call (.const (.fn 29 [] [])) [(.inr (.tmp 61)),(.inr (.tmp 63))],none⟩,
     ⟨(some 65),.ia (.slice 1) (.tmp 50) (.tmp 52),none⟩,
     ⟨none,.stt (.tmp 65) 64,none⟩])))
  (.region false [⟨(some 66),.bin .add .prim (.tmp 42) (.const (.int .i64 1)),none⟩,
    ⟨(some 42),.mv (.tmp 66),none⟩])))
def KQ:YE:=.loop XT
def XU:YE :=
 .seq (.region false [⟨(some 77),.bin .lss .prim (.tmp 76) (.tmp 75),none⟩])
 (.seq (.cond (.tmp 77) (.skip)
  (.exit 8))
  (.seq (.block 9 (.seq (.region false [⟨(some 78),.mv (.tmp 76),none⟩,
     ⟨(some 10),.take 78,none⟩])
   (.seq (.region true [⟨(some 79),.mv (.tmp 4),none⟩,
     ⟨(some 80),.mv (.tmp 9),none⟩,
     ⟨(some 81),.ia (.slice 1) (.tmp 79) (.tmp 80),none⟩,
     ⟨(some 82),.ldc (.tmp 81),none⟩,
     ⟨(some 83),.mv (.tmp 8),none⟩,
     ⟨(some 84),.ia (.slice 1) (.tmp 82) (.tmp 83),none⟩,
     ⟨(some 85),.ldc (.tmp 84),none⟩,
     ⟨(some 86),.mv (.tmp 4),none⟩,
     ⟨(some 87),.mv (.tmp 8),none⟩,
     ⟨(some 88),.ia (.slice 1) (.tmp 86) (.tmp 87),none⟩,
     ⟨(some 89),.ldc (.tmp 88),none⟩,
     ⟨(some 90),.mv (.tmp 10),none⟩,
     ⟨(some 91),.ia (.slice 1) (.tmp 89) (.tmp 90),none⟩,
     ⟨(some 92),.ldc (.tmp 91),none⟩,
     ⟨(some 11),.mv (.tmp 85),none⟩,
     ⟨(some 12),.mv (.tmp 92),none⟩])
    (.seq (.region false [⟨(some 93),.mv (.tmp 11),none⟩,
      ⟨(some 94),.bin .neq .prim (.tmp 93) (.const (.int .i64 (-1))),none⟩,
      ⟨(some 95),.mv (.tmp 94),none⟩,
      ⟨(some 96),.mv (.tmp 12),(some (95,true))⟩,
      ⟨(some 97),.bin .neq .prim (.tmp 96) (.const (.int .i64 (-1))),(some (95,true))⟩,
      ⟨(some 98),.pick (.tmp 95) (.tmp 97) (.const (.bool false)),none⟩])
    (.cond (.tmp 98) (.region true [⟨(some 99),.mv (.tmp 4),none⟩,
      ⟨(some 100),.mv (.tmp 9),none⟩,
      ⟨(some 101),.ia (.slice 1) (.tmp 99) (.tmp 100),none⟩,
      ⟨(some 102),.ldc (.tmp 101),none⟩,
      ⟨(some 103),.mv (.tmp 10),none⟩,
      ⟨(some 104),.mv (.tmp 4),none⟩,
      ⟨(some 105),.mv (.tmp 9),none⟩,
      ⟨(some 106),.ia (.slice 1) (.tmp 104) (.tmp 105),none⟩,
      ⟨(some 107),.ldc (.tmp 106),none⟩,
      ⟨(some 108),.mv (.tmp 10),none⟩,
      ⟨(some 109),.ia (.slice 1) (.tmp 107) (.tmp 108),none⟩,
      ⟨(some 110),.ldc (.tmp 109),none⟩,
      ⟨(some 111),.mv (.tmp 11),none⟩,
      ⟨(some 112),.mv (.tmp 12),none⟩,
      ⟨(some 113),.call (.const (.fn 30 [] [])) [(.inr (.tmp 111)),(.inr (.tmp 112))],none⟩,
      ⟨(some 114),.call (.const (.fn 29 [] [])) [(.inr (.tmp 110)),(.inr (.tmp 113))],none⟩,
      ⟨(some 115),.ia (.slice 1) (.tmp 102) (.tmp 103),none⟩,
      ⟨none,.stt (.tmp 115) 114,none⟩])
     (.skip))))))
  (.region false [⟨(some 116),.bin .add .prim (.tmp 76) (.const (.int .i64 1)),none⟩,
    ⟨(some 76),.mv (.tmp 116),none⟩])))
def KX:YE:=.loop XU
def KL:YE :=
 .region false [⟨(some 117),.bin .add .prim (.tmp 72) (.const (.int .i64 1)),none⟩,
  ⟨(some 72),.mv (.tmp 117),none⟩]
def Q7:YE :=
 .seq (.region false [⟨(some 73),.bin .lss .prim (.tmp 72) (.tmp 71),none⟩])
 (.seq (.cond (.tmp 73) (.skip)
  (.exit 6))
  (.seq (.block 7 (.seq (.region false [⟨(some 74),.mv (.tmp 72),none⟩,
     ⟨(some 9),.take 74,none⟩])
   (.seq (.region false [⟨(some 75),.mv (.tmp 3),none⟩,
     ⟨(some 76),.mv (.const (.int .i64 0)),none⟩])
    (.block 8 (KX)))))
  KL))
def KW:YE:=.loop Q7
def KN:YE :=
 .region false [⟨(some 118),.bin .add .prim (.tmp 68) (.const (.int .i64 1)),none⟩,
  ⟨(some 68),.mv (.tmp 118),none⟩]
def Q5:YE :=
 .seq (.region false [⟨(some 69),.bin .lss .prim (.tmp 68) (.tmp 67),none⟩])
 (.seq (.cond (.tmp 69) (.skip)
  (.exit 4))
  (.seq (.block 5 (.seq (.region false [⟨(some 70),.mv (.tmp 68),none⟩,
     ⟨(some 8),.take 70,none⟩])
   (.seq (.region false [⟨(some 71),.mv (.tmp 3),none⟩,
     ⟨(some 72),.mv (.const (.int .i64 0)),none⟩])
    (.block 6 (KW)))))
  KN))
def KU:YE:=.loop Q5
def KO:YE :=
 .seq (.region false [⟨(some 119),.take 4,none⟩,
   ⟨(some 2),.take 119,none⟩])
 (.ret)
def V6:YE :=
 .seq (.seq (.region false [⟨(some 67),.mv (.tmp 3),none⟩,
   ⟨(some 68),.mv (.const (.int .i64 0)),none⟩])
  (.block 4 (KU)))
 KO
def V5:YE :=
 .seq (.seq (.region false [⟨(some 39),.fa 2 (.tmp 1),none⟩,
   ⟨(some 40),.ldc (.tmp 39),none⟩,
   ⟨(some 41),.len .slice (.tmp 40),none⟩,
   ⟨(some 42),.mv (.const (.int .i64 0)),none⟩])
  (.block 2 (KQ)))
 V6
def JX:YE :=
 .seq (.region false [⟨(some 1),.box 25 3 (.tmp 0),none⟩,
   ⟨(some 2),.mv (.const (.own 1 [])),none⟩])
 (.seq (.seq (.region false [⟨(some 13),.lda 3 (.tmp 1),none⟩,
    ⟨(some 14),.call (.const (.fn 25 [] [])) [(.inr (.tmp 13))],none⟩,
    ⟨(some 15),.bin .neq .prim (.tmp 14) (.const (.int .i64 0)),none⟩])
  (.cond (.tmp 15) (.seq (.region false [⟨(some 2),.mv (.const (.own 1 [])),none⟩])
   (.ret))
   (.skip)))
  (.seq (.region false [⟨(some 16),.fa 1 (.tmp 1),none⟩,
    ⟨(some 17),.ldc (.tmp 16),none⟩,
    ⟨(some 18),.len .slice (.tmp 17),none⟩,
    ⟨(some 3),.take 18,none⟩])
  (.seq (.region false [⟨(some 19),.mv (.tmp 3),none⟩,
    ⟨(some 20),.mksl 26 [(.own 1 [])] (.tmp 19),none⟩,
    ⟨(some 4),.take 20,none⟩])
   (.seq (.seq (.region false [⟨(some 21),.mv (.tmp 4),none⟩,
     ⟨(some 22),.len .slice (.tmp 21),none⟩,
     ⟨(some 23),.mv (.const (.int .i64 0)),none⟩])
    (.block 0 (KP)))
   V5))))
def Zq:AFn:=⟨120,[.tmp 2],JX,false⟩
theorem UG:OI=Zq:=by kernel_rfl
def Xb (G:GT)(K:KT)(L:Nat)(hp0:HP)(y4:AV)(hp:HP)(ef:Eff):KR :=
 some (Za8 false hp0 y4 hp ef)
theorem TM (G:GT)(K:KT)(L:Nat)(hp0:HP)   : Y7 G 120 hp0.length K Zh L KO (JM Zh Zq hp0) (JM Zh Zq hp0) []=fun e hp ef=>Xb G K L hp0  (e 4).val hp ef:=by
 kernel_rfl
def Xa (G:GT)(K:KT)(L:Nat)(hp0:HP)(kn:AV→AV→AV→AV→AV→HP→Eff→KR)(x3:AV)(x4:AV)(y4:AV)(x67:AV)(x68:AV)(hp:HP)(ef:Eff):KR :=
 Yc (ZC .add .prim x68 (.int .i64 1)) fun v13 =>
 kn x3 x4 y4 x67 v13 hp ef
theorem TL (G:GT)(K:KT)(L:Nat)(hp0:HP)(kn:AV→AV→AV→AV→AV→HP→Eff→KR)(z4:Ut):Y7 G 120 hp0.length K Zh L KN (fun e hp ef=>kn (e 3).rd (e 4).rd (e 4).val (e 67).rd (e 68).rd hp ef) (JM Zh Zq hp0) [(4,z4)]=fun e hp ef=>Xa G K L hp0 kn (e 3).rd (e 4).rd (e 4).val (e 67).rd (e 68).rd hp ef:=by
 kernel_rfl
def QZ (G:GT)(K:KT)(L:Nat)(hp0:HP)(kn:AV→AV→AV→AV→AV→AV→AV→AV→HP→Eff→KR)(x3:AV)(x4:AV)(y4:AV)(x8:AV)(x67:AV)(x68:AV)(x71:AV)(x72:AV)(hp:HP)(ef:Eff):KR :=
 Yc (ZC .add .prim x72 (.int .i64 1)) fun v15 =>
 kn x3 x4 y4 x8 x67 x68 x71 v15 hp ef
theorem TK (G:GT)(K:KT)(L:Nat)(hp0:HP)(kn:AV→AV→AV→AV→AV→AV→AV→AV→HP→Eff→KR)(z6 z5 z4:Ut):Y7 G 120 hp0.length K Zh L KL (fun e hp ef=>kn (e 3).rd (e 4).rd (e 4).val (e 8).rd (e 67).rd (e 68).rd (e 71).rd (e 72).rd hp ef) (JM Zh Zq hp0) [(6,z6),(5,z5),(4,z4)]=fun e hp ef=>QZ G K L hp0 kn (e 3).rd (e 4).rd (e 4).val (e 8).rd (e 67).rd (e 68).rd (e 71).rd (e 72).rd hp ef:=by
 kernel_rfl
def YA (G:GT)(K:KT)(L:Nat)(hp0:HP)(k8:AV→AV→AV→AV→AV→AV→AV→AV→HP→Eff→KR):Nat→AV→AV→AV→AV→AV→AV→AV→AV→AV→AV→AV→HP→Eff→KR
 | 0,_,_,_,_,_,_,_,_,_,_,_,_,_=>none
 | m + 1,x3,x4,y4,x8,x9,x67,x68,x71,x72,x75,x76,hp,ef =>
  Yc (ZC .lss .prim x76 x75) fun v16 =>
  ifK v16
  (Yc (Qn (.slice 1) x4 x9) fun v17 =>
  Yc (ZV hp v17) fun v18 =>
  Yc (Qn (.slice 1) v18 x8) fun v19 =>
  Yc (ZV hp v19) fun v20 =>
  Yc (Qn (.slice 1) x4 x8) fun v21 =>
  Yc (ZV hp v21) fun v22 =>
  Yc (Qn (.slice 1) v22 x76) fun v23 =>
  Yc (ZV hp v23) fun v24 =>
  Yc (ZC .neq .prim v20 (.int .i64 (-1))) fun v25 =>
  Zgy v25 true
  (Yc (ZC .neq .prim v24 (.int .i64 (-1))) fun v26 =>
  some (v26,hp,ef))
  (some (.bool false)) hp ef fun v27 h28 f29 =>
  ifK (AV.ro v27)
  (Yc (Qn (.slice 1) x4 x9) fun v30 =>
  Yc (ZV h28 v30) fun v31 =>
  Yc (Qn (.slice 1) x4 x9) fun v32 =>
  Yc (ZV h28 v32) fun v33 =>
  Yc (Qn (.slice 1) v33 x76) fun v34 =>
  Yc (ZV h28 v34) fun v35 =>
  Gy (YU K Hf [v20,v24] h28) fun v36 h37 f38 =>
  Gy (YU K Ym [v35,(AV.ro v36)] h37) fun v39 h40 f41 =>
  Yc (Qn (.slice 1) v31 x76) fun v42 =>
  Zad (ZpP hp0.length v42 v39 h40 (Vy hp0.length (Vy hp0.length f29 f38) f41)) fun h43 f44 =>
  Yc (ZC .add .prim x76 (.int .i64 1)) fun v45 =>
  YA G K L hp0 k8 m x3 x4 y4 x8 x9 x67 x68 x71 x72 x75 v45 h43 f44)
  (Yc (ZC .add .prim x76 (.int .i64 1)) fun v46 =>
  YA G K L hp0 k8 m x3 x4 y4 x8 x9 x67 x68 x71 x72 x75 v46 h28 f29))
  (k8 x3 x4 y4 x8 x67 x68 x71 x72 hp ef)
theorem Mc (G:GT)(K:KT)(L:Nat)(hp0:HP)(k8:AV→AV→AV→AV→AV→AV→AV→AV→HP→Eff→KR)(z7 z6 z5 z4:Ut):∀ m,Gn (fun n'=>Y7 G 120 hp0.length K Zh L XU n' (JM Zh Zq hp0) [(8,(fun e hp ef=>k8 (e 3).rd (e 4).rd (e 4).val (e 8).rd (e 67).rd (e 68).rd (e 71).rd (e 72).rd hp ef)),(7,z7),(6,z6),(5,z5),(4,z4)]) m=fun e hp ef=>YA G K L hp0 k8 m (e 3).rd (e 4).rd (e 4).val (e 8).rd (e 9).rd (e 67).rd (e 68).rd (e 71).rd (e 72).rd (e 75).rd (e 76).rd hp ef:=by
 intro m
 induction m with
 | zero=>rfl
 | succ m ih =>
  show Y7 G 120 hp0.length K Zh L XU (Gn _ m) (JM Zh Zq hp0) [(8,(fun e hp ef=>k8 (e 3).rd (e 4).rd (e 4).val (e 8).rd (e 67).rd (e 68).rd (e 71).rd (e 72).rd hp ef)),(7,z7),(6,z6),(5,z5),(4,z4)]=_
  rw [ih]
  kernel_rfl
theorem TZ (G:GT)(K:KT)(L:Nat)(hp0:HP)(k8:AV→AV→AV→AV→AV→AV→AV→AV→HP→Eff→KR)(z7 z6 z5 z4:Ut)(zn:Ut):Y7 G 120 hp0.length K Zh L KX zn (JM Zh Zq hp0) [(8,(fun e hp ef=>k8 (e 3).rd (e 4).rd (e 4).val (e 8).rd (e 67).rd (e 68).rd (e 71).rd (e 72).rd hp ef)),(7,z7),(6,z6),(5,z5),(4,z4)]=fun e hp ef=>YA G K L hp0 k8 L (e 3).rd (e 4).rd (e 4).val (e 8).rd (e 9).rd (e 67).rd (e 68).rd (e 71).rd (e 72).rd (e 75).rd (e 76).rd hp ef:=Mc G K L hp0 k8 z7 z6 z5 z4 L
def Yr (G:GT)(K:KT)(L:Nat)(hp0:HP)(k6:AV→AV→AV→AV→AV→HP→Eff→KR):Nat→AV→AV→AV→AV→AV→AV→AV→AV→HP→Eff→KR
 | 0,_,_,_,_,_,_,_,_,_,_=>none
 | m + 1,x3,x4,y4,x8,x67,x68,x71,x72,hp,ef =>
  Yc (ZC .lss .prim x72 x71) fun v14 =>
  ifK v14
  (YA G K L hp0 (QZ G K L hp0 (Yr G K L hp0 k6 m)) L x3 x4 y4 x8 x72 x67 x68 x71 x72 x3 (.int .i64 0) hp ef)
  (k6 x3 x4 y4 x67 x68 hp ef)
theorem TY (G:GT)(K:KT)(L:Nat)(hp0:HP)(k6:AV→AV→AV→AV→AV→HP→Eff→KR)(z5 z4:Ut):∀ m,Gn (fun n'=>Y7 G 120 hp0.length K Zh L Q7 n' (JM Zh Zq hp0) [(6,(fun e hp ef=>k6 (e 3).rd (e 4).rd (e 4).val (e 67).rd (e 68).rd hp ef)),(5,z5),(4,z4)]) m=fun e hp ef=>Yr G K L hp0 k6 m (e 3).rd (e 4).rd (e 4).val (e 8).rd (e 67).rd (e 68).rd (e 71).rd (e 72).rd hp ef:=by
 intro m
 induction m with
 | zero=>rfl
 | succ m ih =>
  show Y7 G 120 hp0.length K Zh L Q7 (Gn _ m) (JM Zh Zq hp0) [(6,(fun e hp ef=>k6 (e 3).rd (e 4).rd (e 4).val (e 67).rd (e 68).rd hp ef)),(5,z5),(4,z4)]=_
  rw [ih]
  simp only [Q7,Xy,WS,WT,Qx]
  rw [TK G K L hp0 (Yr G K L hp0 k6 m) _ _ _,TZ G K L hp0 (QZ G K L hp0 (Yr G K L hp0 k6 m)) _ _ _ _ _]
  kernel_rfl
theorem TW (G:GT)(K:KT)(L:Nat)(hp0:HP)(k6:AV→AV→AV→AV→AV→HP→Eff→KR)(z5 z4:Ut)(zn:Ut):Y7 G 120 hp0.length K Zh L KW zn (JM Zh Zq hp0) [(6,(fun e hp ef=>k6 (e 3).rd (e 4).rd (e 4).val (e 67).rd (e 68).rd hp ef)),(5,z5),(4,z4)]=fun e hp ef=>Yr G K L hp0 k6 L (e 3).rd (e 4).rd (e 4).val (e 8).rd (e 67).rd (e 68).rd (e 71).rd (e 72).rd hp ef:=TY G K L hp0 k6 z5 z4 L
def Yq (G:GT)(K:KT)(L:Nat)(hp0:HP)(k4:AV→HP→Eff→KR):Nat→AV→AV→AV→AV→AV→HP→Eff→KR
 | 0,_,_,_,_,_,_,_=>none
 | m + 1,x3,x4,y4,x67,x68,hp,ef =>
  Yc (ZC .lss .prim x68 x67) fun v12 =>
  ifK v12
  (Yr G K L hp0 (Xa G K L hp0 (Yq G K L hp0 k4 m)) L x3 x4 y4 x68 x67 x68 x3 (.int .i64 0) hp ef)
  (k4 y4 hp ef)
theorem TU (G:GT)(K:KT)(L:Nat)(hp0:HP)(k4:AV→HP→Eff→KR)  : ∀ m,Gn (fun n'=>Y7 G 120 hp0.length K Zh L Q5 n' (JM Zh Zq hp0) [(4,(fun e hp ef=>k4 (e 4).val hp ef))]) m=fun e hp ef=>Yq G K L hp0 k4 m (e 3).rd (e 4).rd (e 4).val (e 67).rd (e 68).rd hp ef:=by
 intro m
 induction m with
 | zero=>rfl
 | succ m ih =>
  show Y7 G 120 hp0.length K Zh L Q5 (Gn _ m) (JM Zh Zq hp0) [(4,(fun e hp ef=>k4 (e 4).val hp ef))]=_
  rw [ih]
  simp only [Q5,Xy,WS,WT,Qx]
  rw [TL G K L hp0 (Yq G K L hp0 k4 m) _,TW G K L hp0 (Xa G K L hp0 (Yq G K L hp0 k4 m)) _ _ _]
  kernel_rfl
theorem TS (G:GT)(K:KT)(L:Nat)(hp0:HP)(k4:AV→HP→Eff→KR)(zn:Ut):Y7 G 120 hp0.length K Zh L KU zn (JM Zh Zq hp0) [(4,(fun e hp ef=>k4 (e 4).val hp ef))]=fun e hp ef=>Yq G K L hp0 k4 L (e 3).rd (e 4).rd (e 4).val (e 67).rd (e 68).rd hp ef:=TU G K L hp0 k4  L
def QY (G:GT)(K:KT)(L:Nat)(hp0:HP)(x3:AV)(x4:AV)(y4:AV)(hp:HP)(ef:Eff):KR :=
 Yq G K L hp0 (Xb G K L hp0) L x3 x4 y4 x3 (.int .i64 0) hp ef
theorem TJ (G:GT)(K:KT)(L:Nat)(hp0:HP)   : Y7 G 120 hp0.length K Zh L V6 (JM Zh Zq hp0) (JM Zh Zq hp0) []=fun e hp ef=>QY G K L hp0  (e 3).rd (e 4).rd (e 4).val hp ef:=by
 simp only [V6,Xy,WS,WT,Qx]
 rw [TM G K L hp0  ,TS G K L hp0 (Xb G K L hp0)  _]
 kernel_rfl
def Wh (G:GT)(K:KT)(L:Nat)(hp0:HP)(k2:AV→AV→AV→HP→Eff→KR):Nat→AV→AV→AV→AV→AV→AV→HP→Eff→KR
 | 0,_,_,_,_,_,_,_,_=>none
 | m + 1,x3,x4,y4,x40,x41,x42,hp,ef =>
  Yc (ZC .lss .prim x42 x41) fun v50 =>
  ifK v50
  (Yc (Qn (.slice 3) x40 x42) fun v51 =>
  Yc (QR hp 3 v51) fun v52 =>
  Zvk (hp ++ [.cells [(.int .i64 0),(.int .i64 0),(.int .i64 0)] YL]) fun h53 =>
  Zad (stV hp0.length 3 (.ptr (hp).length 0) v52 h53 ef) fun h54 f55 =>
  Yc (X0 0 (.ptr (hp).length 0)) fun v56 =>
  Yc (ZV h54 v56) fun v57 =>
  Yc (Qn (.slice 1) x4 v57) fun v58 =>
  Yc (ZV h54 v58) fun v59 =>
  Yc (X0 1 (.ptr (hp).length 0)) fun v60 =>
  Yc (ZV h54 v60) fun v61 =>
  Yc (X0 0 (.ptr (hp).length 0)) fun v62 =>
  Yc (ZV h54 v62) fun v63 =>
  Yc (Qn (.slice 1) x4 v63) fun v64 =>
  Yc (ZV h54 v64) fun v65 =>
  Yc (X0 1 (.ptr (hp).length 0)) fun v66 =>
  Yc (ZV h54 v66) fun v67 =>
  Yc (Qn (.slice 1) v65 v67) fun v68 =>
  Yc (ZV h54 v68) fun v69 =>
  Yc (X0 2 (.ptr (hp).length 0)) fun v70 =>
  Yc (ZV h54 v70) fun v71 =>
  Gy (YU K Ym [v69,v71] h54) fun v72 h73 f74 =>
  Yc (Qn (.slice 1) v59 v61) fun v75 =>
  Zad (ZpP hp0.length v75 v72 h73 (Vy hp0.length f55 f74)) fun h76 f77 =>
  Yc (ZC .add .prim x42 (.int .i64 1)) fun v78 =>
  Wh G K L hp0 k2 m x3 x4 y4 x40 x41 v78 h76 f77)
  (k2 x3 x4 y4 hp ef)
theorem TR (G:GT)(K:KT)(L:Nat)(hp0:HP)(k2:AV→AV→AV→HP→Eff→KR)  : ∀ m,Gn (fun n'=>Y7 G 120 hp0.length K Zh L XT n' (JM Zh Zq hp0) [(2,(fun e hp ef=>k2 (e 3).rd (e 4).rd (e 4).val hp ef))]) m=fun e hp ef=>Wh G K L hp0 k2 m (e 3).rd (e 4).rd (e 4).val (e 40).rd (e 41).rd (e 42).rd hp ef:=by
 intro m
 induction m with
 | zero=>rfl
 | succ m ih =>
  show Y7 G 120 hp0.length K Zh L XT (Gn _ m) (JM Zh Zq hp0) [(2,(fun e hp ef=>k2 (e 3).rd (e 4).rd (e 4).val hp ef))]=_
  rw [ih]
  kernel_rfl
theorem TQ (G:GT)(K:KT)(L:Nat)(hp0:HP)(k2:AV→AV→AV→HP→Eff→KR)(zn:Ut):Y7 G 120 hp0.length K Zh L KQ zn (JM Zh Zq hp0) [(2,(fun e hp ef=>k2 (e 3).rd (e 4).rd (e 4).val hp ef))]=fun e hp ef=>Wh G K L hp0 k2 L (e 3).rd (e 4).rd (e 4).val (e 40).rd (e 41).rd (e 42).rd hp ef:=TR G K L hp0 k2  L
def QX (G:GT)(K:KT)(L:Nat)(hp0:HP)(x1:AV)(x3:AV)(x4:AV)(y4:AV)(hp:HP)(ef:Eff):KR :=
 Yc (X0 2 x1) fun v47 =>
 Yc (ZV hp v47) fun v48 =>
 Yc (QU hp .slice v48) fun v49 =>
 Wh G K L hp0 (QY G K L hp0) L x3 x4 y4 v48 v49 (.int .i64 0) hp ef
theorem TD (G:GT)(K:KT)(L:Nat)(hp0:HP)   : Y7 G 120 hp0.length K Zh L V5 (JM Zh Zq hp0) (JM Zh Zq hp0) []=fun e hp ef=>QX G K L hp0  (e 1).rd (e 3).rd (e 4).rd (e 4).val hp ef:=by
 simp only [V5,Xy,WS,WT,Qx]
 rw [TJ G K L hp0  ,TQ G K L hp0 (QY G K L hp0)  _]
 kernel_rfl
def We (G:GT)(K:KT)(L:Nat)(hp0:HP)(k0:AV→AV→AV→AV→HP→Eff→KR):Nat→AV→AV→AV→AV→AV→AV→HP→Eff→KR
 | 0,_,_,_,_,_,_,_,_=>none
 | m + 1,x1,x3,x4,y4,x22,x23,hp,ef =>
  Yc (ZC .lss .prim x23 x22) fun v80 =>
  ifK v80
  (Zad (ZxQ WP 1 [(.int .i64 (-1))] hp) fun v81 h82 =>
  Gy (K ZI [(AV.ro v81),x3] h82) fun v83 h84 f85 =>
  Yc (Qn (.slice 1) x4 x23) fun v86 =>
  Zad (ZpP hp0.length v86 v83 h84 (Vy hp0.length ef f85)) fun h87 f88 =>
  Yc (Qn (.slice 1) x4 x23) fun v89 =>
  Yc (ZV h87 v89) fun v90 =>
  Yc (Qn (.slice 1) v90 x23) fun v91 =>
  Zad (stV hp0.length 1 v91 (.int .i64 0) h87 f88) fun h92 f93 =>
  Yc (ZC .add .prim x23 (.int .i64 1)) fun v94 =>
  We G K L hp0 k0 m x1 x3 x4 y4 x22 v94 h92 f93)
  (k0 x1 x3 x4 y4 hp ef)
theorem TP (G:GT)(K:KT)(L:Nat)(hp0:HP)(k0:AV→AV→AV→AV→HP→Eff→KR)  : ∀ m,Gn (fun n'=>Y7 G 120 hp0.length K Zh L XR n' (JM Zh Zq hp0) [(0,(fun e hp ef=>k0 (e 1).rd (e 3).rd (e 4).rd (e 4).val hp ef))]) m=fun e hp ef=>We G K L hp0 k0 m (e 1).rd (e 3).rd (e 4).rd (e 4).val (e 22).rd (e 23).rd hp ef:=by
 intro m
 induction m with
 | zero=>rfl
 | succ m ih =>
  show Y7 G 120 hp0.length K Zh L XR (Gn _ m) (JM Zh Zq hp0) [(0,(fun e hp ef=>k0 (e 1).rd (e 3).rd (e 4).rd (e 4).val hp ef))]=_
  rw [ih]
  kernel_rfl
theorem TN (G:GT)(K:KT)(L:Nat)(hp0:HP)(k0:AV→AV→AV→AV→HP→Eff→KR)(zn:Ut):Y7 G 120 hp0.length K Zh L KP zn (JM Zh Zq hp0) [(0,(fun e hp ef=>k0 (e 1).rd (e 3).rd (e 4).rd (e 4).val hp ef))]=fun e hp ef=>We G K L hp0 k0 L (e 1).rd (e 3).rd (e 4).rd (e 4).val (e 22).rd (e 23).rd hp ef:=TP G K L hp0 k0  L
def Vk (G:GT)(K:KT)(L:Nat)(x0:AV)(hp0:HP):KR :=
 Yc (Zqh 3 (AV.ro x0)) fun v1 =>
 Zvk (hp0 ++ [.cells v1 Zv]) fun h0 =>
 Yc (QR h0 3 (.ptr (hp0).length 0)) fun v2 =>
 Gy (K Jd [v2] h0) fun v3 h4 f5 =>
 Yc (ZC .neq .prim (AV.ro v3) (.int .i64 0)) fun v6 =>
 ifK v6
 (some (Za8 false hp0 (.own 1 []) h4 (Vy hp0.length none f5)))
 (Yc (X0 1 (.ptr (hp0).length 0)) fun v7 =>
 Yc (ZV h4 v7) fun v8 =>
 Yc (QU h4 .slice v8) fun v9 =>
 Zad (Fp Ir [(.own 1 [])] v9 h4) fun v10 h11 =>
 Yc (QU h11 .slice v10) fun v79 =>
 We G K L hp0 (QX G K L hp0) L (.ptr (hp0).length 0) v9 v10 v10 v79 (.int .i64 0) h11 (Vy hp0.length none f5))
theorem PL (G:GT)(K:KT)(L:Nat)(x0:AV)(hp0:HP):fnK G K Zh L Zq [x0] hp0=Vk G K L x0 hp0:=by
 show Y7 G 120 hp0.length K Zh L JX (JM Zh Zq hp0) (JM Zh Zq hp0) [] (ZsR [x0]) hp0 none=_
 simp only [JX,Xy,WS,WT,Qx]
 rw [TD G K L hp0  ,TN G K L hp0 (QX G K L hp0)  _]
 kernel_rfl
theorem HY {C:Cfg}(h:C.T Vh=some Zq){n:Nat}{x0:AV}{hp:HP}{r:AV×HP×Eff}(hr:Vk C.G (Zr C n) C.L x0 hp=some r):Zr C (n + 1) Vh [x0] hp=some r:=Zb2 h (Nat.le_of_ble_eq_true rfl) ((PL ..).trans hr)
def Z8:List Nat:=[90,91,92,93,94,95,96,97,98,99]
def Hw:YE :=
 .seq (.seq (.region false [⟨(some 29),.mv (.tmp 6),none⟩,
   ⟨(some 30),.mv (.tmp 3),none⟩,
   ⟨(some 31),.bin .lss .prim (.tmp 29) (.tmp 30),none⟩])
  (.cond (.tmp 31) (.skip)
  (.exit 2)))
 (.seq (.block 3 (.seq (.region false [⟨(some 34),.mv (.tmp 6),none⟩,
    ⟨(some 35),.mv (.tmp 5),none⟩,
    ⟨(some 36),.bin .neq .prim (.tmp 34) (.tmp 35),none⟩])
   (.cond (.tmp 36) (.region false [⟨(some 37),.mv (.tmp 4),none⟩,
     ⟨(some 38),.mv (.tmp 5),none⟩,
     ⟨(some 39),.ia (.slice 1) (.tmp 37) (.tmp 38),none⟩,
     ⟨(some 40),.ldc (.tmp 39),none⟩,
     ⟨(some 41),.mv (.tmp 6),none⟩,
     ⟨(some 42),.ia (.slice 1) (.tmp 40) (.tmp 41),none⟩,
     ⟨none,.st 1 (.tmp 42) (.const (.int .i64 (-1))),none⟩])
   (.skip))))
  (.region false [⟨(some 32),.mv (.tmp 6),none⟩,
   ⟨(some 33),.bin .add .prim (.tmp 32) (.const (.int .i64 1)),none⟩,
   ⟨(some 6),.take 33,none⟩]))
def N8:YE:=.loop Hw
def Hy:YE :=
 .seq (.seq (.region false [⟨(some 48),.mv (.tmp 8),none⟩,
   ⟨(some 49),.fa 2 (.tmp 1),none⟩,
   ⟨(some 50),.ldc (.tmp 49),none⟩,
   ⟨(some 51),.len .slice (.tmp 50),none⟩,
   ⟨(some 52),.bin .lss .prim (.tmp 48) (.tmp 51),none⟩])
  (.cond (.tmp 52) (.skip)
  (.exit 6)))
 (.seq (.block 7 (.seq (.region false [⟨(some 55),.fa 2 (.tmp 1),none⟩,
    ⟨(some 56),.ldc (.tmp 55),none⟩,
    ⟨(some 57),.mv (.tmp 8),none⟩,
    ⟨(some 58),.ia (.slice 3) (.tmp 56) (.tmp 57),none⟩,
    ⟨(some 59),.lda 3 (.tmp 58),none⟩,
    ⟨(some 9),.mk 36 [(.int .i64 0),(.int .i64 0),(.int .i64 0)],none⟩,
    ⟨none,.st 3 (.tmp 9) (.tmp 59),none⟩])
   (.seq (.seq (.region true [⟨(some 60),.mv (.tmp 4),none⟩,
     ⟨(some 61),.mv (.tmp 5),none⟩,
     ⟨(some 62),.ia (.slice 1) (.tmp 60) (.tmp 61),none⟩,
     ⟨(some 63),.ldc (.tmp 62),none⟩,
     ⟨(some 64),.fa 0 (.tmp 9),none⟩,
     ⟨(some 65),.ldc (.tmp 64),none⟩,
     ⟨(some 66),.ia (.slice 1) (.tmp 63) (.tmp 65),none⟩,
     ⟨(some 67),.ldc (.tmp 66),none⟩,
     ⟨(some 68),.bin .lss .prim (.tmp 67) (.const (.int .i64 0)),none⟩])
    (.cond (.tmp 68) (.exit 7)
    (.skip)))
   (.seq (.region true [⟨(some 69),.mv (.tmp 4),none⟩,
     ⟨(some 70),.mv (.tmp 5),none⟩,
     ⟨(some 71),.ia (.slice 1) (.tmp 69) (.tmp 70),none⟩,
     ⟨(some 72),.ldc (.tmp 71),none⟩,
     ⟨(some 73),.fa 0 (.tmp 9),none⟩,
     ⟨(some 74),.ldc (.tmp 73),none⟩,
     ⟨(some 75),.ia (.slice 1) (.tmp 72) (.tmp 74),none⟩,
     ⟨(some 76),.ldc (.tmp 75),none⟩,
     ⟨(some 77),.fa 2 (.tmp 9),none⟩,
     ⟨(some 78),.ldc (.tmp 77),none⟩,
     ⟨(some 79),.call (.const (.fn 31 [] [])) [(.inr (.tmp 76)),(.inr (.tmp 78))],none⟩,
     ⟨(some 10),.mv (.tmp 79),none⟩])
    (.seq (.region true [⟨(some 80),.mv (.tmp 4),none⟩,
      ⟨(some 81),.mv (.tmp 5),none⟩,
      ⟨(some 82),.ia (.slice 1) (.tmp 80) (.tmp 81),none⟩,
      ⟨(some 83),.ldc (.tmp 82),none⟩,
      ⟨(some 84),.fa 1 (.tmp 9),none⟩,
      ⟨(some 85),.ldc (.tmp 84),none⟩,
      ⟨(some 86),.ia (.slice 1) (.tmp 83) (.tmp 85),none⟩,
      ⟨(some 87),.ldc (.tmp 86),none⟩,
      ⟨(some 88),.bin .lss .prim (.tmp 87) (.const (.int .i64 0)),none⟩,
      ⟨(some 89),.mv (.tmp 88),none⟩,
      ⟨(some 90),.mv (.tmp 10),(some (89,false))⟩,
      ⟨(some 91),.mv (.tmp 4),(some (89,false))⟩,
      ⟨(some 92),.mv (.tmp 5),(some (89,false))⟩,
      ⟨(some 93),.ia (.slice 1) (.tmp 91) (.tmp 92),(some (89,false))⟩,
      ⟨(some 94),.ldc (.tmp 93),(some (89,false))⟩,
      ⟨(some 95),.fa 1 (.tmp 9),(some (89,false))⟩,
      ⟨(some 96),.ldc (.tmp 95),(some (89,false))⟩,
      ⟨(some 97),.ia (.slice 1) (.tmp 94) (.tmp 96),(some (89,false))⟩,
      ⟨(some 98),.ldc (.tmp 97),(some (89,false))⟩,
      ⟨(some 99),.bin .lss .prim (.tmp 90) (.tmp 98),(some (89,false))⟩,
      ⟨(some 100),.pick (.tmp 89) (.const (.bool true)) (.tmp 99),none⟩])
    (.cond (.tmp 100) (.region true [⟨(some 101),.mv (.tmp 4),none⟩,
      ⟨(some 102),.mv (.tmp 5),none⟩,
      ⟨(some 103),.ia (.slice 1) (.tmp 101) (.tmp 102),none⟩,
      ⟨(some 104),.ldc (.tmp 103),none⟩,
      ⟨(some 105),.fa 1 (.tmp 9),none⟩,
      ⟨(some 106),.ldc (.tmp 105),none⟩,
      ⟨(some 107),.mv (.tmp 10),none⟩,
      ⟨(some 108),.ia (.slice 1) (.tmp 104) (.tmp 106),none⟩,
      ⟨none,.stt (.tmp 108) 107,none⟩])
     (.skip)))))))
  (.region false [⟨(some 53),.mv (.tmp 8),none⟩,
   ⟨(some 54),.bin .add .prim (.tmp 53) (.const (.int .i64 1)),none⟩,
   ⟨(some 8),.take 54,none⟩]))
def NC:YE:=.loop Hy
def Nw:YE :=
 .region false [⟨(some 46),.mv (.tmp 7),none⟩,
  ⟨(some 47),.bin .add .prim (.tmp 46) (.const (.int .i64 1)),none⟩,
  ⟨(some 7),.take 47,none⟩]
def Ju:YE :=
 .seq (.seq (.region false [⟨(some 43),.mv (.tmp 7),none⟩,
   ⟨(some 44),.mv (.tmp 3),none⟩,
   ⟨(some 45),.bin .lss .prim (.tmp 43) (.tmp 44),none⟩])
  (.cond (.tmp 45) (.skip)
  (.exit 4)))
 (.seq (.block 5 (.seq (.region false [⟨(some 8),.mv (.const (.int .i64 0)),none⟩])
   (.block 6 (NC))))
  Nw)
def N9:YE:=.loop Ju
def Oy:YE :=
 .seq (.region false [⟨(some 7),.mv (.const (.int .i64 0)),none⟩])
 (.block 4 (N9))
def Ny:YE :=
 .region false [⟨(some 22),.mv (.tmp 5),none⟩,
  ⟨(some 23),.bin .add .prim (.tmp 22) (.const (.int .i64 1)),none⟩,
  ⟨(some 5),.take 23,none⟩]
def Jt:YE :=
 .seq (.seq (.region false [⟨(some 19),.mv (.tmp 5),none⟩,
   ⟨(some 20),.mv (.tmp 3),none⟩,
   ⟨(some 21),.bin .lss .prim (.tmp 19) (.tmp 20),none⟩])
  (.cond (.tmp 21) (.skip)
  (.exit 0)))
 (.seq (.block 1 (.seq (.region false [⟨(some 24),.mv (.tmp 4),none⟩,
    ⟨(some 25),.mv (.tmp 5),none⟩,
    ⟨(some 26),.mv (.tmp 3),none⟩,
    ⟨(some 27),.mksl 3 [(.int .i64 0)] (.tmp 26),none⟩,
    ⟨(some 28),.ia (.slice 1) (.tmp 24) (.tmp 25),none⟩,
    ⟨none,.stt (.tmp 28) 27,none⟩])
   (.seq (.seq (.region false [⟨(some 6),.mv (.const (.int .i64 0)),none⟩])
    (.block 2 (N8)))
   Oy)))
  Ny)
def N7:YE:=.loop Jt
def Nz:YE :=
 .seq (.region false [⟨(some 109),.take 4,none⟩,
   ⟨(some 2),.take 109,none⟩])
 (.ret)
def SH:YE :=
 .seq (.region false [⟨(some 1),.box 25 3 (.tmp 0),none⟩,
   ⟨(some 2),.mv (.const (.own 1 [])),none⟩])
 (.seq (.seq (.region false [⟨(some 11),.lda 3 (.tmp 1),none⟩,
    ⟨(some 12),.call (.const (.fn 27 [] [])) [(.inr (.tmp 11))],none⟩,
    ⟨(some 13),.bin .neq .prim (.tmp 12) (.const (.int .i64 0)),none⟩])
  (.cond (.tmp 13) (.seq (.region false [⟨(some 2),.mv (.const (.own 1 [])),none⟩])
   (.ret))
   (.skip)))
  (.seq (.region false [⟨(some 14),.fa 1 (.tmp 1),none⟩,
    ⟨(some 15),.ldc (.tmp 14),none⟩,
    ⟨(some 16),.len .slice (.tmp 15),none⟩,
    ⟨(some 3),.take 16,none⟩])
  (.seq (.region false [⟨(some 17),.mv (.tmp 3),none⟩,
    ⟨(some 18),.mksl 26 [(.own 1 [])] (.tmp 17),none⟩,
    ⟨(some 4),.take 18,none⟩])
   (.seq (.seq (.region false [⟨(some 5),.mv (.const (.int .i64 0)),none⟩])
    (.block 0 (N7)))
   Nz))))
def ZU:AFn:=⟨110,[.tmp 2],SH,false⟩
theorem BA:Zdr=ZU:=by kernel_rfl
def Uz (G:GT)(K:KT)(L:Nat)(hp0:HP)(y4:AV)(hp:HP)(ef:Eff):KR :=
 some (Za8 false hp0 y4 hp ef)
theorem Zay (G:GT)(K:KT)(L:Nat)(hp0:HP)   : Y7 G 110 hp0.length K Z8 L Nz (JM Z8 ZU hp0) (JM Z8 ZU hp0) []=fun e hp ef=>Uz G K L hp0  (e 4).val hp ef:=by
 kernel_rfl
def VE (G:GT)(K:KT)(L:Nat)(hp0:HP)(kn:AV→AV→AV→AV→AV→HP→Eff→KR)(x1:AV)(x3:AV)(x4:AV)(y4:AV)(x5:AV)(hp:HP)(ef:Eff):KR :=
 Yc (ZC .add .prim x5 (.int .i64 1)) fun v13 =>
 kn x1 x3 x4 y4 v13 hp ef
theorem Zax (G:GT)(K:KT)(L:Nat)(hp0:HP)(kn:AV→AV→AV→AV→AV→HP→Eff→KR)(z0:Ut):Y7 G 110 hp0.length K Z8 L Ny (fun e hp ef=>kn (e 1).rd (e 3).rd (e 4).rd (e 4).val (e 5).rd hp ef) (JM Z8 ZU hp0) [(0,z0)]=fun e hp ef=>VE G K L hp0 kn (e 1).rd (e 3).rd (e 4).rd (e 4).val (e 5).rd hp ef:=by
 kernel_rfl
def Uy (G:GT)(K:KT)(L:Nat)(hp0:HP)(kn:AV→AV→AV→AV→AV→AV→HP→Eff→KR)(x1:AV)(x3:AV)(x4:AV)(y4:AV)(x5:AV)(x7:AV)(hp:HP)(ef:Eff):KR :=
 Yc (ZC .add .prim x7 (.int .i64 1)) fun v20 =>
 kn x1 x3 x4 y4 x5 v20 hp ef
theorem Zaw (G:GT)(K:KT)(L:Nat)(hp0:HP)(kn:AV→AV→AV→AV→AV→AV→HP→Eff→KR)(z4 z1 z0:Ut):Y7 G 110 hp0.length K Z8 L Nw (fun e hp ef=>kn (e 1).rd (e 3).rd (e 4).rd (e 4).val (e 5).rd (e 7).rd hp ef) (JM Z8 ZU hp0) [(4,z4),(1,z1),(0,z0)]=fun e hp ef=>Uy G K L hp0 kn (e 1).rd (e 3).rd (e 4).rd (e 4).val (e 5).rd (e 7).rd hp ef:=by
 kernel_rfl
def Qk (G:GT)(K:KT)(L:Nat)(hp0:HP)(k6:AV→AV→AV→AV→AV→AV→HP→Eff→KR):Nat→AV→AV→AV→AV→AV→AV→AV→HP→Eff→KR
 | 0,_,_,_,_,_,_,_,_,_=>none
 | m + 1,x1,x3,x4,y4,x5,x7,x8,hp,ef =>
  Yc (X0 2 x1) fun v21 =>
  Yc (ZV hp v21) fun v22 =>
  Yc (QU hp .slice v22) fun v23 =>
  Yc (ZC .lss .prim x8 v23) fun v24 =>
  ifK v24
  (Yc (X0 2 x1) fun v25 =>
  Yc (ZV hp v25) fun v26 =>
  Yc (Qn (.slice 3) v26 x8) fun v27 =>
  Yc (QR hp 3 v27) fun v28 =>
  Zvk (hp ++ [.cells [(.int .i64 0),(.int .i64 0),(.int .i64 0)] YL]) fun h29 =>
  Zad (stV hp0.length 3 (.ptr (hp).length 0) v28 h29 ef) fun h30 f31 =>
  Yc (Qn (.slice 1) x4 x5) fun v32 =>
  Yc (ZV h30 v32) fun v33 =>
  Yc (X0 0 (.ptr (hp).length 0)) fun v34 =>
  Yc (ZV h30 v34) fun v35 =>
  Yc (Qn (.slice 1) v33 v35) fun v36 =>
  Yc (ZV h30 v36) fun v37 =>
  Yc (ZC .lss .prim v37 (.int .i64 0)) fun v38 =>
  ifK v38
  (Yc (ZC .add .prim x8 (.int .i64 1)) fun v39 =>
  Qk G K L hp0 k6 m x1 x3 x4 y4 x5 x7 v39 h30 f31)
  (Yc (Qn (.slice 1) x4 x5) fun v40 =>
  Yc (ZV h30 v40) fun v41 =>
  Yc (X0 0 (.ptr (hp).length 0)) fun v42 =>
  Yc (ZV h30 v42) fun v43 =>
  Yc (Qn (.slice 1) v41 v43) fun v44 =>
  Yc (ZV h30 v44) fun v45 =>
  Yc (X0 2 (.ptr (hp).length 0)) fun v46 =>
  Yc (ZV h30 v46) fun v47 =>
  Gy (YU K Hg [v45,v47] h30) fun v48 h49 f50 =>
  Yc (Qn (.slice 1) x4 x5) fun v51 =>
  Yc (ZV h49 v51) fun v52 =>
  Yc (X0 1 (.ptr (hp).length 0)) fun v53 =>
  Yc (ZV h49 v53) fun v54 =>
  Yc (Qn (.slice 1) v52 v54) fun v55 =>
  Yc (ZV h49 v55) fun v56 =>
  Yc (ZC .lss .prim v56 (.int .i64 0)) fun v57 =>
  Zgy v57 false
  (Yc (Qn (.slice 1) x4 x5) fun v58 =>
  Yc (ZV h49 v58) fun v59 =>
  Yc (X0 1 (.ptr (hp).length 0)) fun v60 =>
  Yc (ZV h49 v60) fun v61 =>
  Yc (Qn (.slice 1) v59 v61) fun v62 =>
  Yc (ZV h49 v62) fun v63 =>
  Yc (ZC .lss .prim (AV.ro v48) v63) fun v64 =>
  some (v64,h49,(Vy hp0.length f31 f50)))
  (some (.bool true)) h49 (Vy hp0.length f31 f50) fun v65 h66 f67 =>
  ifK (AV.ro v65)
  (Yc (Qn (.slice 1) x4 x5) fun v68 =>
  Yc (ZV h66 v68) fun v69 =>
  Yc (X0 1 (.ptr (hp).length 0)) fun v70 =>
  Yc (ZV h66 v70) fun v71 =>
  Yc (Qn (.slice 1) v69 v71) fun v72 =>
  Zad (ZpP hp0.length v72 (AV.ro v48) h66 f67) fun h73 f74 =>
  Yc (ZC .add .prim x8 (.int .i64 1)) fun v75 =>
  Qk G K L hp0 k6 m x1 x3 x4 y4 x5 x7 v75 h73 f74)
  (Yc (ZC .add .prim x8 (.int .i64 1)) fun v76 =>
  Qk G K L hp0 k6 m x1 x3 x4 y4 x5 x7 v76 h66 f67)))
  (k6 x1 x3 x4 y4 x5 x7 hp ef)
theorem Za6 (G:GT)(K:KT)(L:Nat)(hp0:HP)(k6:AV→AV→AV→AV→AV→AV→HP→Eff→KR)(z5 z4 z1 z0:Ut):∀ m,Gn (fun n'=>Y7 G 110 hp0.length K Z8 L Hy n' (JM Z8 ZU hp0) [(6,(fun e hp ef=>k6 (e 1).rd (e 3).rd (e 4).rd (e 4).val (e 5).rd (e 7).rd hp ef)),(5,z5),(4,z4),(1,z1),(0,z0)]) m=fun e hp ef=>Qk G K L hp0 k6 m (e 1).rd (e 3).rd (e 4).rd (e 4).val (e 5).rd (e 7).rd (e 8).rd hp ef:=by
 intro m
 induction m with
 | zero=>rfl
 | succ m ih =>
  show Y7 G 110 hp0.length K Z8 L Hy (Gn _ m) (JM Z8 ZU hp0) [(6,(fun e hp ef=>k6 (e 1).rd (e 3).rd (e 4).rd (e 4).val (e 5).rd (e 7).rd hp ef)),(5,z5),(4,z4),(1,z1),(0,z0)]=_
  rw [ih]
  kernel_rfl
theorem Za5 (G:GT)(K:KT)(L:Nat)(hp0:HP)(k6:AV→AV→AV→AV→AV→AV→HP→Eff→KR)(z5 z4 z1 z0:Ut)(zn:Ut):Y7 G 110 hp0.length K Z8 L NC zn (JM Z8 ZU hp0) [(6,(fun e hp ef=>k6 (e 1).rd (e 3).rd (e 4).rd (e 4).val (e 5).rd (e 7).rd hp ef)),(5,z5),(4,z4),(1,z1),(0,z0)]=fun e hp ef=>Qk G K L hp0 k6 L (e 1).rd (e 3).rd (e 4).rd (e 4).val (e 5).rd (e 7).rd (e 8).rd hp ef:=Za6 G K L hp0 k6 z5 z4 z1 z0 L
def Qj (G:GT)(K:KT)(L:Nat)(hp0:HP)(k4:AV→AV→AV→AV→AV→HP→Eff→KR):Nat→AV→AV→AV→AV→AV→AV→HP→Eff→KR
 | 0,_,_,_,_,_,_,_,_=>none
 | m + 1,x1,x3,x4,y4,x5,x7,hp,ef =>
  Yc (ZC .lss .prim x7 x3) fun v19 =>
  ifK v19
  (Qk G K L hp0 (Uy G K L hp0 (Qj G K L hp0 k4 m)) L x1 x3 x4 y4 x5 x7 (.int .i64 0) hp ef)
  (k4 x1 x3 x4 y4 x5 hp ef)
theorem Za4 (G:GT)(K:KT)(L:Nat)(hp0:HP)(k4:AV→AV→AV→AV→AV→HP→Eff→KR)(z1 z0:Ut):∀ m,Gn (fun n'=>Y7 G 110 hp0.length K Z8 L Ju n' (JM Z8 ZU hp0) [(4,(fun e hp ef=>k4 (e 1).rd (e 3).rd (e 4).rd (e 4).val (e 5).rd hp ef)),(1,z1),(0,z0)]) m=fun e hp ef=>Qj G K L hp0 k4 m (e 1).rd (e 3).rd (e 4).rd (e 4).val (e 5).rd (e 7).rd hp ef:=by
 intro m
 induction m with
 | zero=>rfl
 | succ m ih =>
  show Y7 G 110 hp0.length K Z8 L Ju (Gn _ m) (JM Z8 ZU hp0) [(4,(fun e hp ef=>k4 (e 1).rd (e 3).rd (e 4).rd (e 4).val (e 5).rd hp ef)),(1,z1),(0,z0)]=_
  rw [ih]
  simp only [Ju,Xy,WS,WT,Qx]
  rw [Zaw G K L hp0 (Qj G K L hp0 k4 m) _ _ _,Za5 G K L hp0 (Uy G K L hp0 (Qj G K L hp0 k4 m)) _ _ _ _ _]
  kernel_rfl
theorem Za3 (G:GT)(K:KT)(L:Nat)(hp0:HP)(k4:AV→AV→AV→AV→AV→HP→Eff→KR)(z1 z0:Ut)(zn:Ut):Y7 G 110 hp0.length K Z8 L N9 zn (JM Z8 ZU hp0) [(4,(fun e hp ef=>k4 (e 1).rd (e 3).rd (e 4).rd (e 4).val (e 5).rd hp ef)),(1,z1),(0,z0)]=fun e hp ef=>Qj G K L hp0 k4 L (e 1).rd (e 3).rd (e 4).rd (e 4).val (e 5).rd (e 7).rd hp ef:=Za4 G K L hp0 k4 z1 z0 L
def Ux (G:GT)(K:KT)(L:Nat)(hp0:HP)(kn:AV→AV→AV→AV→AV→HP→Eff→KR)(x1:AV)(x3:AV)(x4:AV)(y4:AV)(x5:AV)(hp:HP)(ef:Eff):KR :=
 Qj G K L hp0 kn L x1 x3 x4 y4 x5 (.int .i64 0) hp ef
theorem Zav (G:GT)(K:KT)(L:Nat)(hp0:HP)(kn:AV→AV→AV→AV→AV→HP→Eff→KR)(z1 z0:Ut):Y7 G 110 hp0.length K Z8 L Oy (fun e hp ef=>kn (e 1).rd (e 3).rd (e 4).rd (e 4).val (e 5).rd hp ef) (JM Z8 ZU hp0) [(1,z1),(0,z0)]=fun e hp ef=>Ux G K L hp0 kn (e 1).rd (e 3).rd (e 4).rd (e 4).val (e 5).rd hp ef:=by
 simp only [Oy,Xy,WS,WT,Qx]
 rw [Za3 G K L hp0 kn _ _ _]
 kernel_rfl
def QL (G:GT)(K:KT)(L:Nat)(hp0:HP)(k2:AV→AV→AV→AV→AV→HP→Eff→KR):Nat→AV→AV→AV→AV→AV→AV→HP→Eff→KR
 | 0,_,_,_,_,_,_,_,_=>none
 | m + 1,x1,x3,x4,y4,x5,x6,hp,ef =>
  Yc (ZC .lss .prim x6 x3) fun v77 =>
  ifK v77
  (Yc (ZC .neq .prim x6 x5) fun v78 =>
  ifK v78
  (Yc (Qn (.slice 1) x4 x5) fun v79 =>
  Yc (ZV hp v79) fun v80 =>
  Yc (Qn (.slice 1) v80 x6) fun v81 =>
  Zad (stV hp0.length 1 v81 (.int .i64 (-1)) hp ef) fun h82 f83 =>
  Yc (ZC .add .prim x6 (.int .i64 1)) fun v84 =>
  QL G K L hp0 k2 m x1 x3 x4 y4 x5 v84 h82 f83)
  (Yc (ZC .add .prim x6 (.int .i64 1)) fun v85 =>
  QL G K L hp0 k2 m x1 x3 x4 y4 x5 v85 hp ef))
  (k2 x1 x3 x4 y4 x5 hp ef)
theorem Za2 (G:GT)(K:KT)(L:Nat)(hp0:HP)(k2:AV→AV→AV→AV→AV→HP→Eff→KR)(z1 z0:Ut):∀ m,Gn (fun n'=>Y7 G 110 hp0.length K Z8 L Hw n' (JM Z8 ZU hp0) [(2,(fun e hp ef=>k2 (e 1).rd (e 3).rd (e 4).rd (e 4).val (e 5).rd hp ef)),(1,z1),(0,z0)]) m=fun e hp ef=>QL G K L hp0 k2 m (e 1).rd (e 3).rd (e 4).rd (e 4).val (e 5).rd (e 6).rd hp ef:=by
 intro m
 induction m with
 | zero=>rfl
 | succ m ih =>
  show Y7 G 110 hp0.length K Z8 L Hw (Gn _ m) (JM Z8 ZU hp0) [(2,(fun e hp ef=>k2 (e 1).rd (e 3).rd (e 4).rd (e 4).val (e 5).rd hp ef)),(1,z1),(0,z0)]=_
  rw [ih]
  kernel_rfl
theorem Za1 (G:GT)(K:KT)(L:Nat)(hp0:HP)(k2:AV→AV→AV→AV→AV→HP→Eff→KR)(z1 z0:Ut)(zn:Ut):Y7 G 110 hp0.length K Z8 L N8 zn (JM Z8 ZU hp0) [(2,(fun e hp ef=>k2 (e 1).rd (e 3).rd (e 4).rd (e 4).val (e 5).rd hp ef)),(1,z1),(0,z0)]=fun e hp ef=>QL G K L hp0 k2 L (e 1).rd (e 3).rd (e 4).rd (e 4).val (e 5).rd (e 6).rd hp ef:=Za2 G K L hp0 k2 z1 z0 L
def W9 (G:GT)(K:KT)(L:Nat)(hp0:HP)(k0:AV→HP→Eff→KR):Nat→AV→AV→AV→AV→AV→HP→Eff→KR
 | 0,_,_,_,_,_,_,_=>none
 | m + 1,x1,x3,x4,y4,x5,hp,ef =>
  Yc (ZC .lss .prim x5 x3) fun v12 =>
  ifK v12
  (Zad (Fp WP [(.int .i64 0)] x3 hp) fun v14 h15 =>
  Yc (Qn (.slice 1) x4 x5) fun v16 =>
  Zad (ZpP hp0.length v16 v14 h15 ef) fun h17 f18 =>
  QL G K L hp0 (Ux G K L hp0 (VE G K L hp0 (W9 G K L hp0 k0 m))) L x1 x3 x4 y4 x5 (.int .i64 0) h17 f18)
  (k0 y4 hp ef)
theorem Za0 (G:GT)(K:KT)(L:Nat)(hp0:HP)(k0:AV→HP→Eff→KR)  : ∀ m,Gn (fun n'=>Y7 G 110 hp0.length K Z8 L Jt n' (JM Z8 ZU hp0) [(0,(fun e hp ef=>k0 (e 4).val hp ef))]) m=fun e hp ef=>W9 G K L hp0 k0 m (e 1).rd (e 3).rd (e 4).rd (e 4).val (e 5).rd hp ef:=by
 intro m
 induction m with
 | zero=>rfl
 | succ m ih =>
  show Y7 G 110 hp0.length K Z8 L Jt (Gn _ m) (JM Z8 ZU hp0) [(0,(fun e hp ef=>k0 (e 4).val hp ef))]=_
  rw [ih]
  simp only [Jt,Xy,WS,WT,Qx]
  rw [Zax G K L hp0 (W9 G K L hp0 k0 m) _,Zav G K L hp0 (VE G K L hp0 (W9 G K L hp0 k0 m)) _ _,Za1 G K L hp0 (Ux G K L hp0 (VE G K L hp0 (W9 G K L hp0 k0 m))) _ _ _]
  kernel_rfl
theorem Zaz (G:GT)(K:KT)(L:Nat)(hp0:HP)(k0:AV→HP→Eff→KR)(zn:Ut):Y7 G 110 hp0.length K Z8 L N7 zn (JM Z8 ZU hp0) [(0,(fun e hp ef=>k0 (e 4).val hp ef))]=fun e hp ef=>W9 G K L hp0 k0 L (e 1).rd (e 3).rd (e 4).rd (e 4).val (e 5).rd hp ef:=Za0 G K L hp0 k0  L
def Md (G:GT)(K:KT)(L:Nat)(x0:AV)(hp0:HP):KR :=
 Yc (Zqh 3 (AV.ro x0)) fun v1 =>
 Zvk (hp0 ++ [.cells v1 Zv]) fun h0 =>
 Yc (QR h0 3 (.ptr (hp0).length 0)) fun v2 =>
 Gy (K ZcK [v2] h0) fun v3 h4 f5 =>
 Yc (ZC .neq .prim (AV.ro v3) (.int .i64 0)) fun v6 =>
 ifK v6
 (some (Za8 false hp0 (.own 1 []) h4 (Vy hp0.length none f5)))
 (Yc (X0 1 (.ptr (hp0).length 0)) fun v7 =>
 Yc (ZV h4 v7) fun v8 =>
 Yc (QU h4 .slice v8) fun v9 =>
 Zad (Fp Ir [(.own 1 [])] v9 h4) fun v10 h11 =>
 W9 G K L hp0 (Uz G K L hp0) L (.ptr (hp0).length 0) v9 v10 v10 (.int .i64 0) h11 (Vy hp0.length none f5))
theorem Zfv (G:GT)(K:KT)(L:Nat)(x0:AV)(hp0:HP):fnK G K Z8 L ZU [x0] hp0=Md G K L x0 hp0:=by
 show Y7 G 110 hp0.length K Z8 L SH (JM Z8 ZU hp0) (JM Z8 ZU hp0) [] (ZsR [x0]) hp0 none=_
 simp only [SH,Xy,WS,WT,Qx]
 rw [Zay G K L hp0  ,Zaz G K L hp0 (Uz G K L hp0)  _]
 kernel_rfl
theorem FM {C:Cfg}(h:C.T Tu=some ZU){n:Nat}{x0:AV}{hp:HP}{r:AV×HP×Eff}(hr:Md C.G (Zr C n) C.L x0 hp=some r):Zr C (n + 1) Tu [x0] hp=some r:=Zb2 h (Nat.le_of_ble_eq_true rfl) ((Zfv ..).trans hr)
def Eo:List Nat:=[8,9]
def SG:YE :=
 .seq (.region false [⟨(some 4),.mv (.const (.int .i64 0)),none⟩])
 (.seq (.seq (.region false [⟨(some 5),.mv (.tmp 0),none⟩,
    ⟨(some 6),.bin .eql .prim (.tmp 5) (.const (.int .i64 (-1))),none⟩,
    ⟨(some 7),.mv (.tmp 6),none⟩,
    ⟨(some 8),.mv (.tmp 1),(some (7,false))⟩,
    ⟨(some 9),.bin .eql .prim (.tmp 8) (.const (.int .i64 (-1))),(some (7,false))⟩,
    ⟨(some 10),.pick (.tmp 7) (.const (.bool true)) (.tmp 9),none⟩])
  (.cond (.tmp 10) (.seq (.region false [⟨(some 11),.mv (.tmp 0),none⟩,
     ⟨(some 12),.mv (.tmp 1),none⟩,
     ⟨(some 13),.max [(.tmp 11),(.tmp 12)],none⟩,
     ⟨(some 4),.take 13,none⟩])
   (.ret))
   (.skip)))
  (.seq (.region false [⟨(some 14),.mv (.tmp 0),none⟩,
    ⟨(some 15),.mv (.tmp 1),none⟩,
    ⟨(some 16),.min [(.tmp 14),(.tmp 15)],none⟩,
    ⟨(some 4),.take 16,none⟩])
  (.ret)))
def V4:AFn:=⟨17,[.tmp 4],SG,false⟩
theorem TC:Ht=V4:=by kernel_rfl
def VQ (G:GT)(K:KT)(L:Nat)(x0 x1:AV)(hp0:HP):KR :=
 Yc (ZC .eql .prim (AV.ro x0) (.int .i64 (-1))) fun v0 =>
 Zgy v0 false
 (Yc (ZC .eql .prim (AV.ro x1) (.int .i64 (-1))) fun v1 =>
 some (v1,hp0,none))
 (some (.bool true)) hp0 none fun v2 h3 f4 =>
 ifK (AV.ro v2)
 (Yc (Zw5 [(AV.ro x0),(AV.ro x1)]) fun v5 =>
 some (Za8 false hp0 v5 h3 f4))
 (Yc (Zw6 [(AV.ro x0),(AV.ro x1)]) fun v6 =>
 some (Za8 false hp0 v6 h3 f4))
theorem RI (G:GT)(K:KT)(L:Nat)(x0 x1:AV)(hp0:HP):fnK G K Eo L V4 [x0,x1] hp0=VQ G K L x0 x1 hp0:=by
 kernel_rfl
theorem BK {C:Cfg}(h:C.T Ym=some V4){n:Nat}{x0 x1:AV}{hp:HP}{r:AV×HP×Eff}(hr:VQ C.G (Zr C n) C.L x0 x1 hp=some r):Zr C (n + 1) Ym [x0,x1] hp=some r:=Zb2 h (Nat.le_of_ble_eq_true rfl) ((RI ..).trans hr)
def ZrO:List Nat:=[]
def Zqt:YE :=
 .seq (.region false [⟨(some 4),.mv (.const (.int .i64 0)),none⟩])
 (.seq (.region false [⟨(some 5),.mv (.tmp 0),none⟩,
   ⟨(some 6),.call (.const (.fn 45 [] [])) [(.inr (.tmp 5))],none⟩,
   ⟨(some 7),.mv (.tmp 1),none⟩,
   ⟨(some 8),.call (.const (.fn 45 [] [])) [(.inr (.tmp 7))],none⟩,
   ⟨(some 9),.bin .add .prim (.tmp 6) (.tmp 8),none⟩,
   ⟨(some 10),.call (.const (.fn 45 [] [])) [(.inr (.tmp 9))],none⟩,
   ⟨(some 4),.take 10,none⟩])
  (.ret))
def Zan:AFn:=⟨11,[.tmp 4],Zqt,false⟩
theorem Zhi:ZiK=Zan:=by kernel_rfl
def Zd3 (G:GT)(K:KT)(L:Nat)(x0 x1:AV)(hp0:HP):KR :=
 Gy (K GU [(AV.ro x0)] hp0) fun v0 h1 f2 =>
 Gy (K GU [(AV.ro x1)] h1) fun v3 h4 f5 =>
 Yc (ZC .add .prim (AV.ro v0) (AV.ro v3)) fun v6 =>
 Gy (K GU [v6] h4) fun v7 h8 f9 =>
 some (Za8 false hp0 v7 h8 (Vy hp0.length (Vy hp0.length (Vy hp0.length none f2) f5) f9))
theorem Zjb (G:GT)(K:KT)(L:Nat)(x0 x1:AV)(hp0:HP):fnK G K ZrO L Zan [x0,x1] hp0=Zd3 G K L x0 x1 hp0:=by
 kernel_rfl
theorem Zlz {C:Cfg}(h:C.T Hf=some Zan){n:Nat}{x0 x1:AV}{hp:HP}{r:AV×HP×Eff}(hr:Zd3 C.G (Zr C n) C.L x0 x1 hp=some r):Zr C (n + 1) Hf [x0,x1] hp=some r:=Zb2 h (Nat.le_of_ble_eq_true rfl) ((Zjb ..).trans hr)
def Zpa:List Nat:=[]
def Zo1:YE :=
 .seq (.region false [⟨(some 2),.mv (.const (.int .i64 0)),none⟩])
 (.seq (.region false [⟨(some 3),.mv (.tmp 0),none⟩,
   ⟨(some 4),.min [(.tmp 3),(.const (.int .i64 1000000000000))],none⟩,
   ⟨(some 5),.max [(.const (.int .i64 (-1000000000000))),(.tmp 4)],none⟩,
   ⟨(some 2),.take 5,none⟩])
  (.ret))
def SA:AFn:=⟨6,[.tmp 2],Zo1,false⟩
theorem Zft:ZfS=SA:=by kernel_rfl
def Zat (G:GT)(K:KT)(L:Nat)(x0:AV)(hp0:HP):KR :=
 Yc (Zw6 [(AV.ro x0),(.int .i64 1000000000000)]) fun v0 =>
 Yc (Zw5 [(.int .i64 (-1000000000000)),v0]) fun v1 =>
 some (Za8 false hp0 v1 hp0 none)
theorem Zhp (G:GT)(K:KT)(L:Nat)(x0:AV)(hp0:HP):fnK G K Zpa L SA [x0] hp0=Zat G K L x0 hp0:=by
 kernel_rfl
theorem Zj8 {C:Cfg}(h:C.T GU=some SA){n:Nat}{x0:AV}{hp:HP}{r:AV×HP×Eff}(hr:Zat C.G (Zr C n) C.L x0 hp=some r):Zr C (n + 1) GU [x0] hp=some r:=Zb2 h (Nat.le_of_ble_eq_true rfl) ((Zhp ..).trans hr)
def ZrQ:List Nat:=[]
def Zqu:YE :=
 .seq (.region false [⟨(some 4),.mv (.const (.int .i64 0)),none⟩])
 (.seq (.region false [⟨(some 5),.mv (.tmp 0),none⟩,
   ⟨(some 6),.call (.const (.fn 46 [] [])) [(.inr (.tmp 5))],none⟩,
   ⟨(some 7),.mv (.tmp 1),none⟩,
   ⟨(some 8),.call (.const (.fn 46 [] [])) [(.inr (.tmp 7))],none⟩,
   ⟨(some 9),.bin .add .prim (.tmp 6) (.tmp 8),none⟩,
   ⟨(some 10),.call (.const (.fn 46 [] [])) [(.inr (.tmp 9))],none⟩,
   ⟨(some 4),.take 10,none⟩])
  (.ret))
def Zao:AFn:=⟨11,[.tmp 4],Zqu,false⟩
theorem Zhj:ZiL=Zao:=by kernel_rfl
def Zd4 (G:GT)(K:KT)(L:Nat)(x0 x1:AV)(hp0:HP):KR :=
 Gy (K GV [(AV.ro x0)] hp0) fun v0 h1 f2 =>
 Gy (K GV [(AV.ro x1)] h1) fun v3 h4 f5 =>
 Yc (ZC .add .prim (AV.ro v0) (AV.ro v3)) fun v6 =>
 Gy (K GV [v6] h4) fun v7 h8 f9 =>
 some (Za8 false hp0 v7 h8 (Vy hp0.length (Vy hp0.length (Vy hp0.length none f2) f5) f9))
theorem Zjc (G:GT)(K:KT)(L:Nat)(x0 x1:AV)(hp0:HP):fnK G K ZrQ L Zao [x0,x1] hp0=Zd4 G K L x0 x1 hp0:=by
 kernel_rfl
theorem Zmw {C:Cfg}(h:C.T Hg=some Zao){n:Nat}{x0 x1:AV}{hp:HP}{r:AV×HP×Eff}(hr:Zd4 C.G (Zr C n) C.L x0 x1 hp=some r):Zr C (n + 1) Hg [x0,x1] hp=some r:=Zb2 h (Nat.le_of_ble_eq_true rfl) ((Zjc ..).trans hr)
def Zpb:List Nat:=[]
def Zo2:YE :=
 .seq (.region false [⟨(some 2),.mv (.const (.int .i64 0)),none⟩])
 (.seq (.seq (.region false [⟨(some 3),.mv (.tmp 0),none⟩,
    ⟨(some 4),.bin .gtr .prim (.tmp 3) (.const (.int .i64 1000000000000)),none⟩])
  (.cond (.tmp 4) (.seq (.region false [⟨(some 2),.mv (.const (.int .i64 1000000000000)),none⟩])
   (.ret))
   (.skip)))
  (.seq (.seq (.region false [⟨(some 5),.mv (.tmp 0),none⟩,
    ⟨(some 6),.bin .lss .prim (.tmp 5) (.const (.int .i64 (-1000000000000))),none⟩])
   (.cond (.tmp 6) (.seq (.region false [⟨(some 2),.mv (.const (.int .i64 (-1000000000000))),none⟩])
    (.ret))
   (.skip)))
  (.seq (.region false [⟨(some 7),.take 0,none⟩,
    ⟨(some 2),.take 7,none⟩])
   (.ret))))
def SB:AFn:=⟨8,[.tmp 2],Zo2,false⟩
theorem Zfu:ZfT=SB:=by kernel_rfl
def Zau (G:GT)(K:KT)(L:Nat)(x0:AV)(hp0:HP):KR :=
 Yc (ZC .gtr .prim (AV.ro x0) (.int .i64 1000000000000)) fun v0 =>
 ifK v0
 (some (Za8 false hp0 (.int .i64 1000000000000) hp0 none))
 (Yc (ZC .lss .prim (AV.ro x0) (.int .i64 (-1000000000000))) fun v1 =>
 ifK v1
 (some (Za8 false hp0 (.int .i64 (-1000000000000)) hp0 none))
 (some (Za8 false hp0 x0 hp0 none)))
theorem Zhq (G:GT)(K:KT)(L:Nat)(x0:AV)(hp0:HP):fnK G K Zpb L SB [x0] hp0=Zau G K L x0 hp0:=by
 kernel_rfl
theorem Zkk {C:Cfg}(h:C.T GV=some SB){n:Nat}{x0:AV}{hp:HP}{r:AV×HP×Eff}(hr:Zau C.G (Zr C n) C.L x0 hp=some r):Zr C (n + 1) GV [x0] hp=some r:=Zb2 h (Nat.le_of_ble_eq_true rfl) ((Zhq ..).trans hr)
end Go.Proofs.YtgjcjbhhhlelnaaGreatDoor
end
section
namespace Go.Proofs.YtgjcjbhhhlelnaaGreatDoor
open Go Go.Proofs.YtgjcjbhhhlelnaaGreatDoor.Abs Go.Proofs.YtgjcjbhhhlelnaaGreatDoor.Tl Go.Proofs.YtgjcjbhhhlelnaaGreatDoor.Gr
set_option maxRecDepth 100000
def UI (n:Int):Int:=max (-1000000000000) (min n 1000000000000)
def Zbw (a b:Int):Int:=UI (UI a + UI b)
def tri (a:ZiD):Nat×Nat×Int:=(a.From.toNat,a.To.toNat,a.Delay)
def Zju (n:Nat):Nat→Nat→List (List Int)→List (List Int)
 | 0,_,l=>l
 | q + 1,i,l=>Zju n q (i + 1) (l ++ [(List.replicate n (-1)).set i 0])
theorem Zlq (g len:Nat)(i:Nat)(h1:i < len):Qn (.slice 1) (.arr g 0 len 1) (.int .i64 i)=some (.ptr g i):=by
 rw [ZyI g 0 len 1 i (by omega) (by omega),Int.toNat_natCast,Nat.zero_add,Nat.mul_one]
theorem ZaG {i n:Nat}(h:i < n):decide ((i:Int) < (n:Int))=true:=by simp; omega
theorem ZhE (n:Nat):decide ((n:Int) < (n:Int))=false:=by simp
theorem ZmT (l:List (List Int))(r:List Int)(k:Nat)(v:Int):ZiB (l ++ [r]) l.length k v=l ++ [r.set k v]:=by
 have e:(l ++ [r]).getD l.length []=r:=by rw [List.getD_eq_getElem?_getD,List.getElem?_append_right (Nat.le_refl _),Nat.sub_self]; rfl
 rw [ZiB,e,List.set_append_right _ _ (Nat.le_refl _),Nat.sub_self]; rfl
section
variable {bs:Nat}{t0:TypeId}{gp:Nat}{po:Zn}{g n:Nat}{G:GT}{K:KT}{L:Nat}{hp0:HP}(hbs:bs=hp0.length)(hn1:1≤n)(hn:n≤16)(hL:64≤L)
include hbs hn
theorem la0 (hrep:∀ hp:HP,K ZI [.lst 1 [[.int .i64 (-1)]],.int .i64 n] hp=some (.arr hp.length 0 n 1,hp ++ [.cells (YO (List.replicate n (-1))) WP],none))(k0:AV→AV→AV→AV→HP→Eff→KR)(R:KR)(p:AV) :
  ∀ (m q i:Nat) (gs:List Nat) (l:List (List Int)) (hp:HP),i + q=n→q < m→gs.length=i→bs≤hp.length→Mat bs t0 WP gp po g gs n l hp →
  (∀ gs' hp',gs'.length=n→bs≤hp'.length→Mat bs t0 WP gp po g gs' n (Zju n q i l) hp'→k0 p (.int .i64 n) (.arr g 0 n 1) (.arr g 0 n 1) hp' none=R) →
  We G K L hp0 k0 m p (.int .i64 n) (.arr g 0 n 1) (.arr g 0 n 1) (.int .i64 n) (.int .i64 i) hp none=R
 | 0,_,_,_,_,_,_,h,_,_,_,_=>absurd h (Nat.not_lt_zero _)
 | m + 1,q,i,gs,l,hp,hq,hm,hi,hlen,mt,hk=>by
  rw [We]
  cases q with
  | zero =>
   obtain rfl:i=n:=by omega
   simp only [EV,ZhE,Bool.false_eq_true,if_false]
   exact hk gs hp hi hlen mt
  | succ q =>
   have hlt:i < n:=by omega
   have e1:=hrep hp
   have e2:=Zlq g n i hlt
   obtain ⟨hp1,s1,s2,s3⟩:=mt.more (by omega) hlen (r := List.replicate n (-1)) (by simp) none
   obtain ⟨x,x1,x2,x3,x4⟩:=s2.at (i := i) (by rw [List.length_append,hi]; exact Nat.lt_succ_self i)
   rw [hi] at s1
   have e3:=Zlq x n i hlt
   have s4:=s2.st hlt x1 0 none
   have s5:=s2.put hlt x1 0
   have e9:ZiB (l ++ [List.replicate n (-1)]) i i 0=l ++ [(List.replicate n (-1)).set i 0]:=by
    have:=ZmT l (List.replicate n (-1)) i 0
    rwa [mt.len,hi] at this
   rw [e9] at s5
   have ew:IntKind.i64.wrap ((i:Int) + 1)=((i + 1:Nat):Int):=U6 i (by omega)
   have ih:=la0 hrep k0 R p m q (i + 1) (gs ++ [hp.length]) (l ++ [(List.replicate n (-1)).set i 0]) _ (by omega) (by omega) (by simp [hi]) (by rw [List.length_set,s3]; omega) s5 hk
   subst hbs
   simp only [EV,LIT,ZaG hlt,if_true,e1,e2,e3,s1,x2,s4,ew,ih]
include hL
theorem la6 (hadd:∀ (a b:Int) (hp:HP),K Hf [.int .i64 a,.int .i64 b] hp=some (.int .i64 (Zbw a b),hp,none))(hsh:∀ (a b:Int) (hp:HP),K Ym [.int .i64 a,.int .i64 b] hp=some (.int .i64 (WA a b),hp,none))(k8:AV→AV→AV→AV→AV→AV→AV→AV→HP→Eff→KR)(R:KR)(t i:Nat)(ht:t < n)(hi:i < n) :
  ∀ (m q k:Nat) (gs:List Nat) (l:List (List Int)) (hp:HP),k + q=n→q < m→gs.length=n→Mat bs t0 WP gp po g gs n l hp →
  (∀ gs' hp',gs'.length=n→Mat bs t0 WP gp po g gs' n (fwK Zbw t i q k l) hp'→k8 (.int .i64 n) (.arr g 0 n 1) (.arr g 0 n 1) (.int .i64 t) (.int .i64 n) (.int .i64 t) (.int .i64 n) (.int .i64 i) hp' none=R) →
  YA G K L hp0 k8 m (.int .i64 n) (.arr g 0 n 1) (.arr g 0 n 1) (.int .i64 t) (.int .i64 i) (.int .i64 n) (.int .i64 t) (.int .i64 n) (.int .i64 i) (.int .i64 n) (.int .i64 k) hp none=R
 | 0,_,_,_,_,_,_,h,_,_,_=>absurd h (Nat.not_lt_zero _)
 | m + 1,q,k,gs,l,hp,hq,hm,hgs,mt,hk=>by
  rw [YA]
  cases q with
  | zero =>
   obtain rfl:k=n:=by omega
   simp only [EV,ZhE,Bool.false_eq_true,if_false]
   exact hk gs hp hgs mt
  | succ q =>
   have hlt:k < n:=by omega
   have e1:=Zlq g n i hi
   have e2:=Zlq g n t ht
   obtain ⟨x,x1,x2,x3,x4⟩:=mt.at (i := i) (by omega)
   obtain ⟨y,y1,y2,y3,y4⟩:=mt.at (i := t) (by omega)
   have e3:=Zlq x n t ht
   have e4:=Zlq x n k hlt
   have e5:=Zlq y n k hlt
   have g1:=mt.get (by omega) ht x1
   have g2:=mt.get (by omega) hlt x1
   have g3:=mt.get (by omega) hlt y1
   have s4:=mt.stt hlt x1 (WA (getM l i k) (Zbw (getM l i t) (getM l t k))) none
   have s5:=mt.put hlt x1 (WA (getM l i k) (Zbw (getM l i t) (getM l t k)))
   have ew:IntKind.i64.wrap ((k:Int) + 1)=((k + 1:Nat):Int):=U6 k (by omega)
   rw [fwK,ZpI] at hk
   by_cases c:(decide (getM l i t≠-1) && decide (getM l t k≠-1))=true
   ·rw [if_pos c] at hk
    have ih:=la6 hadd hsh k8 R t i ht hi m q (k + 1) gs _ _ (by omega) (by omega) hgs s5 hk
    subst hbs
    simp only [EV,QC,ZaG hlt,if_true,e1,e2,e3,e4,e5,x2,y2,g1,g2,g3,c,hadd,hsh,s4,ew,ih]
   ·rw [if_neg c] at hk
    have ih:=la6 hadd hsh k8 R t i ht hi m q (k + 1) gs _ _ (by omega) (by omega) hgs mt hk
    subst hbs
    simp only [EV,QC,ZaG hlt,if_true,e1,e2,e3,e4,e5,x2,y2,g1,g2,g3,c,ew,ih,if_false,Bool.false_eq_true]
theorem la5 (hadd:∀ (a b:Int) (hp:HP),K Hf [.int .i64 a,.int .i64 b] hp=some (.int .i64 (Zbw a b),hp,none))(hsh:∀ (a b:Int) (hp:HP),K Ym [.int .i64 a,.int .i64 b] hp=some (.int .i64 (WA a b),hp,none))(k6:AV→AV→AV→AV→AV→HP→Eff→KR)(R:KR)(t:Nat)(ht:t < n) :
  ∀ (m q i:Nat) (gs:List Nat) (l:List (List Int)) (hp:HP),i + q=n→q < m→gs.length=n→Mat bs t0 WP gp po g gs n l hp →
  (∀ gs' hp',gs'.length=n→Mat bs t0 WP gp po g gs' n (fwI Zbw n t q i l) hp'→k6 (.int .i64 n) (.arr g 0 n 1) (.arr g 0 n 1) (.int .i64 n) (.int .i64 t) hp' none=R) →
  Yr G K L hp0 k6 m (.int .i64 n) (.arr g 0 n 1) (.arr g 0 n 1) (.int .i64 t) (.int .i64 n) (.int .i64 t) (.int .i64 n) (.int .i64 i) hp none=R
 | 0,_,_,_,_,_,_,h,_,_,_=>absurd h (Nat.not_lt_zero _)
 | m + 1,q,i,gs,l,hp,hq,hm,hgs,mt,hk=>by
  rw [Yr]
  cases q with
  | zero =>
   obtain rfl:i=n:=by omega
   simp only [EV,ZhE,Bool.false_eq_true,if_false]
   exact hk gs hp hgs mt
  | succ q =>
   have hlt:i < n:=by omega
   have ew:IntKind.i64.wrap ((i:Int) + 1)=((i + 1:Nat):Int):=U6 i (by omega)
   simp only [EV,ZaG hlt,if_true]
   rw [fwI] at hk
   refine la6 hbs hn hL hadd hsh _ R t i ht hlt L n 0 gs l hp (by omega) (by omega) hgs mt fun gs' hp' h1 h2=>?_
   simp only [QZ,EV,ew]
   exact la5 hadd hsh k6 R t ht m q (i + 1) gs' _ hp' (by omega) (by omega) h1 h2 hk
theorem la4 (hadd:∀ (a b:Int) (hp:HP),K Hf [.int .i64 a,.int .i64 b] hp=some (.int .i64 (Zbw a b),hp,none))(hsh:∀ (a b:Int) (hp:HP),K Ym [.int .i64 a,.int .i64 b] hp=some (.int .i64 (WA a b),hp,none))(k4:AV→HP→Eff→KR)(R:KR) :
  ∀ (m q t:Nat) (gs:List Nat) (l:List (List Int)) (hp:HP),t + q=n→q < m→gs.length=n→Mat bs t0 WP gp po g gs n l hp →
  (∀ gs' hp',gs'.length=n→Mat bs t0 WP gp po g gs' n (fwV Zbw n q t l) hp'→k4 (.arr g 0 n 1) hp' none=R) →
  Yq G K L hp0 k4 m (.int .i64 n) (.arr g 0 n 1) (.arr g 0 n 1) (.int .i64 n) (.int .i64 t) hp none=R
 | 0,_,_,_,_,_,_,h,_,_,_=>absurd h (Nat.not_lt_zero _)
 | m + 1,q,t,gs,l,hp,hq,hm,hgs,mt,hk=>by
  rw [Yq]
  cases q with
  | zero =>
   obtain rfl:t=n:=by omega
   simp only [EV,ZhE,Bool.false_eq_true,if_false]
   exact hk gs hp hgs mt
  | succ q =>
   have hlt:t < n:=by omega
   have ew:IntKind.i64.wrap ((t:Int) + 1)=((t + 1:Nat):Int):=U6 t (by omega)
   simp only [EV,ZaG hlt,if_true]
   rw [fwV] at hk
   refine la5 hbs hn hL hadd hsh _ R t hlt L n 0 gs l hp (by omega) (by omega) hgs mt fun gs' hp' h1 h2=>?_
   simp only [Xa,EV,ew]
   exact la4 hadd hsh k4 R m q (t + 1) gs' _ hp' (by omega) (by omega) h1 h2 hk
omit hL hn in
theorem la2 (hsh:∀ (a b:Int) (hp:HP),K Ym [.int .i64 a,.int .i64 b] hp=some (.int .i64 (WA a b),hp,none))(k2:AV→AV→AV→HP→Eff→KR)(R:KR)(arcs:List ZiD)(hv:∀ a ∈ arcs,0≤a.From∧a.From < (n:Int)∧0≤a.To∧a.To < (n:Int))(ha:arcs.length < 4611686018427387904) :
  ∀ (m q i:Nat) (gs:List Nat) (l:List (List Int)) (hp:HP),i + q=arcs.length→q < m→gs.length=n→bs≤hp.length→Mat bs t0 WP gp po g gs n l hp →
  (∀ gs' hp',gs'.length=n→Mat bs t0 WP gp po g gs' n (ZgZ ((arcs.drop i).map tri) l) hp'→k2 (.int .i64 n) (.arr g 0 n 1) (.arr g 0 n 1) hp' none=R) →
  Wh G K L hp0 k2 m (.int .i64 n) (.arr g 0 n 1) (.arr g 0 n 1) (.lst 3 (arcs.map Pq)) (.int .i64 arcs.length) (.int .i64 i) hp none=R
 | 0,_,_,_,_,_,_,h,_,_,_,_=>absurd h (Nat.not_lt_zero _)
 | m + 1,q,i,gs,l,hp,hq,hm,hgs,hlen,mt,hk=>by
  rw [Wh]
  cases q with
  | zero =>
   obtain rfl:i=arcs.length:=by omega
   rw [List.drop_length] at hk
   simp only [EV,ZhE,Bool.false_eq_true,if_false]
   exact hk gs hp hgs mt
  | succ q =>
   have hlt:i < arcs.length:=by omega
   rw [List.drop_eq_getElem_cons hlt,List.map_cons] at hk
   have hx:arcs[i]? = some arcs[i]:=List.getElem?_eq_getElem hlt
   generalize arcs[i]=a at hx hk
   obtain ⟨b1,b2,b3,b4⟩:=hv a (List.mem_of_getElem? hx)
   obtain ⟨F,hF⟩:∃ F:Nat,a.From=F:=⟨a.From.toNat,by omega⟩
   obtain ⟨T,hT⟩:∃ T:Nat,a.To=T:=⟨a.To.toNat,by omega⟩
   have hFn:F < n:=by omega
   have hTn:T < n:=by omega
   have e0:Qn (.slice 3) (.lst 3 (arcs.map Pq)) (.int .i64 i)=some (.ref (Pq a)):=by simp [Qn,hx]
   have e1:QR hp 3 (.ref (Pq a))=some (.agg (Pq a)):=rfl
   have e2:stV bs 3 (.ptr hp.length 0) (.agg (Pq a)) (hp ++ [.cells [.int .i64 0,.int .i64 0,.int .i64 0] YL]) none=some (hp ++ [.cells (Pq a) YL],none):=st_all bs 3 hp _ (Pq a) YL none rfl rfl hlen
   have f0:ZV (hp ++ [.cells (Pq a) YL]) (.ptr hp.length 0)=some (.int .i64 F):=by rw [Pi,← hF]; rfl
   have f1:ZV (hp ++ [.cells (Pq a) YL]) (.ptr hp.length 1)=some (.int .i64 T):=by rw [Pi,← hT]; rfl
   have f2:ZV (hp ++ [.cells (Pq a) YL]) (.ptr hp.length 2)=some (.int .i64 a.Delay):=by rw [Pi]; rfl
   have p0:X0 0 (.ptr hp.length 0)=some (.ptr hp.length 0):=rfl
   have p1:X0 1 (.ptr hp.length 0)=some (.ptr hp.length 1):=rfl
   have p2:X0 2 (.ptr hp.length 0)=some (.ptr hp.length 2):=rfl
   have mt2:=mt.push (.cells (Pq a) YL)
   obtain ⟨x,x1,x2,x3,x4⟩:=mt2.at (i := F) (by omega)
   have e3:=Zlq g n F hFn
   have e4:=Zlq x n T hTn
   have g1:=mt2.get (by omega) hTn x1
   have s4:=mt2.stt hTn x1 (WA (getM l F T) a.Delay) none
   have s5:=mt2.put hTn x1 (WA (getM l F T) a.Delay)
   have ew:IntKind.i64.wrap ((i:Int) + 1)=((i + 1:Nat):Int):=U6 i (by omega)
   have htri:tri a=(F,T,a.Delay):=by rw [tri,hF,hT]; rfl
   rw [htri,ZgZ] at hk
   have ih:=la2 hsh k2 R arcs hv ha m q (i + 1) gs _ _ (by omega) (by omega) hgs (by rw [List.length_set,List.length_append]; omega) s5 hk
   subst hbs
   simp only [EV,QC,ZaG hlt,if_true,e0,e1,e2,e3,e4,f0,f1,f2,p0,p1,p2,x2,g1,hsh,s4,ew,ih]
end
end Go.Proofs.YtgjcjbhhhlelnaaGreatDoor
end
section
namespace Go.Proofs.YtgjcjbhhhlelnaaGreatDoor
open Go Go.Proofs.YtgjcjbhhhlelnaaGreatDoor.Abs Go.Proofs.YtgjcjbhhhlelnaaGreatDoor.Tl Go.Proofs.YtgjcjbhhhlelnaaGreatDoor.Gr
set_option maxRecDepth 100000
def Zcj (i:Nat):Nat→Nat→List Int→List Int
 | 0,_,r=>r
 | q + 1,k,r=>Zcj i q (k + 1) (if decide ((k:Int)≠(i:Int))=true then r.set k (-1) else r)
def ZkZ (n:Nat)(arcs:List (Nat×Nat×Int)):Nat→Nat→List (List Int)→List (List Int)
 | 0,_,l=>l
 | q + 1,i,l=>ZkZ n arcs q (i + 1) (l ++ [O8 Zbw arcs n (Zcj i n 0 (List.replicate n 0))])
theorem Zjv (i:Nat):∀ (q k:Nat) (r:List Int),(Zcj i q k r).length=r.length
 | 0,_,_=>rfl
 | q + 1,k,r=>by rw [Zcj,Zjv]; split <;> simp
theorem Zwo (l:List (List Int))(r:List Int)(k:Nat):getM (l ++ [r]) l.length k=r.getD k 0:=by
 have e:(l ++ [r]).getD l.length []=r:=by rw [List.getD_eq_getElem?_getD,List.getElem?_append_right (Nat.le_refl _),Nat.sub_self]; rfl
 rw [Gr.getM,e]
section
variable {bs:Nat}{t0:TypeId}{gp:Nat}{cs:List AV}{p:Zl}{g n:Nat}{G:GT}{K:KT}{L:Nat}{hp0:HP}(hbs:bs=hp0.length)(hn:n≤16)(hL:64≤L)(hc:cs.map AV.ro=Qw p)
include hbs hn hc
theorem rl4 (hadd:∀ (a b:Int) (hp:HP),K Hg [.int .i64 a,.int .i64 b] hp=some (.int .i64 (Zbw a b),hp,none))(k6:AV→AV→AV→AV→AV→AV→HP→Eff→KR)(R:KR)(hv:∀ a ∈ p.Links,0≤a.From∧a.From < (n:Int)∧0≤a.To∧a.To < (n:Int))(ha:p.Links.length < 4611686018427387904)(x7:AV)(l:List (List Int))(i:Nat)(hli:l.length=i)(hin:i < n) :
  ∀ (m q j:Nat) (gs:List Nat) (r:List Int) (hp:HP),j + q=p.Links.length→q < m→gs.length=i + 1→bs≤hp.length→Mat bs t0 WP gp (.cells cs Zv) g gs n (l ++ [r]) hp →
  (∀ gs' hp',gs'.length=i + 1→bs≤hp'.length→Mat bs t0 WP gp (.cells cs Zv) g gs' n (l ++ [ZlH Zbw ((p.Links.drop j).map tri) r]) hp'→k6 (.ptr gp 0) (.int .i64 n) (.arr g 0 n 1) (.arr g 0 n 1) (.int .i64 i) x7 hp' none=R) →
  Qk G K L hp0 k6 m (.ptr gp 0) (.int .i64 n) (.arr g 0 n 1) (.arr g 0 n 1) (.int .i64 i) x7 (.int .i64 j) hp none=R
 | 0,_,_,_,_,_,_,h,_,_,_,_=>absurd h (Nat.not_lt_zero _)
 | m + 1,q,j,gs,r,hp,hq,hm,hgs,hlen,mt,hk=>by
  have q0:X0 2 (.ptr gp 0)=some (.ptr gp 2):=rfl
  have q1:=cells_at mt.prg hc 2 rfl
  have q2:QU hp .slice (.lst 3 (p.Links.map Pq))=some (.int .i64 (p.Links.length:Nat)):=by
   show some (AV.int .i64 ((p.Links.map Pq).length:Nat))=_; rw [List.length_map]
  rw [Qk]
  cases q with
  | zero =>
   obtain rfl:j=p.Links.length:=by omega
   rw [List.drop_length] at hk
   simp only [q0,q1,q2,EV,ZhE,Bool.false_eq_true,if_false]
   exact hk gs hp hgs hlen mt
  | succ q =>
   have hlt:j < p.Links.length:=by omega
   rw [List.drop_eq_getElem_cons hlt,List.map_cons] at hk
   have hx:p.Links[j]? = some p.Links[j]:=List.getElem?_eq_getElem hlt
   generalize p.Links[j]=a at hx hk
   obtain ⟨b1,b2,b3,b4⟩:=hv a (List.mem_of_getElem? hx)
   obtain ⟨F,hF⟩:∃ F:Nat,a.From=F:=⟨a.From.toNat,by omega⟩
   obtain ⟨T,hT⟩:∃ T:Nat,a.To=T:=⟨a.To.toNat,by omega⟩
   have hFn:F < n:=by omega
   have hTn:T < n:=by omega
   have e0:Qn (.slice 3) (.lst 3 (p.Links.map Pq)) (.int .i64 j)=some (.ref (Pq a)):=by simp [Qn,hx]
   have e1:QR hp 3 (.ref (Pq a))=some (.agg (Pq a)):=rfl
   have e2:stV bs 3 (.ptr hp.length 0) (.agg (Pq a)) (hp ++ [.cells [.int .i64 0,.int .i64 0,.int .i64 0] YL]) none=some (hp ++ [.cells (Pq a) YL],none):=st_all bs 3 hp _ (Pq a) YL none rfl rfl hlen
   have f0:ZV (hp ++ [.cells (Pq a) YL]) (.ptr hp.length 0)=some (.int .i64 F):=by rw [Pi,← hF]; rfl
   have f1:ZV (hp ++ [.cells (Pq a) YL]) (.ptr hp.length 1)=some (.int .i64 T):=by rw [Pi,← hT]; rfl
   have f2:ZV (hp ++ [.cells (Pq a) YL]) (.ptr hp.length 2)=some (.int .i64 a.Delay):=by rw [Pi]; rfl
   have p0:X0 0 (.ptr hp.length 0)=some (.ptr hp.length 0):=rfl
   have p1:X0 1 (.ptr hp.length 0)=some (.ptr hp.length 1):=rfl
   have p2:X0 2 (.ptr hp.length 0)=some (.ptr hp.length 2):=rfl
   have mt2:=mt.push (.cells (Pq a) YL)
   obtain ⟨x,x1,x2,x3,x4⟩:=mt2.at (i := i) (by omega)
   have e3:=Zlq g n i hin
   have e4:=Zlq x n T hTn
   have e5:=Zlq x n F hFn
   have g1:=mt2.get (by omega) hTn x1
   have g2:=mt2.get (by omega) hFn x1
   have hgm:∀ k,getM (l ++ [r]) i k=r.getD k 0:=fun k=>by have:=Zwo l r k; rwa [hli] at this
   rw [hgm] at g1 g2
   have hsm:∀ k v,ZiB (l ++ [r]) i k v=l ++ [r.set k v]:=fun k v=>by have:=ZmT l r k v; rwa [hli] at this
   have s4:=mt2.stt hTn x1 (Zbw (r.getD F 0) a.Delay) none
   have s5:=mt2.put hTn x1 (Zbw (r.getD F 0) a.Delay)
   rw [hsm] at s5
   have ew:IntKind.i64.wrap ((j:Int) + 1)=((j + 1:Nat):Int):=U6 j (by omega)
   have htri:tri a=(F,T,a.Delay):=by rw [tri,hF,hT]; rfl
   rw [htri,ZlH] at hk
   have hlen2:bs≤(hp ++ [Zn.cells (Pq a) YL]).length:=by rw [List.length_append]; omega
   by_cases c1:r.getD F 0 < 0
   ·rw [Zer,if_pos c1] at hk
    have ih:=rl4 hadd k6 R hv ha x7 l i hli hin m q (j + 1) gs _ _ (by omega) (by omega) hgs hlen2 mt2 hk
    have c1':decide (r.getD F 0 < 0)=true:=decide_eq_true c1
    subst hbs
    simp only [EV,QC,q0,q1,q2,ZaG hlt,if_true,e0,e1,e2,e3,e4,e5,f0,f1,f2,p0,p1,p2,x2,g1,g2,c1',ew,ih]
   ·have c1':decide (r.getD F 0 < 0)=false:=decide_eq_false c1
    rw [Zer,if_neg c1] at hk
    by_cases c2:(decide (r.getD T 0 < 0) || decide (Zbw (r.getD F 0) a.Delay < r.getD T 0))=true
    ·rw [if_pos c2] at hk
     have ih:=rl4 hadd k6 R hv ha x7 l i hli hin m q (j + 1) gs _ _ (by omega) (by omega) hgs (by rw [List.length_set]; exact hlen2) s5 hk
     subst hbs
     simp only [EV,QC,q0,q1,q2,ZaG hlt,if_true,e0,e1,e2,e3,e4,e5,f0,f1,f2,p0,p1,p2,x2,g1,g2,c1',c2,hadd,s4,ew,ih,Bool.false_eq_true,if_false]
    ·rw [if_neg c2] at hk
     have ih:=rl4 hadd k6 R hv ha x7 l i hli hin m q (j + 1) gs _ _ (by omega) (by omega) hgs hlen2 mt2 hk
     rw [Bool.not_eq_true] at c2
     subst hbs
     simp only [EV,QC,q0,q1,q2,ZaG hlt,if_true,e0,e1,e2,e3,e4,e5,f0,f1,f2,p0,p1,p2,x2,g1,g2,c1',c2,hadd,ew,ih,Bool.false_eq_true,if_false]
include hL
theorem rl3 (hadd:∀ (a b:Int) (hp:HP),K Hg [.int .i64 a,.int .i64 b] hp=some (.int .i64 (Zbw a b),hp,none))(k4:AV→AV→AV→AV→AV→HP→Eff→KR)(R:KR)(hv:∀ a ∈ p.Links,0≤a.From∧a.From < (n:Int)∧0≤a.To∧a.To < (n:Int))(ha:p.Links.length < 64)(l:List (List Int))(i:Nat)(hli:l.length=i)(hin:i < n) :
  ∀ (m q j:Nat) (gs:List Nat) (r:List Int) (hp:HP),j + q=n→q < m→gs.length=i + 1→bs≤hp.length→Mat bs t0 WP gp (.cells cs Zv) g gs n (l ++ [r]) hp →
  (∀ gs' hp',gs'.length=i + 1→bs≤hp'.length→Mat bs t0 WP gp (.cells cs Zv) g gs' n (l ++ [O8 Zbw (p.Links.map tri) q r]) hp'→k4 (.ptr gp 0) (.int .i64 n) (.arr g 0 n 1) (.arr g 0 n 1) (.int .i64 i) hp' none=R) →
  Qj G K L hp0 k4 m (.ptr gp 0) (.int .i64 n) (.arr g 0 n 1) (.arr g 0 n 1) (.int .i64 i) (.int .i64 j) hp none=R
 | 0,_,_,_,_,_,_,h,_,_,_,_=>absurd h (Nat.not_lt_zero _)
 | m + 1,q,j,gs,r,hp,hq,hm,hgs,hlen,mt,hk=>by
  rw [Qj]
  cases q with
  | zero =>
   obtain rfl:j=n:=by omega
   simp only [EV,ZhE,Bool.false_eq_true,if_false]
   exact hk gs hp hgs hlen mt
  | succ q =>
   have hlt:j < n:=by omega
   have ew:IntKind.i64.wrap ((j:Int) + 1)=((j + 1:Nat):Int):=U6 j (by omega)
   simp only [EV,ZaG hlt,if_true]
   rw [O8] at hk
   refine rl4 hbs hn hc hadd _ R hv (by omega) (.int .i64 j) l i hli hin L p.Links.length 0 gs r hp (by omega) (by omega) hgs hlen mt fun gs' hp' h1 h2 h3=>?_
   rw [List.drop_zero] at h3
   simp only [Uy,EV,ew]
   exact rl3 hadd k4 R hv ha l i hli hin m q (j + 1) gs' _ hp' (by omega) (by omega) h1 h2 h3 hk
omit hL hc in
theorem rl1 {po:Zn}(k2:AV→AV→AV→AV→AV→HP→Eff→KR)(R:KR)(x1:AV)(l:List (List Int))(i:Nat)(hli:l.length=i)(hin:i < n) :
  ∀ (m q k:Nat) (gs:List Nat) (r:List Int) (hp:HP),k + q=n→q < m→gs.length=i + 1→bs≤hp.length→Mat bs t0 WP gp po g gs n (l ++ [r]) hp →
  (∀ gs' hp',gs'.length=i + 1→bs≤hp'.length→Mat bs t0 WP gp po g gs' n (l ++ [Zcj i q k r]) hp'→k2 x1 (.int .i64 n) (.arr g 0 n 1) (.arr g 0 n 1) (.int .i64 i) hp' none=R) →
  QL G K L hp0 k2 m x1 (.int .i64 n) (.arr g 0 n 1) (.arr g 0 n 1) (.int .i64 i) (.int .i64 k) hp none=R
 | 0,_,_,_,_,_,_,h,_,_,_,_=>absurd h (Nat.not_lt_zero _)
 | m + 1,q,k,gs,r,hp,hq,hm,hgs,hlen,mt,hk=>by
  rw [QL]
  cases q with
  | zero =>
   obtain rfl:k=n:=by omega
   simp only [EV,ZhE,Bool.false_eq_true,if_false]
   exact hk gs hp hgs hlen mt
  | succ q =>
   have hlt:k < n:=by omega
   have ew:IntKind.i64.wrap ((k:Int) + 1)=((k + 1:Nat):Int):=U6 k (by omega)
   rw [Zcj] at hk
   by_cases c:decide ((k:Int)≠(i:Int))=true
   ·rw [if_pos c] at hk
    obtain ⟨x,y1,y2,y3,y4⟩:=mt.at (i := i) (by omega)
    have e3:=Zlq g n i hin
    have e4:=Zlq x n k hlt
    have s4:=mt.st hlt y1 (-1) none
    have s5:=mt.put hlt y1 (-1)
    have hsm:∀ k v,ZiB (l ++ [r]) i k v=l ++ [r.set k v]:=fun k v=>by have:=ZmT l r k v; rwa [hli] at this
    rw [hsm] at s5
    have ih:=rl1 k2 R x1 l i hli hin m q (k + 1) gs _ _ (by omega) (by omega) hgs (by rw [List.length_set]; exact hlen) s5 hk
    subst hbs
    simp only [EV,ZaG hlt,if_true,c,e3,e4,y2,s4,ew,ih]
   ·rw [if_neg c] at hk
    have ih:=rl1 k2 R x1 l i hli hin m q (k + 1) gs _ _ (by omega) (by omega) hgs hlen mt hk
    subst hbs
    simp only [EV,ZaG hlt,if_true,c,ew,ih,Bool.false_eq_true,if_false]
theorem rl0 (hadd:∀ (a b:Int) (hp:HP),K Hg [.int .i64 a,.int .i64 b] hp=some (.int .i64 (Zbw a b),hp,none))(k0:AV→HP→Eff→KR)(R:KR)(hv:∀ a ∈ p.Links,0≤a.From∧a.From < (n:Int)∧0≤a.To∧a.To < (n:Int))(ha:p.Links.length < 64) :
  ∀ (m q i:Nat) (gs:List Nat) (l:List (List Int)) (hp:HP),i + q=n→q < m→gs.length=i→bs≤hp.length→Mat bs t0 WP gp (.cells cs Zv) g gs n l hp →
  (∀ gs' hp',gs'.length=n→Mat bs t0 WP gp (.cells cs Zv) g gs' n (ZkZ n (p.Links.map tri) q i l) hp'→k0 (.arr g 0 n 1) hp' none=R) →
  W9 G K L hp0 k0 m (.ptr gp 0) (.int .i64 n) (.arr g 0 n 1) (.arr g 0 n 1) (.int .i64 i) hp none=R
 | 0,_,_,_,_,_,_,h,_,_,_,_=>absurd h (Nat.not_lt_zero _)
 | m + 1,q,i,gs,l,hp,hq,hm,hgs,hlen,mt,hk=>by
  rw [W9]
  cases q with
  | zero =>
   obtain rfl:i=n:=by omega
   simp only [EV,ZhE,Bool.false_eq_true,if_false]
   exact hk gs hp hgs mt
  | succ q =>
   have hlt:i < n:=by omega
   have hli:l.length=i:=by rw [mt.len,hgs]
   have e1:Fp WP [.int .i64 0] (.int .i64 (n:Int)) hp=some (.arr hp.length 0 n 1,hp ++ [.cells (YO (List.replicate n 0)) WP]):=by
    have:(0:Int)≤(n:Int)∧(n:Int)≤4294967296:=⟨by omega,by omega⟩
    simp only [Fp,if_pos this,Int.toNat_natCast,List.length_singleton]
    rw [YO,List.map_replicate,MF]
   have e2:=Zlq g n i hlt
   obtain ⟨hp1,s1,s2,s3⟩:=mt.more (by omega) hlen (r := List.replicate n 0) (by simp) none
   rw [hgs] at s1
   have ew:IntKind.i64.wrap ((i:Int) + 1)=((i + 1:Nat):Int):=U6 i (by omega)
   rw [ZkZ] at hk
   rw [hbs] at s1
   simp only [EV,ZaG hlt,if_true,e1,e2,s1]
   refine rl1 hbs hn _ R (.ptr gp 0) l i hli hlt L n 0 _ _ hp1 (by omega) (by omega) (by simp [hgs]) (by omega) s2 fun gs1 hq1 h1 h2 h3=>?_
   simp only [Ux]
   refine rl3 hbs hn hL hc hadd _ R hv ha l i hli hlt L n 0 gs1 _ hq1 (by omega) (by omega) h1 h2 h3 fun gs2 hq2 h4 h5 h6=>?_
   simp only [VE,EV,ew]
   exact rl0 hadd k0 R hv ha m q (i + 1) gs2 _ hq2 (by omega) (by omega) h4 h5 h6 hk
end
end Go.Proofs.YtgjcjbhhhlelnaaGreatDoor
end
section
namespace Go.Proofs.YtgjcjbhhhlelnaaGreatDoor
open Go Go.Proofs.YtgjcjbhhhlelnaaGreatDoor.Abs Go.Proofs.YtgjcjbhhhlelnaaGreatDoor.Tl Go.Proofs.YtgjcjbhhhlelnaaGreatDoor.Gr
set_option maxRecDepth 100000
section
variable {C:Cfg}{L:Nat}(h:St C L)
include h
theorem Z0s (m:Nat)(a:Int)(hp:HP):Zr C (m + 1) GU [.int .i64 a] hp=some (.int .i64 (UI a),hp,none):=by
 refine Zj8 (by rw [← Zft]; exact h.T _ _ (by kernel_rfl)) ?_
 simp only [Zat,EV,min2,max2]
 have:(if (if (1000000000000:Int) < a then (1000000000000:Int) else a) > -1000000000000 then (if (1000000000000:Int) < a then (1000000000000:Int) else a) else -1000000000000)=UI a:=by unfold UI; split <;> split <;> omega
 rw [this]
theorem Z2e (m:Nat)(a b:Int)(hp:HP):Zr C (m + 2) Hf [.int .i64 a,.int .i64 b] hp=some (.int .i64 (Zbw a b),hp,none):=by
 refine Zlz (by rw [← Zhi]; exact h.T _ _ (by kernel_rfl)) ?_
 have e:IntKind.i64.wrap (UI a + UI b)=UI a + UI b:=i64_in (by unfold UI; omega) (by unfold UI; omega)
 simp only [Zd3,EV,Z0s h m,e]
 rfl
theorem ZxH (m:Nat)(a:Int)(hp:HP):Zr C (m + 1) GV [.int .i64 a] hp=some (.int .i64 (UI a),hp,none):=by
 refine Zkk (by rw [← Zfu]; exact h.T _ _ (by kernel_rfl)) ?_
 simp only [Zau,EV]
 by_cases h1:(1000000000000:Int) < a
 ·have:UI a=1000000000000:=by unfold UI; omega
  rw [if_pos (by simpa using h1),this]
 ·rw [if_neg (by simpa using h1)]
  by_cases h2:a < -1000000000000
  ·have:UI a=-1000000000000:=by unfold UI; omega
   rw [if_pos (by simpa using h2),this]
  ·have:UI a=a:=by unfold UI; omega
   rw [if_neg (by simpa using h2),this]
theorem Z0t (m:Nat)(a b:Int)(hp:HP):Zr C (m + 2) Hg [.int .i64 a,.int .i64 b] hp=some (.int .i64 (Zbw a b),hp,none):=by
 refine Zmw (by rw [← Zhj]; exact h.T _ _ (by kernel_rfl)) ?_
 have e:IntKind.i64.wrap (UI a + UI b)=UI a + UI b:=i64_in (by unfold UI; omega) (by unfold UI; omega)
 simp only [Zd4,EV,ZxH h m,e]
 rfl
theorem ZkM (m:Nat)(a b:Int)(hp:HP):Zr C (m + 1) Ym [.int .i64 a,.int .i64 b] hp=some (.int .i64 (WA a b),hp,none):=by
 refine BK (by rw [← TC]; exact h.T _ _ (by kernel_rfl)) ?_
 simp only [VQ,EV,min2,max2,WA]
 split <;> rfl
def Zy0 (p:Zl):Prop:=(1≤p.Sites.length∧p.Sites.length≤16)∧p.Links.length < 64∧∀ a ∈ p.Links,0≤a.From∧a.From < (p.Sites.length:Int)∧0≤a.To∧a.To < (p.Sites.length:Int)
omit h in
theorem Z2m (hp:HP)(cs:List AV)(n:Nat):Mat hp.length Ir WP hp.length (.cells cs Zv) (hp ++ [Zn.cells cs Zv]).length [] n [] (hp ++ [Zn.cells cs Zv] ++ [Zn.cells (List.replicate n (.own 1 [])) Ir]) :=
 ⟨by rw [XF]; rfl,Nat.zero_le _,rfl,fun i x hx=>by simp at hx,fun i j x hx=>by simp at hx,fun x hx=>by simp at hx,⟨by simp,fun x hx=>by simp at hx⟩,Eb (XF hp _) _,by simp⟩
def fwX (p:Zl):List (List Int):=fwV Zbw p.Sites.length p.Sites.length 0 (ZgZ (p.Links.map tri) (Zju p.Sites.length p.Sites.length 0 []))
def Zdw (p:Zl):List (List Int):=ZkZ p.Sites.length (p.Links.map tri) p.Sites.length 0 []
theorem ZxG (n:Nat)(p:Zl)(hf:Zy0 p)(hp:HP)(cs:List AV)(hc:cs.map AV.ro=Qw p)
  (hk:Zr C (n + 2) Jd [.agg (Qw p)] (hp ++ [.cells cs Zv])=some (.int .i64 0,hp ++ [.cells cs Zv],none)) :
  Zr C (n + 3) Vh [.agg cs] hp=some (.lst 1 ((fwX p).map fun r=>[.lst 1 (Zkq r)]),hp,none):=by
 refine HY (by rw [← UG]; exact h.T _ _ (by kernel_rfl)) ?_
 obtain ⟨⟨f1,f2⟩,f3,f4⟩:=hf
 have hcl:cs.length=3:=by have:=congrArg List.length hc; rw [List.length_map] at this; exact this
 have e1:QR (hp ++ [.cells cs Zv]) 3 (.ptr hp.length 0)=some (.agg (Qw p)):=by
  rw [ZhC (XF hp _) 3 0 (by omega),List.drop_zero,List.take_of_length_le (by omega),hc]
 have e2:=cells_at (XF hp (.cells cs Zv)) hc 1 rfl
 have e0:Zqh 3 (.agg cs)=some cs:=Zhm 3 cs hcl
 have e3:X0 1 (.ptr hp.length 0)=some (.ptr hp.length 1):=rfl
 have e4:Fp Ir [.own 1 []] (.int .i64 (p.Sites.length:Nat)) (hp ++ [.cells cs Zv])=some (.arr (hp ++ [Zn.cells cs Zv]).length 0 p.Sites.length 1,hp ++ [Zn.cells cs Zv] ++ [Zn.cells (List.replicate p.Sites.length (.own 1 [])) Ir]):=by
  have:(0:Int)≤(p.Sites.length:Int)∧(p.Sites.length:Int)≤4294967296:=⟨by omega,by omega⟩
  simp only [Fp,if_pos this,Int.toNat_natCast,List.length_singleton,MF]
 have e5:QU (hp ++ [Zn.cells cs Zv] ++ [Zn.cells (List.replicate p.Sites.length (.own 1 [])) Ir]) .slice (.arr (hp ++ [Zn.cells cs Zv]).length 0 p.Sites.length 1)=some (.int .i64 (p.Sites.length:Nat)):=rfl
 have e6:decide ((0:Int)≠0)=false:=rfl
 simp only [Vk,e0,e1,e2,e3,e4,e5,e6,hk,EV,List.length_map,Bool.false_eq_true,if_false]
 have hl1:hp.length≤(hp ++ [Zn.cells cs Zv] ++ [Zn.cells (List.replicate p.Sites.length (AV.own 1 [])) Ir]).length:=by simp
 refine la0 rfl f2 (fun hq=>h.rep (n + 1) p.Sites.length hq f1 f2) _ _ (.ptr hp.length 0) C.L p.Sites.length 0 [] [] _ (by omega) (by rw [h.L]; omega) rfl hl1 (Z2m hp cs p.Sites.length) fun gs hq h1 h1' h2=>?_
 have g0:X0 2 (.ptr hp.length 0)=some (.ptr hp.length 2):=rfl
 have g1:=cells_at h2.prg hc 2 rfl
 have g2:QU hq .slice (.lst 3 (p.Links.map Pq))=some (.int .i64 (p.Links.length:Nat)):=by
  show some (AV.int .i64 ((p.Links.map Pq).length:Nat))=_; rw [List.length_map]
 simp only [QX,g0,g1,g2,EV]
 refine la2 rfl (fun a b hq=>ZkM h (n + 1) a b hq) _ _ p.Links f4 (by omega) C.L p.Links.length 0 gs _ hq (by omega) (by rw [h.L]; omega) h1 h1' h2 fun gs2 hq2 h3 h4=>?_
 rw [List.drop_zero] at h4
 simp only [QY]
 refine la4 rfl f2 (by rw [h.L]; omega) (fun a b hq=>Z2e h n a b hq) (fun a b hq=>ZkM h (n + 1) a b hq) _ _ C.L p.Sites.length 0 gs2 _ hq2 (by omega) (by rw [h.L]; omega) h3 h4 fun gs3 hq3 h5 h6=>?_
 simp only [Xb]
 exact congrArg some (h6.fin h5)
theorem ZuO (n:Nat)(p:Zl)(hf:Zy0 p)(hp:HP)(cs:List AV)(hc:cs.map AV.ro=Qw p)
  (hk:Zr C (n + 2) ZcK [.agg (Qw p)] (hp ++ [.cells cs Zv])=some (.int .i64 0,hp ++ [.cells cs Zv],none)) :
  Zr C (n + 3) Tu [.agg cs] hp=some (.lst 1 ((Zdw p).map fun r=>[.lst 1 (Zkq r)]),hp,none):=by
 refine FM (by rw [← BA]; exact h.T _ _ (by kernel_rfl)) ?_
 obtain ⟨⟨f1,f2⟩,f3,f4⟩:=hf
 have hcl:cs.length=3:=by have:=congrArg List.length hc; rw [List.length_map] at this; exact this
 have e1:QR (hp ++ [.cells cs Zv]) 3 (.ptr hp.length 0)=some (.agg (Qw p)):=by
  rw [ZhC (XF hp _) 3 0 (by omega),List.drop_zero,List.take_of_length_le (by omega),hc]
 have e2:=cells_at (XF hp (.cells cs Zv)) hc 1 rfl
 have e0:Zqh 3 (.agg cs)=some cs:=Zhm 3 cs hcl
 have e3:X0 1 (.ptr hp.length 0)=some (.ptr hp.length 1):=rfl
 have e4:Fp Ir [.own 1 []] (.int .i64 (p.Sites.length:Nat)) (hp ++ [.cells cs Zv])=some (.arr (hp ++ [Zn.cells cs Zv]).length 0 p.Sites.length 1,hp ++ [Zn.cells cs Zv] ++ [Zn.cells (List.replicate p.Sites.length (.own 1 [])) Ir]):=by
  have:(0:Int)≤(p.Sites.length:Int)∧(p.Sites.length:Int)≤4294967296:=⟨by omega,by omega⟩
  simp only [Fp,if_pos this,Int.toNat_natCast,List.length_singleton,MF]
 have e6:decide ((0:Int)≠0)=false:=rfl
 simp only [Md,e0,e1,e2,e3,e4,e6,hk,EV,List.length_map,Bool.false_eq_true,if_false]
 have hl1:hp.length≤(hp ++ [Zn.cells cs Zv] ++ [Zn.cells (List.replicate p.Sites.length (AV.own 1 [])) Ir]).length:=by simp
 refine rl0 rfl f2 (by rw [h.L]; omega) hc (fun a b hq=>Z0t h n a b hq) _ _ f4 f3 C.L p.Sites.length 0 [] [] _ (by omega) (by rw [h.L]; omega) rfl hl1 (Z2m hp cs p.Sites.length) fun gs3 hq3 h5 h6=>?_
 simp only [Uz]
 exact congrArg some (h6.fin h5)
end
open Classical in
noncomputable def Vu (L:Nat) (x:Zl×PUnit):Option (List (List Int)):=bT (WH L (x.1,())) fun e=>if e=0 then (if Zy0 x.1 then some (fwX x.1) else none) else some []
noncomputable def Ti (L:Nat):Sum tT:=mU Vh [.row 19] (.one (.lst 1 (.lst 1 (.int .i64)))) (Vu L)
open Classical in
noncomputable def LH (L:Nat) (x:Zl×PUnit):Option (List (List Int)):=bT (Jb L (x.1,())) fun e=>if e=0 then (if Zy0 x.1 then some (Zdw x.1) else none) else some []
noncomputable def Zfb (L:Nat):Sum tT:=mU Tu [.row 19] (.one (.lst 1 (.lst 1 (.int .i64)))) (LH L)
theorem Zrw {p:Zl}{avs:List AV}(h:LR [] (tvL tT [.row 19] (p,())) avs):∃ cs,avs=[.agg cs]∧cs.map AV.ro=Qw p:=by
 cases h with
 | cons _ a h1 _ _ h2=>cases h2 with
  | nil=>cases h1 with | row _ _ cs hc=>exact ⟨cs,rfl,hc⟩
theorem Z0r (l:List (List Int))(ad:List Nat):VR (T := tT) ad (.lst 1 (.lst 1 (.int .i64)) l) (.lst 1 (l.map fun r=>[.lst 1 (Zkq r)])):=.lst 1 (.lst 1 (.int .i64)) l _ rfl
theorem ZaM:SX Ti:=fun {C L} h=>fun x hp avs hv y hy=>by
 obtain ⟨(p:Zl),u⟩:=x
 obtain ⟨cs,rfl,hc⟩:=Zrw hv
 change bT (WH L (p,())) _=some y at hy
 cases hq:WH L (p,()) with
 | none=>rw [hq] at hy; cases hy
 | some e =>
  rw [hq] at hy
  simp only [bT] at hy
  obtain ⟨n0,h0⟩:=Znl (Zkr h) p hq (hp ++ [.cells cs Zv])
  split at hy
  ·rename_i he
   subst he
   split at hy
   ·rename_i hf
    cases hy
    refine ⟨_,fun ad=>Z0r _ ad,n0 + 3,fun m hm=>?_⟩
    obtain ⟨k,rfl⟩:∃ k,m=k + 3:=⟨m - 3,by omega⟩
    exact ZxG h k p hf hp cs hc (h0 (k + 2) (by omega))
   ·cases hy
  ·rename_i he
   cases hy
   refine ⟨.own 1 [],fun ad=>.lst 1 (.lst 1 (.int .i64)) [] _ rfl,n0 + 1,fun m hm=>?_⟩
   obtain ⟨k,rfl⟩:∃ k,m=k + 1:=⟨m - 1,by omega⟩
   have hk:=h0 k (by omega)
   refine HY (by rw [← UG]; exact h.T _ _ (by kernel_rfl)) ?_
   have hcl:cs.length=3:=by have:=congrArg List.length hc; rw [List.length_map] at this; exact this
   have e1:QR (hp ++ [.cells cs Zv]) 3 (.ptr hp.length 0)=some (.agg (Qw p)):=by
    rw [ZhC (XF hp _) 3 0 (by omega),List.drop_zero,List.take_of_length_le (by omega),hc]
   have e0:Zqh 3 (.agg cs)=some cs:=Zhm 3 cs hcl
   have e6:decide (e≠0)=true:=decide_eq_true he
   simp only [Vk,e0,e1,e6,hk,EV,if_true]
theorem ZmR:SX Zfb:=fun {C L} h=>fun x hp avs hv y hy=>by
 obtain ⟨(p:Zl),u⟩:=x
 obtain ⟨cs,rfl,hc⟩:=Zrw hv
 change bT (Jb L (p,())) _=some y at hy
 cases hq:Jb L (p,()) with
 | none=>rw [hq] at hy; cases hy
 | some e =>
  rw [hq] at hy
  simp only [bT] at hy
  obtain ⟨n0,h0⟩:=Znl (ZmL h) p hq (hp ++ [.cells cs Zv])
  split at hy
  ·rename_i he
   subst he
   split at hy
   ·rename_i hf
    cases hy
    refine ⟨_,fun ad=>Z0r _ ad,n0 + 3,fun m hm=>?_⟩
    obtain ⟨k,rfl⟩:∃ k,m=k + 3:=⟨m - 3,by omega⟩
    exact ZuO h k p hf hp cs hc (h0 (k + 2) (by omega))
   ·cases hy
  ·rename_i he
   cases hy
   refine ⟨.own 1 [],fun ad=>.lst 1 (.lst 1 (.int .i64)) [] _ rfl,n0 + 1,fun m hm=>?_⟩
   obtain ⟨k,rfl⟩:∃ k,m=k + 1:=⟨m - 1,by omega⟩
   have hk:=h0 k (by omega)
   refine FM (by rw [← BA]; exact h.T _ _ (by kernel_rfl)) ?_
   have hcl:cs.length=3:=by have:=congrArg List.length hc; rw [List.length_map] at this; exact this
   have e1:QR (hp ++ [.cells cs Zv]) 3 (.ptr hp.length 0)=some (.agg (Qw p)):=by
    rw [ZhC (XF hp _) 3 0 (by omega),List.drop_zero,List.take_of_length_le (by omega),hc]
   have e0:Zqh 3 (.agg cs)=some cs:=Zhm 3 cs hcl
   have e6:decide (e≠0)=true:=decide_eq_true he
   simp only [Md,e0,e1,e6,hk,EV,if_true]
end Go.Proofs.YtgjcjbhhhlelnaaGreatDoor
end
noncomputable section
namespace Go.Proofs.YtgjcjbhhhlelnaaGreatDoor
open Go Go.Proofs.YtgjcjbhhhlelnaaGreatDoor.Abs Go.Proofs.YtgjcjbhhhlelnaaGreatDoor.Tl
set_option maxRecDepth 100000
set_option maxHeartbeats 0
def XA (L:Nat)(x:Zl×PUnit):Option Bool:=fT [Zs7,NY L,Zfb L,Ti L,ZeI L] L JR [.rnd [.slot 5 (.int .i64)]] (.one .bool) [.row 19] x
def RS (L:Nat):Sum tT:=mU 7 [.row 19] (.one .bool) (XA L)
theorem RP:SX RS:=fun h=>sT h (Zb (Zx1 h) (Zb (ZfL h) (Zb (ZmR h) (Zb (ZaM h) (Zb (Zm8 h) Zu))))) rfl (by kernel_rfl) fun _=>rfl
def Qe:Nat→List (List Int)→List (List Int)→(Int×PUnit→Option Bool)→Int×PUnit→Option Bool:=fun L y y_1 self acc=>bif decide (acc.1 < (↑y.length:Int)) then bT (ZT y acc.1) fun y=>bT (ZT y_1 acc.1) fun y_2=>bT (bT (UA L (y,y_2,())) fun y=>some y) fun y=>bif !y then some false else self (Go.IntKind.i64.wrap (acc.1 + 1),()) else some true
theorem RN (L:Nat)(x0:Zl):XA L (x0,())=bT (Ac L (x0,[],())) fun y=>bif !y then some true else bT (bT (Vu L (x0,())) fun y=>some y) fun y=>bT (bT (LH L (x0,())) fun y=>some y) fun y_1=>bif (↑y.length:Int) != (↑y_1.length:Int) then some false else Zx (Qe L y y_1) L (0,()):=by kernel_rfl
end Go.Proofs.YtgjcjbhhhlelnaaGreatDoor
end
section
namespace Go.Proofs.YtgjcjbhhhlelnaaGreatDoor
open Go Go.Proofs.YtgjcjbhhhlelnaaGreatDoor.Abs Go.Proofs.YtgjcjbhhhlelnaaGreatDoor.Tl Go.Proofs.YtgjcjbhhhlelnaaGreatDoor.Gr
set_option maxRecDepth 100000
theorem getD_lt (l:List Int)(k:Nat)(h:k < l.length):l.getD k 0=l[k]:=by rw [List.getD_eq_getElem?_getD,List.getElem?_eq_getElem h]; rfl
theorem Zn8 (n:Nat):∀ (q i:Nat) (l:List (List Int)),Zju n q i l=l ++ (List.range' i q).map fun j=>(List.replicate n (-1)).set j 0
 | 0,i,l=>by rw [Zju]; simp
 | q + 1,i,l=>by rw [Zju,Zn8 n q,List.range'_succ,List.map_cons,List.append_assoc]; rfl
theorem Zhk (n:Nat)(arcs:List (Nat×Nat×Int)):∀ (q i:Nat) (l:List (List Int)),ZkZ n arcs q i l=l ++ (List.range' i q).map fun j=>O8 Zbw arcs n (Zcj j n 0 (List.replicate n 0))
 | 0,i,l=>by rw [ZkZ]; simp
 | q + 1,i,l=>by rw [ZkZ,Zhk n arcs q,List.range'_succ,List.map_cons,List.append_assoc]; rfl
theorem O3 {n i:Nat}(f:Nat→List Int)(h:i < n):((List.range' 0 n).map f).getD i []=f i:=by
 rw [List.getD_eq_getElem?_getD,List.getElem?_map,List.getElem?_range' h]; simp
theorem Zt8 (n:Nat):Dim n (Zju n n 0 [])∧∀ i k,i < n→k < n→Gr.getM (Zju n n 0 []) i k=if k=i then 0 else -1:=by
 rw [Zn8,List.nil_append]
 refine ⟨⟨by simp,fun i hi=>by rw [O3 _ hi]; simp⟩,fun i k hi hk=>?_⟩
 rw [Gr.getM,O3 _ hi,Ph _ _ _ _ (by simpa using hi)]
 by_cases h:i=k
 ·rw [if_pos h,if_pos h.symm]
 ·rw [if_neg h,if_neg (fun e=>h e.symm),List.getD_eq_getElem?_getD,List.getElem?_replicate,if_pos hk]; rfl
theorem ZdK (i:Nat):∀ (q k:Nat) (r:List Int),r.length=k + q→∀ j,j < r.length→(Zcj i q k r).getD j 0=if k≤j∧j≠i then -1 else r.getD j 0
 | 0,k,r,hr,j,hj=>by rw [Zcj,if_neg (by omega)]
 | q + 1,k,r,hr,j,hj=>by
  rw [Zcj]
  by_cases c:decide ((k:Int)≠(i:Int))=true
  ·rw [if_pos c,ZdK i q (k + 1) _ (by rw [List.length_set]; omega) j (by rw [List.length_set]; exact hj),Ph _ _ _ _ (by omega)]
   simp only [decide_eq_true_eq] at c
   by_cases h1:k=j
   ·subst h1; rw [if_neg (by omega),if_pos rfl,if_pos ⟨Nat.le_refl _,by omega⟩]
   ·rw [if_neg h1]
    by_cases h2:k + 1≤j∧j≠i
    ·rw [if_pos h2,if_pos ⟨by omega,h2.2⟩]
    ·rw [if_neg h2,if_neg (by omega)]
  ·rw [if_neg c,ZdK i q (k + 1) _ (by omega) j hj]
   simp only [decide_eq_true_eq] at c
   by_cases h2:k + 1≤j∧j≠i
   ·rw [if_pos h2,if_pos ⟨by omega,h2.2⟩]
   ·rw [if_neg h2,if_neg (by omega)]
theorem Znh (a b:Int)(h1:0≤a)(h2:a≤1000000000000)(h3:0≤b)(h4:b≤1000000000000):Zbw a b=min 1000000000000 (a + b):=by
 unfold Zbw UI; omega
section
variable (L:Nat)(h1:1000≤L)(p:Zl)(h:VB p)(hL:2 * SizeOf.sizeOf p≤L)(hq:WH L (p,())=some 0)
def EP (p:Zl)(j k:Nat)(w:Int):Prop:=(j,k,w) ∈ p.Links.map tri
include h1 h hL hq
theorem ZqJ:Zy0 p∧∀ a ∈ p.Links,1≤a.Delay∧a.Delay≤1000000000:=by
 have hk:=Ztg L h1 p h hL hq
 refine ⟨⟨hk.1,by have:=hk.2.1.1; omega,fun a ha=>?_⟩,fun a ha=>?_⟩
 ·have:=(ZkX p p.Links [] hk.2.1.2 a ha).1; exact ⟨this.1,this.2.1,this.2.2.1,this.2.2.2.1⟩
 ·have:=(ZkX p p.Links [] hk.2.1.2 a ha).1; exact ⟨this.2.2.2.2.2.1,this.2.2.2.2.2.2⟩
theorem Z2k (j k:Nat)(w:Int)(e:EP p j k w):1≤w∧w≤1000000000000∧j < p.Sites.length∧k < p.Sites.length:=by
 obtain ⟨a,ha,e⟩:=List.mem_map.1 e
 obtain ⟨⟨_,_,f4⟩,f5⟩:=ZqJ L h1 p h hL hq
 obtain ⟨b1,b2,b3,b4⟩:=f4 a ha
 obtain ⟨c1,c2⟩:=f5 a ha
 simp only [tri,Prod.mk.injEq] at e
 obtain ⟨rfl,rfl,rfl⟩:=e
 exact ⟨c1,by omega,by omega,by omega⟩
theorem Zvc:Dim p.Sites.length (fwX p)∧∀ i k,i < p.Sites.length→k < p.Sites.length→IsD (EP p) 1000000000000 i k (Gr.getM (fwX p) i k):=by
 have he:=Z2k L h1 p h hL hq
 obtain ⟨d1,d2⟩:=Zt8 p.Sites.length
 exact Zts (EP p) (fun j k w e=>(he j k w e).1) p.Sites.length 1000000000000 (by decide) Zbw Znh (fun j k w e=>(he j k w e).2.1) (fun j k w e=>(he j k w e).2.2) (p.Links.map tri) (fun a ha=>ha) (fun j k w e=>e) _ d1 d2
theorem ZsU:Dim p.Sites.length (Zdw p)∧∀ i k,i < p.Sites.length→k < p.Sites.length→IsD (EP p) 1000000000000 i k (Gr.getM (Zdw p) i k):=by
 have he:=Z2k L h1 p h hL hq
 have hb:∀ i,i < p.Sites.length→(Zdw p).getD i []=O8 Zbw (p.Links.map tri) p.Sites.length (Zcj i p.Sites.length 0 (List.replicate p.Sites.length 0)):=fun i hi=>by
  rw [Zdw,Zhk,List.nil_append,O3 _ hi]
 have hr:∀ i,i < p.Sites.length→_:=fun i hi=>ZvK (EP p) (fun j k w e=>(he j k w e).1) p.Sites.length 1000000000000 (by decide) Zbw Znh (fun j k w e=>(he j k w e).2.1) (fun j k w e=>(he j k w e).2.2) (i := i) hi (p.Links.map tri) (fun a ha=>ha) (fun j k w e=>e) (Zcj i p.Sites.length 0 (List.replicate p.Sites.length 0)) (by rw [Zjv,List.length_replicate]) (fun k hk=>by
  rw [ZdK i _ 0 _ (by simp) k (by simpa using hk)]
  by_cases c:k=i
  ·rw [if_neg (by omega),if_pos c,List.getD_eq_getElem?_getD,List.getElem?_replicate,if_pos hk]; rfl
  ·rw [if_pos ⟨Nat.zero_le _,c⟩,if_neg c])
 refine ⟨⟨by rw [Zdw,Zhk]; simp,fun i hi=>by rw [hb i hi]; exact (hr i hi).1⟩,fun i k hi hk=>?_⟩
 rw [Gr.getM,hb i hi]; exact (hr i hi).2 k hk
theorem Zqg:fwX p=Zdw p:=by
 obtain ⟨a1,a2⟩:=Zvc L h1 p h hL hq
 obtain ⟨b1,b2⟩:=ZsU L h1 p h hL hq
 refine List.ext_getElem (by rw [a1.len,b1.len]) fun i hi hi'=>?_
 have hin:i < p.Sites.length:=by rw [← a1.len]; exact hi
 have r1:=a1.row i hin; have r2:=b1.row i hin
 have e1:(fwX p).getD i []=(fwX p)[i]:=by rw [List.getD_eq_getElem?_getD,List.getElem?_eq_getElem hi]; rfl
 have e2:(Zdw p).getD i []=(Zdw p)[i]:=by rw [List.getD_eq_getElem?_getD,List.getElem?_eq_getElem hi']; rfl
 have hu:∀ k,k < p.Sites.length→Gr.getM (fwX p) i k=Gr.getM (Zdw p) i k:=fun k hk=>(a2 i k hin hk).unique _ (b2 i k hin hk)
 rw [← e1,← e2]
 refine List.ext_getElem (by rw [r1,r2]) fun k hk hk'=>?_
 have:=hu k (by omega)
 rw [Gr.getM,Gr.getM,getD_lt _ _ hk,getD_lt _ _ hk'] at this
 exact this
end
theorem ZoX (L:Nat)(c:List Int)(hc:c.length≤40)(hL:1000≤L):UA L (c,c,())=some true:=by
 rw [ZfD,Fh (f := J7 c c) c (fun _=>some true) (by omega) (fun self i x r hx hi mem e=>by
  rw [J7]; simp only [Zk,Zc,cond_true,cond_false,Zg,ZA,Za,Zp,condC,Zj,Zi,Zm,ZO,ZY,ZH,hi,hx,wrap_succ hi (by omega),e]; simp) (fun self=>by rw [J7]; simp only [Zk,Zc,cond_true,cond_false,Zg,ZA,Za,Zp,condC,Zj,Zi,Zm,ZO,ZY,ZH])]
 simp
section
variable (L:Nat)(h1:1000≤L)(p:Zl)(h:VB p)(hL:2 * SizeOf.sizeOf p≤L)
include h1 h hL
theorem Zov:∃ l,Vu L (p,())=some l∧LH L (p,())=some l∧(l=[]∨(WH L (p,())=some 0∧l=fwX p)):=by
 obtain ⟨v,e1,e2⟩:=ZoF L h1 p h hL
 have a1:Vu L (p,())=bT (WH L (p,())) _:=rfl
 have a2:LH L (p,())=bT (Jb L (p,())) _:=rfl
 rw [e1,ZA] at a1
 rw [e2,ZA] at a2
 by_cases hv:v=0
 ·subst hv
  have hf:=(ZqJ L h1 p h hL e1).1
  rw [if_pos rfl,if_pos hf] at a1
  rw [if_pos rfl,if_pos hf] at a2
  exact ⟨fwX p,a1,by rw [a2]; exact congrArg some (Zqg L h1 p h hL e1).symm,.inr ⟨e1,rfl⟩⟩
 ·rw [if_neg hv] at a1
  rw [if_neg hv] at a2
  exact ⟨[],a1,a2,.inl rfl⟩
theorem PN:XA L (p,())=some true:=by
 rw [RN,ZlS,ZA]
 generalize (decide ((p.2.length:Int)≤20) && decide ((p.3.length:Int)≤40) && decide ((([]:List Int).length:Int)≤40))=b
 cases b with
 | false=>rfl
 | true =>
  obtain ⟨l,a1,a2,a3⟩:=Zov L h1 p h hL
  have hl:l.length≤16∧∀ r ∈ l,r.length≤16:=by
   rcases a3 with rfl | ⟨e,rfl⟩
   ·exact ⟨Nat.zero_le _,fun r hr=>by cases hr⟩
   ·have hd:=(Zvc L h1 p h hL e).1
    have hf:=(ZqJ L h1 p h hL e).1
    have hn:=hf.1.2
    refine ⟨by rw [hd.len]; exact hn,fun r hr=>?_⟩
    obtain ⟨i,hi⟩:=List.mem_iff_getElem?.1 hr
    have hil:=(List.getElem?_eq_some_iff.1 hi).1
    have:=hd.row i (by rw [← hd.len]; exact hil)
    rw [List.getD_eq_getElem?_getD,hi] at this
    have:r.length=p.Sites.length:=this
    omega
  rw [a1,a2]
  simp only [ZA,Bool.not_true,cond_false]
  rw [show ((l.length:Int) != (l.length:Int))=false by simp,cond_false]
  refine Fh (f := Qe L l l) l (fun _=>some true) (by omega) (fun self i x r hx hi mem e=>?_) (fun self=>?_)
  ·rw [Qe]
   have:=ZoX L x (by have:=hl.2 x mem; omega) h1
   simp only [Zk,Zc,cond_true,cond_false,Zg,ZA,Za,Zp,condC,Zj,Zi,Zm,ZO,ZY,ZH,hi,hx,this,wrap_succ hi (by omega),e]
   simp
  ·rw [Qe]; simp only [Zk,Zc,cond_true,cond_false,Zg,ZA,Za,Zp,condC,Zj,Zi,Zm,ZO,ZY,ZH]
end
end Go.Proofs.YtgjcjbhhhlelnaaGreatDoor
end
section
namespace Go.Proofs.YtgjcjbhhhlelnaaGreatDoor
open Go Go.RowKit Go.Proofs.YtgjcjbhhhlelnaaGreatDoor.Abs Go.Proofs.YtgjcjbhhhlelnaaGreatDoor.Tl
set_option maxRecDepth 100000
theorem ZsZ {H:Type}{c0:List AV}{d0:DataW H}(S0:DW Tryz.prog 25 c0 d0)(v0:Value)(w:World)(hG:GOk GF w)(hR0:Rep still w (.agg c0) v0) :
  Calls Tryz.prog RG #[v0] w fun e w'=>e=.returned (.bool true)∧Below w.heap.size w w':=by
 obtain ⟨p,rfl,hp⟩:=ZoR S0.of
 obtain ⟨n,hn⟩:=Zwz (RP (Z0A (1000 + 2 * SizeOf.sizeOf p))) (p,()) [.agg (Qw p)] (ZyW (k := 19) p .nil) (PN _ (by omega) p hp (by omega))
 refine Zvi (Z0B hG _) hn rfl fun j x hx=>?_
 match j,hx with
 | 0,hx=>cases hx; exact ⟨hR0,fun k r e=>by cases e⟩
end Go.Proofs.YtgjcjbhhhlelnaaGreatDoor
end
