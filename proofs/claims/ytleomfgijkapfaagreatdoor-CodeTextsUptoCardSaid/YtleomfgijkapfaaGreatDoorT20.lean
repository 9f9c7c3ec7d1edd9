import Derived.Test.YtleomfgijkapfaaGreatDoorT19
set_option linter.all false
section
namespace Go.Proofs.YtleomfgijkapfaaGreatDoor
open Go Go.RowKit Go.Proofs.YtleomfgijkapfaaGreatDoor.Abs Go.Proofs.YtleomfgijkapfaaGreatDoor.Tl
set_option maxRecDepth 100000
def orK (f:FuncId)(args:List AV):Option AV:=if f=KF then (match args with | []=>some (.bool true) | _=>none) else none
theorem Zlx {W0:World}(hG:GOk GF W0):∀ f args v,orK f args=some v→VT Tryz.prog W0 f args v:=by
 intro f args v h
 unfold orK at h
 split at h
 ·rename_i e; subst e
  split at h <;> cases h
  refine ⟨fun _ _ h=>(by cases h),fun Γ w xs hb hΓ hs hx=>?_⟩
  have hxs:xs=#[]:=Array.eq_empty_of_size_eq_zero hs
  subst hxs
  refine Y4 Tryz.func10 (by kernel_rfl) rfl ((Zi2 (AZ hG hb)).mono ?_)
  rintro e w' ⟨rfl,hb'⟩
  exact ⟨_,rfl,hb',.bool true⟩
 ·cases h
def orT (f:FuncId)(args:List AV):Option AV:=if f=40∨f=92 then (match args with
 | [.int .i64 n]=>if -9223372036854775808≤n∧n≤9223372036854775807 then some (.str (Lib.itoa n)) else none
 | _=>none) else none
theorem Zly {W0:World}(hL:Num.Laid W0):∀ f args v,orT f args=some v→VT Tryz.prog W0 f args v:=by
 intro f args v h
 unfold orT at h
 split at h
 ·rename_i e
  split at h
  ·rename_i n
   split at h <;> cases h
   rename_i hn
   refine ⟨fun _ _ h=>(by cases h),fun Γ w xs hb hΓ hs hx=>?_⟩
   obtain ⟨x,rfl⟩:=xs1 hs
   obtain rfl:x=_:=ZjV (hx 0 _ rfl)
   rcases e with rfl | rfl
   ·refine Y4 Tryz.func40 (by kernel_rfl) rfl ((Num.c_text n hn.1 hn.2 w (hL.below hb)).mono ?_)
    rintro e w' ⟨rfl,hb'⟩
    exact ⟨_,rfl,hb',.str _⟩
   ·refine Y4 Tryz.func92 (by kernel_rfl) rfl ((Num.c_rtext _ n w (Nat.le_refl _) hn.1 hn.2).mono ?_)
    rintro e w' ⟨rfl,rfl⟩
    exact ⟨_,rfl,Below.refl _ _,.str _⟩
  ·cases h
 ·cases h
noncomputable def O2 (f:FuncId)(args:List AV)(hp:List Zi):Option (AV×List Zi×Eff) :=
 if f=10 then (orK f args).map fun v=>(v,hp,none)
 else if f=38 then wsO f args hp
 else if f=44 then wbO f args hp
 else if f=45 then Zkc f args hp
 else if f=88 then (orJ f args).map fun v=>(v,hp,none)
 else if f=40∨f=92 then (orT f args).map fun v=>(v,hp,none)
 else Ze0 223 2 24 f args hp
theorem Zmq {W0:World}(hG:GOk GF W0)(hL:Num.Laid W0):Zv Tryz.prog W0 O2:=by
 intro f args hp v hp' e ho Γ w xs hr ht hs hx
 unfold O2 at ho
 split at ho
 ·exact YQ (Zlx hG) f args hp v hp' e ho Γ w xs hr ht hs hx
 split at ho
 ·exact Zip W0 f args hp v hp' e ho Γ w xs hr ht hs hx
 split at ho
 ·exact Zin W0 f args hp v hp' e ho Γ w xs hr ht hs hx
 split at ho
 ·exact Zkd W0 f args hp v hp' e ho Γ w xs hr ht hs hx
 split at ho
 ·exact YQ (ZhY W0) f args hp v hp' e ho Γ w xs hr ht hs hx
 split at ho
 ·exact YQ (Zly hL) f args hp v hp' e ho Γ w xs hr ht hs hx
 ·exact ZhS W0 f args hp v hp' e ho Γ w xs hr ht hs hx
noncomputable def C2 (L:Nat):Cfg:=⟨GF,cT,O2,L + 64⟩
theorem Zmn {W0:World}(hG:GOk GF W0)(hL:Num.Laid W0)(L:Nat):Ew Tryz.prog W0 (C2 L) where
 mixed:=by kernel_rfl
 globals:=hG
 table:=fun f af h=>by
  have h:(tab.find? (·.1 == f)).map (·.2)=some af:=h
  obtain ⟨p,hp,rfl⟩:=Option.map_eq_some_iff.1 h
  have hf:=List.find?_some hp
  have:p.1=f:=by simpa using hf
  subst this
  exact Zig p (List.mem_of_find?_eq_some hp)
 oracle:=Zmq hG hL
theorem Zer {L n:Nat}{f:FuncId}{args:List AV}{hp:List Zi}(h:(cT f).isNone=true):Zr (C2 L) (n + 1) f args hp=O2 f args hp:=by
 rw [Zr]
 show (match cT f with | some fn=>_ | none=>O2 f args hp)=_
 rw [Option.isNone_iff_eq_none.1 h]
theorem Zmm (L:Nat):St (C2 L) L where
 L:=rfl
 G:=Zni
 T:=fun f a h=>h
 grow:=fun m n hp h1 h2=>by
  rw [Zer (by kernel_rfl)]
  show (if (2:Nat)=2∧0≤n∧n.toNat * 24≤140737488355328∧n.toNat≤140737488355328 then some (AV.own 2 [],hp,none) else none)=(some (AV.own 2 [],hp,none):Option (AV×List Zi×Eff))
  rw [if_pos ⟨rfl,h1,by omega,by omega⟩]
 awake:=fun m hp=>by rw [Zer (by kernel_rfl)]; rfl
 text:=fun m n hp h=>by
  rw [Zer (by kernel_rfl)]
  show Option.map (fun v=>(v,hp,none)) (if -9223372036854775808≤n∧n≤9223372036854775807 then some (AV.str (Lib.itoa n)) else none)=_
  rw [if_pos h]; rfl
 rtext:=fun m n hp h=>by
  rw [Zer (by kernel_rfl)]
  show Option.map (fun v=>(v,hp,none)) (if -9223372036854775808≤n∧n≤9223372036854775807 then some (AV.str (Lib.itoa n)) else none)=_
  rw [if_pos h]; rfl
 join:=fun m a l s hp ha h=>by
  rw [Zer (by kernel_rfl)]
  show Option.map (fun v=>(v,hp,none)) (orJ 88 [a,.str s])=_
  have:orJ 88 [a,.str s]=some (.str (Lib.join l s)):=by
   unfold orJ
   rw [if_pos rfl]
   simp only [ha,ZcO,if_pos h]
  rw [this]; rfl
 buf:={
  ws0 := fun n p s hp h hs=>by
   rw [Zer (by kernel_rfl)]
   show wsO 38 [.ptr p 0,.str s] hp=_
   simp only [wsO,if_true,h,Ag,List.length_nil,Nat.zero_add,if_pos hs,List.nil_append]
  ws1:=fun n p s l hp h hs=>by
   rw [Zer (by kernel_rfl)]
   show wsO 38 [.ptr p 0,.str s] hp=_
   simp only [wsO,if_true,h,Ag,and_self,if_pos hs]
  wb0:=fun n p c hp h hc=>by
   rw [Zer (by kernel_rfl)]
   show wbO 44 [.ptr p 0,.int .u8 c] hp=_
   simp only [wbO,if_true,h,Ag,List.length_nil,Nat.zero_add,List.nil_append]
   rw [if_pos ⟨by omega,hc.1,hc.2⟩]
  wb1:=fun n p c l hp h hl hc=>by
   rw [Zer (by kernel_rfl)]
   show wbO 44 [.ptr p 0,.int .u8 c] hp=_
   simp only [wbO,if_true,h,Ag,and_self]
   rw [if_pos ⟨hl,hc.1,hc.2⟩]
  sb0:=fun n p hp h=>by
   rw [Zer (by kernel_rfl)]
   show Zkc 45 [.ptr p 0] hp=_
   simp only [Zkc,if_true,h]
  sb1:=fun p l hp h hl=>⟨.cells [.ptr p 0,.lst 1 (l.map byteRow)] 93,fun n=>by
   rw [Zer (by kernel_rfl)]
   show Zkc 45 [.ptr p 0] hp=_
   simp only [Zkc,if_true,h,ZlL,ne_eq,hl,not_false_eq_true,and_self]⟩ }
theorem Zjd {C:Cfg}{f:FuncId}{sig:List SD}{q:RTy tT sig→Option Bool}(h:V9 C ⟨f,sig,fun x=>.par ((.one .bool:RD).Ty tT) (q x) ((.one .bool:RD).tv tT)⟩)(x:RTy tT sig)(avs:List AV)(hl:LR [] (tvL tT sig x) avs)(hq:q x=some true):∃ n,Zr C n f avs []=some (.bool true,[],none):=by
 obtain ⟨a,h1,n,h2⟩:=h x [] avs hl true hq
 have h3:=h1 []
 have:a=.bool true:=by
  cases h3 with | av v a h =>
   rcases h with h | h
   ·exact h
   ·cases a <;> cases h; rfl
 subst this
 exact ⟨n,h2 n (Nat.le_refl _)⟩
theorem Zlf {k:Nat}(x:tT.D k){l:List (TV tT)}{cs:List AV}(h:LR [] l cs):LR [] (.row k x :: l) (.agg (tT.row k x) :: cs):=.cons _ _ (.row k x _ (Ur.ro k x)) _ _ h
theorem Zi3 {H:Type}{c0:List AV}{d0:DataW H}(S0:J8 Tryz.prog 32 c0 d0)(hk:Rows.uptoBulkAll ([d0] ++ ([]:List (DataW H)))≤1048576)(v0:Value)(w:World)(hG:GOk GF w)(hL:Num.Laid w)(hR0:Rep still w (.agg c0) v0) :
  Calls Tryz.prog Hl #[v0] w fun e w'=>e=.returned (.bool true)∧Below w.heap.size w w':=by
 obtain ⟨c,rfl,hc⟩:=Zjr S0.of
 have hk':Rows.uptoBulk d0≤1048576:=by simpa [Rows.uptoBulkAll] using hk
 have hb:=ZiA c hc (Nat.le_trans (Zhw Zcy S0 rfl) hk')
 obtain ⟨n,hn⟩:=Zjd (Io (Zmm (1000 + 2 * SizeOf.sizeOf c))) (c,()) [.agg (OG c)] (Zlf (k := 16) c .nil) (Rh _ (by omega) c hc (by omega) hb)
 refine ZkW (Zmn hG hL _) hn rfl fun j x hx=>?_
 match j,hx with
 | 0,hx=>cases hx; exact ⟨hR0,fun k r e=>by cases e⟩
end Go.Proofs.YtleomfgijkapfaaGreatDoor
end
section
namespace Go.Proofs.YtleomfgijkapfaaGreatDoor
open Go Go.RowKit Go.Proofs.YtleomfgijkapfaaGreatDoor.Abs
set_option maxRecDepth 100000
set_option maxHeartbeats 0
def NC {H:Type}(x:H6):DataW H:=.agg [.lit (.string x.word),.lit (.int .i64 x.a),.lit (.int .i64 x.b),.lit (.bool x.c),.lit (.bool x.e),.lit (.bool x.f),.lit (.bool x.args),.lit (.bool x.dist),.lit (.bool x.preempt)]
theorem Zjc {H:Type}:(Rows.laid_simulator_code_forms:DataW H)=.slice (XQ.map NC) []:=rfl
theorem Zgv {H:Type}{n:Nat}{r:List AV}{x:H6}(h:Shp Tryz.prog (n + 2) 97 r (NC x:DataW H)):r=Zbv x:=by
 obtain ⟨hl,ds,e,_,hf⟩:=h.struct Tryz.underlying97
 rw [show Tryz.prog.cellsOf 97=9 from by kernel_rfl] at hl
 have hds:ds=[.lit (.string x.word),.lit (.int .i64 x.a),.lit (.int .i64 x.b),.lit (.bool x.c),.lit (.bool x.e),.lit (.bool x.f),.lit (.bool x.args),.lit (.bool x.dist),.lit (.bool x.preempt)]:=by unfold NC at e; injection e with e; exact e.symm
 subst hds
 obtain ⟨c0,r0,rfl,hl0⟩:=ZeJ hl
 obtain ⟨c1,r1,rfl,hl1⟩:=ZeJ hl0
 obtain ⟨c2,r2,rfl,hl2⟩:=ZeJ hl1
 obtain ⟨c3,r3,rfl,hl3⟩:=ZeJ hl2
 obtain ⟨c4,r4,rfl,hl4⟩:=ZeJ hl3
 obtain ⟨c5,r5,rfl,hl5⟩:=ZeJ hl4
 obtain ⟨c6,r6,rfl,hl6⟩:=ZeJ hl5
 obtain ⟨c7,r7,rfl,hl7⟩:=ZeJ hl6
 obtain ⟨c8,r8,rfl,hl8⟩:=ZeJ hl7
 obtain rfl:=List.eq_nil_of_length_eq_zero hl8
 obtain ⟨d0,q0,s0⟩:=hf 0 _ rfl
 obtain rfl:=Option.some.inj q0
 replace s0:Shp Tryz.prog (n + 1) 9 (([c0,c1,c2,c3,c4,c5,c6,c7,c8].drop 0).take (Tryz.prog.cellsOf 9)) _:=s0
 rw [show Tryz.prog.cellsOf 9=1 from by kernel_rfl] at s0
 replace s0:Shp Tryz.prog (n + 1) 9 [c0] ((.lit (.string x.word):DataW H)):=s0
 obtain ⟨v0,a0,b0,_⟩:=s0.str Tryz.underlying9
 injection b0 with b0; injection b0 with b0; injection a0 with a0
 obtain ⟨d1,q1,s1⟩:=hf 1 _ rfl
 obtain rfl:=Option.some.inj q1
 replace s1:Shp Tryz.prog (n + 1) 95 (([c0,c1,c2,c3,c4,c5,c6,c7,c8].drop 1).take (Tryz.prog.cellsOf 95)) _:=s1
 rw [show Tryz.prog.cellsOf 95=1 from by kernel_rfl] at s1
 replace s1:Shp Tryz.prog (n + 1) 95 [c1] ((.lit (.int .i64 x.a):DataW H)):=s1
 obtain ⟨v1,a1,b1,_⟩:=s1.int Tryz.underlying95
 injection b1 with b1; injection b1 with _ b1; injection a1 with a1
 obtain ⟨d2,q2,s2⟩:=hf 2 _ rfl
 obtain rfl:=Option.some.inj q2
 replace s2:Shp Tryz.prog (n + 1) 95 (([c0,c1,c2,c3,c4,c5,c6,c7,c8].drop 2).take (Tryz.prog.cellsOf 95)) _:=s2
 rw [show Tryz.prog.cellsOf 95=1 from by kernel_rfl] at s2
 replace s2:Shp Tryz.prog (n + 1) 95 [c2] ((.lit (.int .i64 x.b):DataW H)):=s2
 obtain ⟨v2,a2,b2,_⟩:=s2.int Tryz.underlying95
 injection b2 with b2; injection b2 with _ b2; injection a2 with a2
 obtain ⟨d3,q3,s3⟩:=hf 3 _ rfl
 obtain rfl:=Option.some.inj q3
 replace s3:Shp Tryz.prog (n + 1) 4 (([c0,c1,c2,c3,c4,c5,c6,c7,c8].drop 3).take (Tryz.prog.cellsOf 4)) _:=s3
 rw [show Tryz.prog.cellsOf 4=1 from by kernel_rfl] at s3
 replace s3:Shp Tryz.prog (n + 1) 4 [c3] ((.lit (.bool x.c):DataW H)):=s3
 obtain ⟨v3,a3,b3⟩:=s3.bool Tryz.underlying4
 injection b3 with b3; injection b3 with b3; injection a3 with a3
 obtain ⟨d4,q4,s4⟩:=hf 4 _ rfl
 obtain rfl:=Option.some.inj q4
 replace s4:Shp Tryz.prog (n + 1) 4 (([c0,c1,c2,c3,c4,c5,c6,c7,c8].drop 4).take (Tryz.prog.cellsOf 4)) _:=s4
 rw [show Tryz.prog.cellsOf 4=1 from by kernel_rfl] at s4
 replace s4:Shp Tryz.prog (n + 1) 4 [c4] ((.lit (.bool x.e):DataW H)):=s4
 obtain ⟨v4,a4,b4⟩:=s4.bool Tryz.underlying4
 injection b4 with b4; injection b4 with b4; injection a4 with a4
 obtain ⟨d5,q5,s5⟩:=hf 5 _ rfl
 obtain rfl:=Option.some.inj q5
 replace s5:Shp Tryz.prog (n + 1) 4 (([c0,c1,c2,c3,c4,c5,c6,c7,c8].drop 5).take (Tryz.prog.cellsOf 4)) _:=s5
 rw [show Tryz.prog.cellsOf 4=1 from by kernel_rfl] at s5
 replace s5:Shp Tryz.prog (n + 1) 4 [c5] ((.lit (.bool x.f):DataW H)):=s5
 obtain ⟨v5,a5,b5⟩:=s5.bool Tryz.underlying4
 injection b5 with b5; injection b5 with b5; injection a5 with a5
 obtain ⟨d6,q6,s6⟩:=hf 6 _ rfl
 obtain rfl:=Option.some.inj q6
 replace s6:Shp Tryz.prog (n + 1) 4 (([c0,c1,c2,c3,c4,c5,c6,c7,c8].drop 6).take (Tryz.prog.cellsOf 4)) _:=s6
 rw [show Tryz.prog.cellsOf 4=1 from by kernel_rfl] at s6
 replace s6:Shp Tryz.prog (n + 1) 4 [c6] ((.lit (.bool x.args):DataW H)):=s6
 obtain ⟨v6,a6,b6⟩:=s6.bool Tryz.underlying4
 injection b6 with b6; injection b6 with b6; injection a6 with a6
 obtain ⟨d7,q7,s7⟩:=hf 7 _ rfl
 obtain rfl:=Option.some.inj q7
 replace s7:Shp Tryz.prog (n + 1) 4 (([c0,c1,c2,c3,c4,c5,c6,c7,c8].drop 7).take (Tryz.prog.cellsOf 4)) _:=s7
 rw [show Tryz.prog.cellsOf 4=1 from by kernel_rfl] at s7
 replace s7:Shp Tryz.prog (n + 1) 4 [c7] ((.lit (.bool x.dist):DataW H)):=s7
 obtain ⟨v7,a7,b7⟩:=s7.bool Tryz.underlying4
 injection b7 with b7; injection b7 with b7; injection a7 with a7
 obtain ⟨d8,q8,s8⟩:=hf 8 _ rfl
 obtain rfl:=Option.some.inj q8
 replace s8:Shp Tryz.prog (n + 1) 4 (([c0,c1,c2,c3,c4,c5,c6,c7,c8].drop 8).take (Tryz.prog.cellsOf 4)) _:=s8
 rw [show Tryz.prog.cellsOf 4=1 from by kernel_rfl] at s8
 replace s8:Shp Tryz.prog (n + 1) 4 [c8] ((.lit (.bool x.preempt):DataW H)):=s8
 obtain ⟨v8,a8,b8⟩:=s8.bool Tryz.underlying4
 injection b8 with b8; injection b8 with b8; injection a8 with a8
 rw [a0,a1,a2,a3,a4,a5,a6,a7,a8,← b0,← b1,← b2,← b3,← b4,← b5,← b6,← b7,← b8]
 rfl
theorem Zgw {W:World}{rest:List (String×DataW Unit)}(h:laidMet Tryz.prog (("simulator/code.forms",Rows.laid_simulator_code_forms) :: rest) W):GOk GF W:=by
 obtain ⟨ps,⟨g',t',cs,fuel,p,q,hg',ht',hvar,hd,_,_⟩,_⟩:=h
 obtain rfl:0=g':=Option.some.inj ((show Tryz.prog.globalNamed "simulator/code.forms" = some 0 by kernel_rfl).symm.trans hg')
 obtain rfl:98=t':=Option.some.inj ((show (Tryz.prog.globals[0]?).map (·.type)=some 98 by kernel_rfl).symm.trans ht')
 obtain ⟨az,s,hl,hr⟩:=MV (Γ := fun _=>.imm) (fun _=>rfl) 4 fuel 98 cs.toList (Rows.laid_simulator_code_forms,p) (by kernel_rfl) hd (fun y hy=>by
  have:((Rows.laid_simulator_code_forms:DataW Unit).weights Tryz.prog 98).all (fun y=>decide (y≤reachBytes))=true:=by kernel_rfl
  exact of_decide_eq_true (List.all_eq_true.1 this y hy))
 obtain ⟨rows,rfl,_,h3⟩:=(Shp.mk s).slice Tryz.underlying98
 have hrows:rows=XQ.map Zbv:=by
  rw [Zjc] at h3
  rcases h3 with ⟨_,h⟩ | ⟨D,ds,spare,e1,e2,e3⟩
  ·cases h
  ·injection e1 with e1 _
   subst e1
   have hlen:rows.length=XQ.length:=by have:=congrArg List.length e2; simpa using this.symm
   refine List.ext_getElem? fun i=>?_
   rcases Nat.lt_or_ge i rows.length with hi | hi
   ·have hi':i < XQ.length:=by omega
    have hD:NC XQ[i]=D i:=by
     have:=congrArg (fun l:List (DataW Unit)=>l[i]?) e2
     simpa [hi,hi'] using this
    have h4:=e3 i rows[i] (List.getElem?_eq_getElem hi)
    rw [← hD] at h4
    rw [List.getElem?_eq_getElem hi,List.getElem?_map,List.getElem?_eq_getElem hi',Zgv h4]; rfl
   ·rw [List.getElem?_eq_none hi,List.getElem?_eq_none (by rw [List.length_map]; omega)]
 subst hrows
 have h9:Tryz.prog.cellsOf 97=9:=by kernel_rfl
 rw [h9] at hr hl
 have hlt:0 < W.heap.size:=by
  rcases Nat.lt_or_ge 0 W.heap.size with h | h
  ·exact h
  ·have:=World.var?_cell (show Tryz.prog.globalNamed "simulator/code.forms" = some 0 by kernel_rfl) hvar 0
   rw [World.cell?,Array.getElem?_eq_none h] at this
   have hz:cs.size=1:=by simpa using hl.symm
   simp [hz] at this
 intro g cells hg
 unfold GF at hg
 split at hg <;> cases hg
 rename_i e; subst e
 refine ⟨hlt,fun j c hc=>?_⟩
 obtain ⟨k1,k2,k3,k4⟩:=hr j c hc
 have hj:j=0:=by have:=Zc hc; simp at this; omega
 subst hj
 have hz:cs.size=1:=by simpa using hl.symm
 refine ⟨_,?_,k3,k1⟩
 rw [World.var?_cell (show Tryz.prog.globalNamed "simulator/code.forms" = some 0 by kernel_rfl) hvar 0]
 simp [hz,List.getD]
end Go.Proofs.YtleomfgijkapfaaGreatDoor
end
