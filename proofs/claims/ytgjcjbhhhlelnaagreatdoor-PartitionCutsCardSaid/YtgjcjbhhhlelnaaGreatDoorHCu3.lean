import Derived.LoopN
import Derived.Scope
import Derived.Orders
import Derived.Test.YtgjcjbhhhlelnaaGreatDoorHCu2
set_option linter.all false
section
namespace Go.Proofs.YtgjcjbhhhlelnaaGreatDoor.Abs
open Go Go.RowKit
def AV.apart:AV→Bool
 | .agg cs=>cs.all AV.noId1
 | v=>v.noId1
theorem Rep.still' {Γ:ZB}{w:World}{x:AV}{v:Value}(h:Rep Γ w x v)(hx:x.apart=true):Rep still w x v:=by
 have hf:Yo Γ w still w:=fun b o v _ h2=>⟨trivial,h2⟩
 cases h with
 | agg cells cv hs h1 hn hr =>
  simp only [AV.apart,List.all_eq_true] at hx
  exact .agg cells cv hs h1 hn fun j c hc=>(hr j c hc).noId hf (hx c (List.mem_of_getElem? hc))
 | undef=>cases hx
 | tup=>cases hx
 | arr=>cases hx
 | ptr=>cases hx
 | map=>cases hx
 | bool b=>exact .bool b
 | int k n=>exact .int k n
 | str s=>exact .str s
 | nilp=>exact .nilp
 | nilf=>exact .nilf
 | nilm=>exact .nilm
 | nili=>exact .nili
 | nils k=>exact .nils k
 | lstNil k=>exact .lstNil k
 | lstE k A cap=>exact .lstE k A cap
 | lst k rows b o cap cv hlen hk hc hr=>exact (Rep.lst k rows b o cap cv hlen hk hc hr).noId hf rfl
 | own k rows v h=>exact (Rep.own k rows v h).noId hf rfl
 | ref cells b o cv hc hr=>exact (Rep.ref cells b o cv hc hr).noId hf rfl
 | fn f fst caps fv cv hs1 hr1 hs hr=>exact (Rep.fn f fst caps fv cv hs1 hr1 hs hr).noId hf hx
theorem Zsu {P:Program}{W:World}{C:Cfg}(h:ZeH P W C){n:Nat}{f:FuncId}{avs:List AV}{v:AV}{hp:List Zn}{e:Eff}(hev:Z7 C n f avs []=some (v,hp,e))(hv:v.flat1=true){args:Array Value}
  (hs:args.size=avs.length) (hr:∀ (j:Nat) (x:AV),avs[j]? = some x→Rep still W x (args.getD j Go.undef)∧∀ k r,x≠.own k r) :
  Calls P f args W fun e W'=>∃ cv,e=.returned cv∧Below W.heap.size W W'∧Rep still W' v cv:=by
 obtain ⟨_,hw⟩:=Tq h n f avs [] _ _ _ hev still W args (ZhD W) Zaq hs fun j x hx=>⟨(hr j x hx).1,.of_ne (hr j x hx).2⟩
 refine hw.mono fun en W' ⟨cv,hv',Γ',r1,r2,_,r4,_⟩=>?_
 subst hv'
 exact ⟨cv,rfl,⟨r4.os,r4.tape,r4.output,r4.size,fun b hb=>(r4.keep b hb trivial).2⟩,O5 r2 hv⟩
theorem Zhl {P:Program}{W0:World}{C:Cfg}(hC:∀ W,ZeH P W C){n:Nat}{f:FuncId}{args:List AV}{v:AV}{hp:List Zn}{e:Eff}(hev:Z7 C n f args []=some (v,hp,e))(hv:v.flat1=true)
  (ha:args.all AV.apart=true) (ho:args.all (fun x=>!Zdj x)=true) {fn:Func} {c:Code} (hf:P.funcs[f]? = some fn) (hn:(fn.name == "runtime.NumGoroutine")=false) (hb:fn.body=some c):ZbI P W0 f args v:=by
 refine ⟨fun k r h=>(by subst h; cases hv),fun Γ w xs _ _ hs hx=>?_⟩
 refine F9 hf hn hb ((Zsu (hC w) hev hv hs fun j x hj=>⟨(hx j x hj).still' (List.all_eq_true.1 ha x (List.mem_of_getElem? hj)),fun k r e=>?_⟩).mono ?_)
 ·have:=List.all_eq_true.1 ho x (List.mem_of_getElem? hj)
  rw [e] at this
  cases this
 ·rintro e w' ⟨cv,rfl,hb',hr⟩
  exact ⟨cv,rfl,hb',O5 hr hv⟩
def allEq {α:Type}(f:α→α→Bool):List α→List α→Bool
 | [],[]=>true
 | a :: l,b :: m=>f a b && allEq f l m
 | _,_=>false
theorem ZbJ {α:Type}{f:α→α→Bool}(hf:∀ a b,f a b=true→a=b):∀ {l m:List α},allEq f l m=true→l=m
 | [],[],_=>rfl
 | a :: l,b :: m,h=>by
  simp only [allEq,Bool.and_eq_true] at h
  rw [hf a b h.1,ZbJ hf h.2]
 | [],_ :: _,h=>by cases h
 | _ :: _,[],h=>by cases h
def eqA:Nat→AV→AV→Bool
 | n + 1,.str a,.str b=>a == b
 | n + 1,.int k a,.int l b=>decide (k=l) && decide (a=b)
 | n + 1,.bool a,.bool b=>a == b
 | n + 1,.lst k r,.lst l q=>k == l && allEq (allEq (eqA n)) r q
 | n + 1,.agg r,.agg q=>allEq (eqA n) r q
 | _,_,_=>false
theorem ZxC:∀ (n:Nat) (a b:AV),eqA n a b=true→a=b:=by
 intro n
 induction n with
 | zero=>intro a b h; unfold eqA at h; cases h
 | succ n ih =>
  intro a b h
  cases a <;> cases b <;> simp only [eqA,Bool.false_eq_true,Bool.and_eq_true,decide_eq_true_eq,beq_iff_eq] at h
  case bool.bool=>rw [h]
  case int.int=>rw [h.1,h.2]
  case str.str=>rw [h]
  case lst.lst=>rw [h.1,ZbJ (fun x y hxy=>ZbJ ih hxy) h.2]
  case agg.agg=>rw [ZbJ ih h]
end Go.Proofs.YtgjcjbhhhlelnaaGreatDoor.Abs
end
section
namespace Go.Proofs.YtgjcjbhhhlelnaaGreatDoor.Abs
open Go Go.RowKit
section
variable {P:Program}{G:Nat→Option (List AV)}{call:FuncId→List AV→List Zn→Option (AV×List Zn×Eff)}{E:Entry}{s s':Zd}{Γ:ZB}{a:Act}{w:World}{hand:Nat→Bool}{draw:Bool}
theorem ZqY (hG:GOk G E.W0)(hS:Yd P E.W0 call){ops:Array Oper}{o:Oper}{g:Option (Nat×Bool)}{u:Zd}{K:Act→World→Prop}{Q:Exit→Act→World→Prop}(h2:PK ops o.guard=some g)
  (he:Zz G call ⟨o.dst,(cOp P hand draw o).getD .bad,g⟩ s=some u) (hI:Inv E s Γ a w) (hK:∀ Γ a w,Inv E u Γ a w→K a w) :
  if Region.wanted o (yielded ops a.tmps)=true then o.wp P a w K Q∨(o.asks P a w∧LetsOut Q) else K (a.put o.dst Go.undef) w:=by
 simp only [Zz] at he
 split at he <;> first | (cases he; done) | skip
 ·rename_i hw
  rw [QQ hI h2 hw]
  split at he <;> first | (cases he; done) | skip
  rename_i v s2 hev
  obtain rfl:=Option.some.inj he
  simp only [if_true]
  refine .inl (ZqX hG hS hI (XL hev) hev fun Γ' cv w' i1 r1 o1=>?_)
  obtain ⟨Γ2,i2⟩:=i1.put o.dst r1 o1
  exact hK _ _ _ i2
 ·rename_i hw
  rw [QQ hI h2 hw]
  obtain rfl:=Option.some.inj he
  simp only [Bool.false_eq_true,if_false]
  obtain ⟨Γ2,i2⟩:=hI.put o.dst (v := .undef) (cv := Go.undef) .undef (.of_ne (by simp))
  exact hK _ _ _ i2
theorem Zt4 (hG:GOk G E.W0)(hS:Yd P E.W0 call)(hpure:∀ f args hp v hp' e,call f args hp=some (v,hp',e)→hp'=hp∧e=none){ops:Array Oper}{bops:List ZQ}{Q:Exit→Act→World→Prop}{sF:Zd}(hc:VV P hand draw ops ops.toList=some bops)(hd:ZfF ops bops=true)(hQ:∀ Γ a w,Inv E sF Γ a w→Q .normal a w) :
  ∀ (fuel:Nat) {listed:Array Bool} {s:Zd} {Γ:ZB} {a:Act} {w:World},listed.size=ops.size→JL ops listed→(WY ops.size listed).length=fuel→ZE G call ((WY ops.size listed).map fun i=>bops.getD i ⟨none,.bad,none⟩) s=some sF→Inv E s Γ a w→wpAny P .any ops Q fuel listed a w:=by
 simp only [ZfF,Bool.and_eq_true,List.all_eq_true,List.mem_range] at hd
 obtain ⟨⟨hord,hnh⟩,hpair⟩:=hd
 obtain ⟨hlen,hget⟩:=XR hc
 intro fuel
 induction fuel with
 | zero =>
  intro listed s Γ a w hsz hcl hl h hI
  have hn:=List.eq_nil_of_length_eq_zero hl
  rw [hn] at h
  obtain rfl:=Option.some.inj (by simpa [ZE] using h:some s=some sF)
  refine ⟨List.eq_nil_iff_forall_not_mem.2 fun i hi=>?_,hQ _ _ _ hI⟩
  obtain ⟨h1,o,h2,_⟩:=mem_ready.1 hi
  have:i ∈ WY ops.size listed:=YD.2 ⟨(Array.getElem?_eq_some_iff.1 h2).1,h1⟩
  rw [hn] at this
  cases this
 | succ fuel ih =>
  intro listed s Γ a w hsz hcl hl h hI
  have hlisted:∀ j,j < ops.size→listed.getD j true≠false→listed.getD j false=true:=fun j hj h=>by
   have hj':j < listed.size:=by omega
   simp [hj'] at h ⊢; exact h
  refine ⟨fun hr=>?_,fun i hi=>?_⟩
  ·obtain ⟨i,r,hir⟩:∃ i r,WY ops.size listed=i :: r:=by
    cases hx:WY ops.size listed with
    | nil=>rw [hx] at hl; cases hl
    | cons i r=>exact ⟨i,r,rfl⟩
   have him:=YD.1 (show i ∈ WY ops.size listed by rw [hir]; exact List.mem_cons_self ..)
   have hoi:ops[i]? = some ops[i]:=Array.getElem?_eq_getElem him.1
   have hready:i ∈ Region.ready .any ops listed:=by
    refine mem_ready.2 ⟨him.2,_,hoi,fun e he hb=>?_⟩
    have:=hord i him.1
    rw [hoi] at this
    have hlt:=Array.all_eq_true'.1 this e he
    rw [hb] at hlt
    simp only [Bool.not_true,Bool.false_or,decide_eq_true_eq] at hlt
    refine hlisted e.on (by omega) fun hun=>?_
    have hm:=YD.2 ⟨show e.on < ops.size by omega,hun⟩
    rw [hir] at hm
    have hs:=Xb ops.size listed
    rw [hir] at hs
    rcases List.mem_cons.1 hm with he | hm
    ·omega
    ·have:=(List.pairwise_cons.1 hs).1 _ hm
     omega
   rw [hr] at hready
   cases hready
  ·obtain ⟨hun,o,ho,hdeps⟩:=mem_ready.1 hi
   have hin:=(Array.getElem?_eq_some_iff.1 ho).1
   obtain ⟨l1,l2,hsplit⟩:=List.append_of_mem (YD.2 ⟨hin,hun⟩)
   have hs:=Xb ops.size listed
   rw [hsplit] at hs
   obtain ⟨g,hg1,hg2⟩:=hget i o (by simpa using ho)
   have hbi:bops.getD i ⟨none,.bad,none⟩=⟨o.dst,(cOp P hand draw o).getD .bad,g⟩:=by rw [List.getD_eq_getElem?_getD,hg2]; rfl
   have hcomm:∀ x ∈ l1.map (fun i=>bops.getD i ⟨none,.bad,none⟩),Zi5 x ⟨o.dst,(cOp P hand draw o).getD .bad,g⟩=true:=fun x hx=>by
    obtain ⟨j,hj,rfl⟩:=List.mem_map.1 hx
    have hji:j < i:=(List.pairwise_append.1 hs).2.2 j hj i (List.mem_cons_self ..)
    have hjm:=YD.1 (show j ∈ WY ops.size listed by rw [hsplit]; exact List.mem_append_left _ hj)
    have:=hpair i hin j hji
    rw [Bool.or_eq_true] at this
    rcases this with h1 | h1
    ·exfalso
     have h2:=hcl.ready ho hdeps (F8 h1)
     rw [O6 hjm.2] at h2
     cases h2
    ·rw [hg2] at h1
     split at h1
     ·rename_i x y hx hy
      cases hy
      rw [List.getD_eq_getElem?_getD,hx]
      exact h1
     ·cases h1
   rw [hsplit,List.map_append,List.map_cons,hbi] at h
   obtain ⟨u,hu1,hu2⟩:=bubble hpure hcomm h
   rw [← List.map_append,← UD hsplit (by omega)] at hu2
   have hlen2:(WY ops.size (listed.setIfInBounds i true)).length=fuel:=by
    rw [UD hsplit (by omega)]
    rw [hsplit] at hl
    simp at hl ⊢
    omega
   unfold wpOp
   simp only [ho]
   exact ZqY hG hS hg1 hu1 hI fun Γ' a' w' hI'=>ih (by simp [hsz]) (hcl.list ho hdeps) hlen2 hu2 hI'
end
def Kv (P:Program)(takes:FuncId→List Nat)(res:List Nat):Code→Option Wl
 | .skip=>some .skip
 | .region _ ops false=>(VV P (fun t=>(handed takes res ops.toList).contains t) false ops ops.toList).map (.region false)
 | .region _ ops true=>match VV P (fun t=>(handed takes res ops.toList).contains t) false ops ops.toList with
  | some bops=>if ZfF ops bops then some (.region true bops) else if ZcR ops bops then some (.regionB bops) else some .bad
  | _=>none
 | .seq a b=>match Kv P takes res a,Kv P takes res b with
  | some a,some b=>some (.seq a b)
  | _,_=>none
 | .cond c a b=>match ZT P 0 c,Kv P takes res a,Kv P takes res b with
  | some c,some a,some b=>some (.cond c a b)
  | _,_,_=>none
 | .block id c=>(Kv P takes res c).map (.block id)
 | .loop c=>(Kv P takes res c).map .loop
 | .scope c=>(Kv P takes res c).map .scope
 | .exit id=>some (.exit id)
 | .ret=>some .ret
 | .label _=>some .skip
 | _=>some .bad
def Zz6 (P:Program)(takes:FuncId→List Nat)(fn:Func):Option AFn :=
 match fn.body,Zi0 P fn.results.toList with
 | some c,some rs=>(Kv P takes (ZhB fn.results.toList) c).map fun ac=>⟨fn.ntmps,rs,ac,!(takes RP).isEmpty⟩
 | _,_=>none
section
variable (G:Nat→Option (List AV))(call:FuncId→List AV→List Zn→Option (AV×List Zn×Eff))(L:Nat)
def Yj:Wl→Zd→Option (IM×Zd)
 | .skip,s=>some (.normal,s)
 | .region false ops,s=>(ZE G call ops s).map (.normal,·)
 | .region true ops,s=>(ZE G (KL call) ops s).map (.normal,·)
 | .regionB ops,s=>(ZE G (Yt call) ops s).map (.normal,·)
 | .seq a b,s=>match Yj a s with
  | some (.normal,s')=>Yj b s'
  | r=>r
 | .cond c a b,s=>match opnd G s.sl c with
  | some (.bool true)=>Yj a s
  | some (.bool false)=>Yj b s
  | _=>none
 | .block id c,s=>match Yj c s with
  | some (.exit i,s')=>if i=id then some (.normal,s') else some (.exit i,s')
  | r=>r
 | .loop c,s=>iter (Yj c) L s
 | .scope c,s=>Yj c s
 | .exit id,s=>some (.exit id,s)
 | .ret,s=>some (.ret,s)
 | .bad,_=>none
end
section
variable {P:Program}{G:Nat→Option (List AV)}{call:FuncId→List AV→List Zn→Option (AV×List Zn×Eff)}{E:Entry}
theorem Zs0 (hm:P.follows .mixedOrders=true)(hG:GOk G E.W0)(hS:Yd P E.W0 call){takes:FuncId→List Nat}{res:List Nat}(L:Nat):∀ {c:Code} {ac:Wl} {s:Zd} {r:IM×Zd} {Γ:ZB} {a:Act} {w:World},
  Kv P takes res c=some ac→Yj G call L ac s=some r→Inv E s Γ a w→c.wp P (Ends E r) a w:=by
 intro c
 induction c with
 | skip =>
  intro ac s r Γ a w hc h hI
  cases hc; cases h
  exact Go.wp_skip (.normal hI)
 | region id ops draw =>
  intro ac s r Γ a w hc h hI
  cases draw with
  | false =>
   simp only [Kv] at hc
   obtain ⟨aops,h1,rfl⟩:=Option.map_eq_some_iff.1 hc
   simp only [Yj] at h
   obtain ⟨s1,h2,rfl⟩:=Option.map_eq_some_iff.1 h
   refine wp_region ?_
   rw [List.range_eq_range']
   have:=Znj hG hS (Q := Ends E (.normal,s1)) 0 (l := ops.toList) (by simp) h1 h2 hI fun Γ a w h=>.normal h
   simpa using this
  | true =>
   simp only [Kv] at hc
   split at hc <;> first | (cases hc; done) | skip
   rename_i bops h1'
   split at hc
   ·rename_i hd
    cases hc
    simp only [Yj] at h
    obtain ⟨s1,h2,rfl⟩:=Option.map_eq_some_iff.1 h
    refine wp_region_any hm ?_
    have hb:Behind w { w with drawn:=w.drawn + 1 }:=⟨rfl,rfl,rfl,Nat.le_refl _,fun _ _=>rfl⟩
    have hr:WY ops.size (Array.replicate ops.size false)=List.range ops.size:=by
     unfold WY
     refine List.filter_eq_self.2 fun i hi=>?_
     simp only [List.mem_range] at hi
     simp [hi]
    have hmap:(List.range ops.size).map (fun i=>bops.getD i ⟨none,.bad,none⟩)=bops:=by
     have hl:ops.size=bops.length:=by simpa using (XR h1').1
     rw [hl]
     refine List.ext_getElem? fun i=>?_
     rw [List.getElem?_map]
     by_cases hi:i < bops.length
     ·rw [List.getElem?_range hi,Option.map_some,List.getD_eq_getElem?_getD,List.getElem?_eq_getElem hi]; rfl
     ·rw [List.getElem?_eq_none (by simpa using hi),List.getElem?_eq_none (by omega)]; rfl
    exact Zt4 hG (ZcO hS) ZpC (Q := Ends E (.normal,s1)) h1' hd (fun Γ a w h=>.normal h) ops.size (by simp) (.start ops _) (by rw [hr]; simp) (by rw [hr,hmap]; exact h2) (hb.inv hI)
   ·split at hc
    ·rename_i hd
     cases hc
     simp only [Yj] at h
     obtain ⟨s1,h2,rfl⟩:=Option.map_eq_some_iff.1 h
     refine wp_region_any hm ?_
     have hb:Behind w { w with drawn:=w.drawn + 1 }:=⟨rfl,rfl,rfl,Nat.le_refl _,fun _ _=>rfl⟩
     exact Zhi hG (Ziw hS) (Q := Ends E (.normal,s1)) h1' hd (fun Γ a w h=>.normal h) h2 (hb.inv hI)
    ·cases hc; cases h
 | seq x y ihx ihy =>
  intro ac s r Γ a w hc h hI
  simp only [Kv] at hc
  split at hc <;> first | (cases hc; done) | skip
  rename_i ax ay hx hy
  obtain rfl:=Option.some.inj hc
  simp only [Yj] at h
  refine Go.wp_seq ?_
  split at h
  ·rename_i s1 h1
   refine Go.wp_mono (ihx hx h1 hI) fun e a' w' he=>?_
   obtain ⟨k1,Γ',i1⟩:=he
   cases e <;> first | exact k1.elim | skip
   exact ihy hy h i1
  ·rename_i hne
   refine Go.wp_mono (ihx hx h hI) fun e a' w' he=>?_
   cases e <;> first | exact he | skip
   obtain ⟨k1,_⟩:=he
   obtain ⟨q,s1⟩:=r
   cases q <;> first | exact k1.elim | skip
   exact absurd h (hne s1)
 | cond c x y ihx ihy =>
  intro ac s r Γ a w hc h hI
  simp only [Kv] at hc
  split at hc <;> first | (cases hc; done) | skip
  rename_i c' ax ay hcc hx hy
  obtain rfl:=Option.some.inj hc
  simp only [Yj] at h
  split at h <;> first | (cases h; done) | skip
  ·rename_i hb
   have k:=(Zr hG hI hcc hb).1
   generalize hq:a.eval c=q at k
   cases k
   exact Go.wp_cond_true hq (ihx hx h hI)
  ·rename_i hb
   have k:=(Zr hG hI hcc hb).1
   generalize hq:a.eval c=q at k
   cases k
   exact Go.wp_cond_false hq (ihy hy h hI)
 | block id c ih =>
  intro ac s r Γ a w hc h hI
  simp only [Kv] at hc
  obtain ⟨ax,hx,rfl⟩:=Option.map_eq_some_iff.1 hc
  simp only [Yj] at h
  refine Go.wp_block ?_
  split at h
  ·rename_i i s1 h1
   split at h
   ·rename_i hi
    obtain rfl:=Option.some.inj h
    refine Go.wp_mono (ih hx h1 hI) fun e a' w' he=>?_
    obtain ⟨k1,Γ',i1⟩:=he
    cases e <;> first | exact k1.elim | skip
    rename_i j
    simp only [Exit.inBlock]
    rw [if_pos (by rw [← hi]; exact (show i=j from k1).symm)]
    exact .normal i1
   ·rename_i hi
    obtain rfl:=Option.some.inj h
    refine Go.wp_mono (ih hx h1 hI) fun e a' w' he=>?_
    obtain ⟨k1,Γ',i1⟩:=he
    cases e <;> first | exact k1.elim | skip
    rename_i j
    simp only [Exit.inBlock]
    rw [if_neg (by rw [← (show i=j from k1)]; exact hi)]
    exact ⟨k1,Γ',i1⟩
  ·rename_i hne
   refine Go.wp_mono (ih hx h hI) fun e a' w' he=>?_
   cases e <;> first | exact he | skip
   obtain ⟨k1,_⟩:=he
   obtain ⟨q,s1⟩:=r
   cases q <;> first | exact k1.elim | skip
   exact absurd h (hne _ s1)
 | loop c ih =>
  intro ac s r Γ a w hc h hI
  simp only [Kv] at hc
  obtain ⟨ax,hx,rfl⟩:=Option.map_eq_some_iff.1 hc
  simp only [Yj] at h
  exact wp_loop_rounds L (ZkF (fun h1 h2=>ih hx h1 h2) L h hI)
 | scope c ih =>
  intro ac s r Γ a w hc h hI
  simp only [Kv] at hc
  obtain ⟨ax,hx,rfl⟩:=Option.map_eq_some_iff.1 hc
  simp only [Yj] at h
  refine Go.wp_scope_straight (Go.wp_mono (ih hx h hI) fun e a' w' he=>?_)
  cases e <;> first | exact he | skip
  obtain ⟨k1,_⟩:=he
  obtain ⟨q,s1⟩:=r
  cases q <;> exact k1.elim
 | exit id =>
  intro ac s r Γ a w hc h hI
  cases hc; cases h
  exact Go.wp_exit ⟨rfl,Γ,hI⟩
 | ret =>
  intro ac s r Γ a w hc h hI
  cases hc; cases h
  exact Go.wp_ret ⟨trivial,Γ,hI⟩
 | label l =>
  intro ac s r Γ a w hc h hI
  cases hc; cases h
  exact Go.wp_label (.normal hI)
 | _ =>
  intro ac s r Γ a w hc h
  cases hc; cases h
end
section
variable {G:Nat→Option (List AV)}{call:FuncId→List AV→List Zn→Option (AV×List Zn×Eff)}
theorem Zi9 (L:Nat):∀ {c:Wl} {s:Zd} {r:IM×Zd},Yj G call L c s=some r→r.2.bs=s.bs:=by
 intro c
 induction c with
 | skip=>intro s r h; cases h; rfl
 | region draw ops =>
  intro s r h
  cases draw with
  | false =>
   simp only [Yj] at h
   obtain ⟨s1,h1,rfl⟩:=Option.map_eq_some_iff.1 h
   exact JR h1
  | true =>
   simp only [Yj] at h
   obtain ⟨s1,h1,rfl⟩:=Option.map_eq_some_iff.1 h
   exact JR h1
 | regionB ops =>
  intro s r h
  simp only [Yj] at h
  obtain ⟨s1,h1,rfl⟩:=Option.map_eq_some_iff.1 h
  exact JR h1
 | seq x y ihx ihy =>
  intro s r h
  simp only [Yj] at h
  split at h
  ·rename_i s1 h1
   rw [ihy h]; exact ihx h1
  ·exact ihx h
 | cond c x y ihx ihy =>
  intro s r h
  simp only [Yj] at h
  split at h <;> first | (cases h; done) | skip
  ·exact ihx h
  ·exact ihy h
 | block id c ih =>
  intro s r h
  simp only [Yj] at h
  split at h
  ·rename_i i s1 h1
   have:=ih h1
   split at h <;> (obtain rfl:=Option.some.inj h; exact this)
  ·exact ih h
 | loop c ih =>
  intro s r h
  simp only [Yj] at h
  exact ZkE ih L h
 | scope c ih=>intro s r h; simp only [Yj] at h; exact ih h
 | exit id=>intro s r h; cases h; rfl
 | ret=>intro s r h; cases h; rfl
 | bad=>intro s r h; cases h
end
def ZcX (C:Cfg)(S:List Nat)(n:Nat)(fn:AFn)(args:List AV)(hp:List Zn):Option (AV×List Zn×Eff) :=
 match Yj C.G (ZkK S (Z7 C n)) C.L fn.code ⟨args ++ List.replicate (fn.ntmps - args.length) .undef,hp,none,hp.length⟩ with
 | some (.exit _,_)=>none
 | some (_,s)=>match Xh s fn.results with
  | some v=>some (if fn.keep then (v.nm,s.hp,s.ef) else finish v s hp)
  | none=>none
 | none=>none
theorem Zod {P:Program}{W0:World}{C:Cfg}{S:List Nat}(h:ZeH P W0 C)(n:Nat){f:FuncId}{fn:Func}{takes:FuncId→List Nat}{af:AFn}(hf:P.funcs[f]? = some fn)(hname:(fn.name == "runtime.NumGoroutine")=false)(hcf:Zz6 P takes fn=some af) :
  Yd P W0 fun g args hp=>if g=f then ZcX C S n af args hp else none:=by
 intro g args hp v hp' e hc Γ w xs hr ht hs hx
 replace hc:(if g=f then ZcX C S n af args hp else none)=some (v,hp',e):=hc
 split at hc
 case isFalse=>cases hc
 rename_i hgf
 subst hgf
 have ih:=Zth S (Tq h n)
 unfold ZcX at hc
 unfold Zz6 at hcf
 split at hcf <;> first | (cases hcf; done) | skip
 rename_i c rs hb hrs
 obtain ⟨ac,hac,rfl⟩:=Option.map_eq_some_iff.1 hcf
 split at hc
 ·cases hc
 ·rename_i x s hne hev
  split at hc <;> first | (cases hc; done) | skip
  rename_i u hu
  have hfin:=Option.some.inj hc
  refine ⟨EX hf hname hb xs w,?_⟩
  have hbs:s.bs=hp.length:=Zi9 C.L hev
  have hI:Inv ⟨W0,Γ,w⟩ ⟨args ++ List.replicate (fn.ntmps - args.length) .undef,hp,none,hp.length⟩ Γ { tmps := xs ++ Array.replicate (fn.ntmps - xs.size) Go.undef,defers := [] } w:=by
   have get:∀ (t:Nat) (y:AV),(args ++ List.replicate (fn.ntmps - args.length) AV.undef)[t]? = some y→(args[t]? = some y∧(xs ++ Array.replicate (fn.ntmps - xs.size) Go.undef).getD t Go.undef=xs.getD t Go.undef)∨(y=.undef∧(xs ++ Array.replicate (fn.ntmps - xs.size) Go.undef).getD t Go.undef=Go.undef):=by
    intro t y hy
    rw [List.getElem?_append] at hy
    split at hy
    ·rename_i hlt
     refine .inl ⟨hy,?_⟩
     rw [Array.getD_eq_getD_getElem?,Array.getD_eq_getD_getElem?,Array.getElem?_append_left (by omega)]
    ·rename_i hge
     have hm:=List.mem_of_getElem? hy
     have:=List.eq_of_mem_replicate hm
     refine .inr ⟨this,?_⟩
     have hlt:=Zt hy
     simp only [List.length_replicate] at hlt
     rw [Array.getD_eq_getD_getElem?,Array.getElem?_append_right (by omega),Array.getElem?_replicate,if_pos (by omega)]
     rfl
   refine ⟨rfl,⟨by simp [hs],fun t y hy=>?_,fun t y hy=>?_⟩,hr,.refl _ _ _,fun b g hb=>hr.lt b g hb,fun b m g i hb=>ht.cell b m g i hb,Nat.le_refl _,fun _ _ hb _=>hb⟩
   ·rcases get t y hy with ⟨h1,h2⟩ | ⟨rfl,h2⟩
    ·rw [h2]; exact (hx t y h1).1
    ·rw [h2]; exact .undef
   ·rcases get t y hy with ⟨h1,h2⟩ | ⟨rfl,h2⟩
    ·rw [h2]; exact (hx t y h1).2
    ·exact .of_ne (by simp)
  have hw:=Zs0 h.mixed h.globals ih C.L hac hev hI
  refine calls_of_wp hf hb (Go.wp_mono hw fun en a' w' he=>?_)
  obtain ⟨k1,Γ',i1⟩:=he
  have fin:a'.defers=[]∧∃ cv,(results fn a'.tmps).run P w'=.ok cv w'∧∃ v',Ending.returned cv=.returned v'∧∃ Γ',RW W0 Γ' w' hp'∧Rep Γ' w' v v'∧OwnAt Γ' w' .res v v'∧Frame Γ w Γ' w' e∧hp.length≤hp'.length∧∀ b g,Γ' b=.own g→g < hp.length→Γ b=.own g:=by
   obtain ⟨cv,Γ2,q1,q2,q3,q4,q5,q6⟩:=ZuI i1 hrs hu
   obtain ⟨Γ3,p1,p2,p3,p4,p5⟩:=Zdc hr hbs (by rw [hbs]; have:=i1.le; simpa [hbs] using this) (fun b m g i hb=>by rw [hbs]; exact ht.cell b m g i hb) q2 q3 q6 q4 q5 hfin
   exact ⟨i1.defers,cv,q1,cv,rfl,Γ3,p1,p2,p3,p4,p5⟩
  cases x with
  | exit i=>exact (hne i rfl).elim
  | normal=>cases en <;> first | exact k1.elim | exact fin
  | ret=>cases en <;> first | exact k1.elim | exact fin
 ·cases hc
theorem Zz2 {P:Program}{W:World}{C:Cfg}{S:List Nat}(h:ZeH P W C){n:Nat}{f:FuncId}{fn:Func}{takes:FuncId→List Nat}{af:AFn}(hf:P.funcs[f]? = some fn)(hname:(fn.name == "runtime.NumGoroutine")=false)(hcf:Zz6 P takes fn=some af)
  {hp:List Zn} {e:Eff} (hev:ZcX C S n af [] []=some (.bool true,hp,e)):Calls P f #[] W fun e W'=>e=.returned (.bool true)∧Below W.heap.size W W':=by
 obtain ⟨_,hw⟩:=Zod h n hf hname hcf f [] [] (.bool true) hp e (by simpa using hev) still W #[] (ZhD W) Zaq rfl fun j x hx=>by simp at hx
 refine hw.mono fun en W' ⟨cv,hv,Γ',r1,r2,_,r4,_⟩=>?_
 subst hv
 cases r2
 exact ⟨rfl,r4.os,r4.tape,r4.output,r4.size,fun b hb=>(r4.keep b hb trivial).2⟩
end Go.Proofs.YtgjcjbhhhlelnaaGreatDoor.Abs
end
section
namespace Go.Proofs.YtgjcjbhhhlelnaaGreatDoor.Abs
open Go
theorem EV :
  (∀ {α β:Type} (x:α) (f:α→β),Option.map f (some x)=some (f x)) ∧
  (∀ {α:Type} (v:α) (k:α→KR),Qp (some v) k=k v) ∧
  (∀ {α β:Type} (a:α) (b:β) (k:α→β→KR),Zja (some (a,b)) k=k a b) ∧
  (∀ {α β γ:Type} (a:α) (b:β) (c:γ) (k:α→β→γ→KR),LU (some (a,b,c)) k=k a b c) ∧
  (∀ (b:Bool) (x y:KR),ifK (.bool b) x y=if b=true then x else y) ∧
  (∀ (x:KR) (hp:List Zn) (ef:Eff) (k:AV→List Zn→Eff→KR),PS (some true) x hp ef k=LU x k) ∧
  (∀ (x:KR) (hp:List Zn) (ef:Eff) (k:AV→List Zn→Eff→KR),PS (some false) x hp ef k=k .undef hp ef) ∧
  (∀ (b:Bool),PQ true (.bool b)=some b) ∧
  (∀ (b:Bool),PQ false (.bool b)=some (!b)) ∧
  (∀ (a b:AV),ZeW (.bool true) a b=some a) ∧
  (∀ (a b:AV),ZeW (.bool false) a b=some b) ∧
  (∀ (v:AV),gif true v=v) ∧
  (∀ (b:Bool) (v:AV) (hp:List Zn) (ef:Eff) (k:AV→List Zn→Eff→KR),PS (some b) (some (v,hp,ef)) hp ef k=k (gif b v) hp ef) ∧
  (∀ (b:Bool) (v:AV),AV.ro (gif b v)=gif b (AV.ro v)) ∧
  (∀ (b c:Bool),ZeW (.bool b) (gif b (.bool c)) (.bool false)=some (.bool (b && c))) ∧
  (∀ (b c:Bool),ZeW (.bool b) (.bool true) (gif (!b) (.bool c))=some (.bool (b || c))) ∧
  (∀ (b c:Bool) (hp:List Zn) (ef:Eff) (k:AV→List Zn→Eff→KR),Zid (.bool b) true (some (.bool c,hp,ef)) (some (.bool false)) hp ef k=k (.bool (b && c)) hp ef) ∧
  (∀ (b c:Bool) (hp:List Zn) (ef:Eff) (k:AV→List Zn→Eff→KR),Zid (.bool b) false (some (.bool c,hp,ef)) (some (.bool true)) hp ef k=k (.bool (b || c)) hp ef) ∧
  (∀ (x:KR) (o:Option AV) (hp:List Zn) (ef:Eff) (k:AV→List Zn→Eff→KR),Zid (.bool true) true x o hp ef k=LU x k) ∧
  (∀ (x:KR) (v:AV) (hp:List Zn) (ef:Eff) (k:AV→List Zn→Eff→KR),Zid (.bool false) true x (some v) hp ef k=k v hp ef) ∧
  (∀ (x:KR) (v:AV) (hp:List Zn) (ef:Eff) (k:AV→List Zn→Eff→KR),Zid (.bool true) false x (some v) hp ef k=k v hp ef) ∧
  (∀ (x:KR) (o:Option AV) (hp:List Zn) (ef:Eff) (k:AV→List Zn→Eff→KR),Zid (.bool false) false x o hp ef k=LU x k) ∧
  (∀ {α:Type} (x:α) (k:α→KR),ZvM x k=k x) ∧
  (∀ (b:Bool),AV.ro (.bool b)=.bool b) ∧
  (∀ (k:IntKind) (n:Int),AV.ro (.int k n)=.int k n) ∧
  (∀ (s:List UInt8),AV.ro (.str s)=.str s) ∧
  (∀ (k:Nat) (r:List (List AV)),AV.ro (.lst k r)=.lst k r) ∧
  (∀ (k:Nat) (r:List (List AV)),AV.ro (.own k r)=.lst k r) ∧
  (∀ (c:List AV),AV.ro (.agg c)=.agg c) ∧
  (∀ (c:List AV),AV.ro (.tup c)=.tup c) ∧
  (∀ (g o:Nat),AV.ro (.ptr g o)=.ptr g o) ∧
  (∀ (g:Nat),AV.ro (.map g)=.map g) ∧
  (∀ (c:List AV),AV.ro (.ref c)=.ref c) ∧
  (∀ (f:FuncId) (a c:List AV),AV.ro (.fn f a c)=.fn f a c) ∧
  (AV.ro .undef=.undef) ∧
  (∀ (b:Bool),AV.nm (.bool b)=.bool b) ∧
  (∀ (k:IntKind) (n:Int),AV.nm (.int k n)=.int k n) ∧
  (∀ (s:List UInt8),AV.nm (.str s)=.str s) ∧
  (∀ (k:Nat) (r:List (List AV)),AV.nm (.lst k r)=.lst k r) ∧
  (∀ (k:Nat) (r:List (List AV)),AV.nm (.own k r)=.lst k r) ∧
  (∀ (c:List AV),AV.nm (.agg c)=.agg (c.map AV.ro)) ∧
  (∀ (g o:Nat),AV.nm (.ptr g o)=.ptr g o) ∧
  (∀ (g:Nat),AV.nm (.map g)=.map g) ∧
  (∀ (f:FuncId) (a c:List AV),AV.nm (.fn f a c)=.fn f a c) ∧
  (∀ (k:IntKind) (a b:Int),ZL .add .prim (.int k a) (.int k b)=some (.int k (k.wrap (a + b)))) ∧
  (∀ (k:IntKind) (a b:Int),ZL .sub .prim (.int k a) (.int k b)=some (.int k (k.wrap (a - b)))) ∧
  (∀ (k:IntKind) (a b:Int),ZL .mul .prim (.int k a) (.int k b)=some (.int k (k.wrap (a * b)))) ∧
  (∀ (k:IntKind) (a b:Int),ZL .eql .prim (.int k a) (.int k b)=some (.bool (decide (a=b)))) ∧
  (∀ (k:IntKind) (a b:Int),ZL .neq .prim (.int k a) (.int k b)=some (.bool (decide (a≠b)))) ∧
  (∀ (k:IntKind) (a b:Int),ZL .lss .prim (.int k a) (.int k b)=some (.bool (decide (a < b)))) ∧
  (∀ (k:IntKind) (a b:Int),ZL .leq .prim (.int k a) (.int k b)=some (.bool (decide (a≤b)))) ∧
  (∀ (k:IntKind) (a b:Int),ZL .gtr .prim (.int k a) (.int k b)=some (.bool (decide (b < a)))) ∧
  (∀ (k:IntKind) (a b:Int),ZL .geq .prim (.int k a) (.int k b)=some (.bool (decide (b≤a)))) ∧
  (∀ (a b:List UInt8),ZL .eql .prim (.str a) (.str b)=some (.bool (decide (a=b)))) ∧
  (∀ (a b:List UInt8),ZL .neq .prim (.str a) (.str b)=some (.bool (decide (a≠b)))) ∧
  (∀ (ks:List CK) (k:IntKind) (x y:Int) (l m:List AV),Yl (.int :: ks) (.int k x :: l) (.int k y :: m)=if x=y then Yl ks l m else some false) ∧
  (∀ (ks:List CK) (x y:List UInt8) (l m:List AV),Yl (.str :: ks) (.str x :: l) (.str y :: m)=if x=y then Yl ks l m else some false) ∧
  (∀ (ks:List CK) (x y:Bool) (l m:List AV),Yl (.bool :: ks) (.bool x :: l) (.bool y :: m)=if x=y then Yl ks l m else some false) ∧
  (Yl [] [] []=some true) ∧
  (∀ (p:Prop) [Decidable p] (b:Bool),(if p then some b else some false)=some (decide p && b)) ∧
  (∀ (ks:List CK) (a b:List AV),ZL .eql (.struct ks) (.agg a) (.agg b)=(Yl ks a b).map .bool) ∧
  (∀ (ks:List CK) (a b:List AV),ZL .neq (.struct ks) (.agg a) (.agg b)=(Yl ks a b).map fun b=>.bool (!b)) ∧
  (∀ (a b:Bool),ZL .eql .bool (.bool a) (.bool b)=some (.bool (a == b))) ∧
  (∀ (a b:Bool),ZL .neq .bool (.bool a) (.bool b)=some (.bool (!(a == b)))) ∧
  (∀ (b:Bool),Zas .not (.bool b)=some (.bool (!b))) ∧
  (∀ (k:IntKind) (n:Int),Zas .neg (.int k n)=some (.int k (k.wrap (0 - n)))) ∧
  (∀ (hp:List Zn) (s:List UInt8),Xp hp .str (.str s)=some (.int .i64 s.length)) ∧
  (∀ (hp:List Zn) (k:Nat) (r:List (List AV)),Xp hp .slice (.lst k r)=some (.int .i64 r.length)) ∧
  (∀ (hp:List Zn) (k k':IntKind) (n:Int),Vl hp (.int k) (.int k' n)=some (.int k (k.wrap n))) ∧
  (∀ (l:List AV) (i:Nat),Du (.tup l) i=(l[i]?).map AV.ro) ∧
  (∀ (bs:Nat) (ef:Eff),Ou bs ef none=ef) ∧
  (∀ (hp0:List Zn) (b:Bool) (hp:List Zn),Zb1 false hp0 (.bool b) hp none=(.bool b,hp0,none)) ∧
  (∀ (hp0:List Zn) (k:IntKind) (n:Int) (hp:List Zn),Zb1 false hp0 (.int k n) hp none=(.int k n,hp0,none)) ∧
  (∀ (hp0:List Zn) (s:List UInt8) (hp:List Zn),Zb1 false hp0 (.str s) hp none=(.str s,hp0,none)) ∧
  (∀ (hp0:List Zn) (k:Nat) (r:List (List AV)) (hp:List Zn),Zb1 false hp0 (.lst k r) hp none=(.lst k r,hp0,none)) ∧
  (∀ (hp0:List Zn) (k:Nat) (r:List (List AV)) (hp:List Zn),Zb1 false hp0 (.own k r) hp none=(.own k r,hp0,none)) ∧
  (∀ (bs:Nat) (hp:List Zn) (k:IntKind) (n:Int),ZfM bs hp (.int k n)=some (.int k n)) ∧
  (∀ (bs:Nat) (hp:List Zn) (s:List UInt8),ZfM bs hp (.str s)=some (.str s)) ∧
  (∀ (bs:Nat) (hp:List Zn) (b:Bool),ZfM bs hp (.bool b)=some (.bool b)) ∧
  (∀ (bs:Nat) (hp:List Zn) (k:Nat) (r:List (List AV)),ZfM bs hp (.lst k r)=some (.lst k r)) ∧
  (∀ (o:Nat) (c:List AV),DX o (.ref c)=some (.ref (c.drop o))) ∧
  (∀ (o g p:Nat),DX o (.ptr g p)=some (.ptr g (p + o))) ∧
  (∀ (hp:List Zn) (c:AV) (l:List AV),Qb hp (.ref (c :: l))=some c.ro) :=
 ⟨fun x f=>rfl,@ZyJ,@ZyH,@ZyI,@Z0t,@ZsK,@ZsJ,@Zqk,@Zqj,@ZwB,@ZwA,@Z0h,@Zk8,@Zzj,@ZtI,@ZtJ,@Zv8,@ZxN,@ZxP,@ZxM,@ZxO,@ZxL,@Zyi,@ZwK,@Zzl,@Zzw,@Zzp,@Zzt,@Zzh,@Zzx,@Zzu,@Zzq,@Zzv,@Z0T,ZtY,@ZvT,@Zyv,@Zyz,@Zyw,@ZqK,@Zyu,@Zyy,@Zyx,@Z0A,@ZzR,@ZzX,@ZzU,@Z1t,@Z1y,@Z1x,@Z1w,@Z1v,@Z1u,@Z16,@Z17,@Z0K,@Z0M,@Zzf,Z0L,@Z15,@ZzT,@ZzW,@ZzS,@ZzV,@Z1a,@Z0Z,@Z04,@Z0z,@Z0c,@Z1f,@ZnH,@Zs5,@Zv1,@Zv4,@Zv2,@Zv3,@ZsD,@ZsF,@Zqb,@ZsE,@ZxG,@ZxF,@ZvK⟩
theorem BL:(!true)=false∧(!false)=true∧(∀ b:Bool,(b && true)=b)∧(∀ b:Bool,(true && b)=b)∧(∀ b:Bool,(b && false)=false)∧(∀ b:Bool,(false && b)=false)∧(∀ b:Bool,(b || true)=true)∧(∀ b:Bool,(true || b)=true)∧(∀ b:Bool,(b || false)=b)∧(∀ b:Bool,(false || b)=b)∧(∀ b:Bool,(!!b)=b):=by
 refine ⟨rfl,rfl,?_,?_,?_,?_,?_,?_,?_,?_,?_⟩ <;> intro b <;> cases b <;> rfl
theorem ifI (c:Prop)[Decidable c](k:IntKind)(a b:Int)(hp:List Zn)(e:Eff):(if c then some (AV.int k a,hp,e) else some (AV.int k b,hp,e))=some (AV.int k (if c then a else b),hp,e):=by split <;> rfl
theorem ifB (c:Prop)[Decidable c](a b:Bool)(hp:List Zn)(e:Eff):(if c then some (AV.bool a,hp,e) else some (AV.bool b,hp,e))=some (AV.bool (if c then a else b),hp,e):=by split <;> rfl
theorem ifS (c:Prop)[Decidable c](a b:List UInt8)(hp:List Zn)(e:Eff):(if c then some (AV.str a,hp,e) else some (AV.str b,hp,e))=some (AV.str (if c then a else b),hp,e):=by split <;> rfl
theorem IFJ:(∀ (c:Prop) [Decidable c] (k:IntKind) (a b:Int) (hp:List Zn) (e:Eff),(if c then some (AV.int k a,hp,e) else some (AV.int k b,hp,e))=some (AV.int k (if c then a else b),hp,e)) ∧
  (∀ (c:Prop) [Decidable c] (a b:Bool) (hp:List Zn) (e:Eff),(if c then some (AV.bool a,hp,e) else some (AV.bool b,hp,e))=some (AV.bool (if c then a else b),hp,e)) ∧
  (∀ (c:Prop) [Decidable c] (a b:List UInt8) (hp:List Zn) (e:Eff),(if c then some (AV.str a,hp,e) else some (AV.str b,hp,e))=some (AV.str (if c then a else b),hp,e)) ∧
  (∀ {α:Type} (c:Prop) [Decidable c] (a b d:α),(if c then (if c then a else b) else d)=if c then a else d)∧(∀ {α:Type} (c:Prop) [Decidable c] (a b d:α),(if c then a else (if c then b else d))=if c then a else d)∧(∀ {α:Type} (a b:α),(if true=true then a else b)=a)∧(∀ {α:Type} (a b:α),(if false=true then a else b)=b)∧(∀ {α:Type} (a b:α),(if True then a else b)=a)∧(∀ {α:Type} (a b:α),(if False then a else b)=b)∧(∀ (i:Decidable True),@decide True i=true)∧(∀ (i:Decidable False),@decide False i=false):=⟨ifI,ifB,ifS,fun c _ a b d=>by split <;> rfl,fun c _ a b d=>by split <;> rfl,fun _ _=>rfl,fun _ _=>rfl,fun _ _=>rfl,fun _ _=>rfl,fun i=>by cases i <;> simp,fun i=>by cases i <;> simp⟩
section
variable {hp:List Zn}{g:Nat}{cs:List AV}{t:TypeId}
theorem ZrW (h:hp[g]? = some (.cells cs t))(x:Zn):(hp ++ [x])[g]? = some (.cells cs t):=by rw [List.getElem?_append_left (List.getElem?_eq_some_iff.1 h).1]; exact h
end
theorem Zpz (n:Nat)(c:List AV)(h:c.length=n):Zso n (.agg c)=some c:=Zvf n c h
theorem lp {α:Type}(row:α→List AV){l q r:List α}{x:α}(h:l=q ++ x :: r)(hb:l.length≤4611686018427387) :
  decide ((q.length:Int) < (l.length:Int))=true∧(l.map row)[q.length]? = some (row x)∧IntKind.i64.wrap ((q.length:Int) + 1)=((q ++ [x]).length:Int)∧l=(q ++ [x]) ++ r∧x ∈ l:=by
 subst h
 refine ⟨?_,?_,?_,by simp,by simp⟩
 ·simp only [List.length_append,List.length_cons,decide_eq_true_eq]; omega
 ·simp
 ·have:q.length < 4611686018427387904:=by simp at hb; omega
  rw [MF _ this]; simp
def Yk {α:Type}(f:α→Int):List α→Int
 | []=>0
 | x :: r=>if decide (f x≠0)=true then f x else Yk f r
def all2 {α:Type}(f:α→α→Bool):List α→List α→Bool
 | x :: r,y :: s=>if (!(f x y))=true then false else all2 f r s
 | _,_=>true
def Ztg {α:Type}(f:α→Int):List α→Int→Int
 | [],n=>n
 | x :: r,n=>Ztg f r (if f x > n then f x else n)
theorem fuel {C:Cfg}{N d:Nat}(h:d + 1≤N):∃ m,N=m + 1∧d≤m:=⟨N - 1,by omega,by omega⟩
def sumW {α:Type}(f:α→Int):List α→Int→Int
 | [],n=>n
 | x :: r,n=>sumW f r (IntKind.i64.wrap (n + f x))
theorem max2 (a b:Int):Zxj [.int .i64 a,.int .i64 b]=some (.int .i64 (if b > a then b else a)):=rfl
theorem min2 (a b:Int):Zyq [.int .i64 a,.int .i64 b]=some (.int .i64 (if b < a then b else a)):=rfl
end Go.Proofs.YtgjcjbhhhlelnaaGreatDoor.Abs
end
