import Derived.LoopN
import Derived.Scope
import Derived.Orders
import Derived.Test.YtgjcjbhhhlelnaaGreatDoorHEv2
set_option linter.all false
section
namespace Go.Proofs.YtgjcjbhhhlelnaaGreatDoor.Abs
open Go Go.RowKit
def AV.apart:AV→Bool
 | .agg cs=>cs.all AV.noId1
 | v=>v.noId1
theorem Rep.still' {Γ:Z9}{w:World}{x:AV}{v:Value}(h:Rep Γ w x v)(hx:x.apart=true):Rep still w x v:=by
 have hf:Yn Γ w still w:=fun b o v _ h2=>⟨trivial,h2⟩
 cases h with
 | agg cells cv hs h1 hn hr =>
  simp only [AV.apart,List.all_eq_true] at hx
  exact .agg cells cv hs h1 hn fun j c hc=>(hr j c hc).noId hf (hx c (List.mem_of_getElem? hc))
 | undef=>cases hx
 | tup=>cases hx
 | arr=>cases hx
 | ptr=>cases hx
 | map=>cases hx
 | bool b=>exact .bool b
 | int k n=>exact .int k n
 | str s=>exact .str s
 | nilp=>exact .nilp
 | nilf=>exact .nilf
 | nilm=>exact .nilm
 | nili=>exact .nili
 | nils k=>exact .nils k
 | lstNil k=>exact .lstNil k
 | lstE k A cap=>exact .lstE k A cap
 | lst k rows b o cap cv hlen hk hc hr=>exact (Rep.lst k rows b o cap cv hlen hk hc hr).noId hf rfl
 | own k rows v h=>exact (Rep.own k rows v h).noId hf rfl
 | ref cells b o cv hc hr=>exact (Rep.ref cells b o cv hc hr).noId hf rfl
 | fn f fst caps fv cv hs1 hr1 hs hr=>exact (Rep.fn f fst caps fv cv hs1 hr1 hs hr).noId hf hx
theorem Zqj {P:Program}{W:World}{C:Cfg}(h:Zdk P W C){n:Nat}{f:FuncId}{avs:List AV}{v:AV}{hp:List Zl}{e:Eff}(hev:Z5 C n f avs []=some (v,hp,e))(hv:v.flat1=true){args:Array Value}
  (hs:args.size=avs.length) (hr:∀ (j:Nat) (x:AV),avs[j]? = some x→Rep still W x (args.getD j Go.undef)∧∀ k r,x≠.own k r) :
  Calls P f args W fun e W'=>∃ cv,e=.returned cv∧Below W.heap.size W W'∧Rep still W' v cv:=by
 obtain ⟨_,hw⟩:=O3 h n f avs [] _ _ _ hev still W args (ZfS W) AO hs fun j x hx=>⟨(hr j x hx).1,.of_ne (hr j x hx).2⟩
 refine hw.mono fun en W' ⟨cv,hv',Γ',r1,r2,_,r4,_⟩=>?_
 subst hv'
 exact ⟨cv,rfl,⟨r4.os,r4.tape,r4.output,r4.size,fun b hb=>(r4.keep b hb trivial).2⟩,IR r2 hv⟩
theorem Zf1 {P:Program}{W0:World}{C:Cfg}(hC:∀ W,Zdk P W C){n:Nat}{f:FuncId}{args:List AV}{v:AV}{hp:List Zl}{e:Eff}(hev:Z5 C n f args []=some (v,hp,e))(hv:v.flat1=true)
  (ha:args.all AV.apart=true) (ho:args.all (fun x=>!ZbV x)=true) {fn:Func} {c:Code} (hf:P.funcs[f]? = some fn) (hn:(fn.name == "runtime.NumGoroutine")=false) (hb:fn.body=some c):Za6 P W0 f args v:=by
 refine ⟨fun k r h=>(by subst h; cases hv),fun Γ w xs _ _ hs hx=>?_⟩
 refine Ez hf hn hb ((Zqj (hC w) hev hv hs fun j x hj=>⟨(hx j x hj).still' (List.all_eq_true.1 ha x (List.mem_of_getElem? hj)),fun k r e=>?_⟩).mono ?_)
 ·have:=List.all_eq_true.1 ho x (List.mem_of_getElem? hj)
  rw [e] at this
  cases this
 ·rintro e w' ⟨cv,rfl,hb',hr⟩
  exact ⟨cv,rfl,hb',IR hr hv⟩
def allEq {α:Type}(f:α→α→Bool):List α→List α→Bool
 | [],[]=>true
 | a :: l,b :: m=>f a b && allEq f l m
 | _,_=>false
theorem Za7 {α:Type}{f:α→α→Bool}(hf:∀ a b,f a b=true→a=b):∀ {l m:List α},allEq f l m=true→l=m
 | [],[],_=>rfl
 | a :: l,b :: m,h=>by
  simp only [allEq,Bool.and_eq_true] at h
  rw [hf a b h.1,Za7 hf h.2]
 | [],_ :: _,h=>by cases h
 | _ :: _,[],h=>by cases h
def eqA:Nat→AV→AV→Bool
 | n + 1,.str a,.str b=>a == b
 | n + 1,.int k a,.int l b=>decide (k=l) && decide (a=b)
 | n + 1,.bool a,.bool b=>a == b
 | n + 1,.lst k r,.lst l q=>k == l && allEq (allEq (eqA n)) r q
 | n + 1,.agg r,.agg q=>allEq (eqA n) r q
 | _,_,_=>false
theorem Zv1:∀ (n:Nat) (a b:AV),eqA n a b=true→a=b:=by
 intro n
 induction n with
 | zero=>intro a b h; unfold eqA at h; cases h
 | succ n ih =>
  intro a b h
  cases a <;> cases b <;> simp only [eqA,Bool.false_eq_true,Bool.and_eq_true,decide_eq_true_eq,beq_iff_eq] at h
  case bool.bool=>rw [h]
  case int.int=>rw [h.1,h.2]
  case str.str=>rw [h]
  case lst.lst=>rw [h.1,Za7 (fun x y hxy=>Za7 ih hxy) h.2]
  case agg.agg=>rw [Za7 ih h]
end Go.Proofs.YtgjcjbhhhlelnaaGreatDoor.Abs
end
section
namespace Go.Proofs.YtgjcjbhhhlelnaaGreatDoor.Abs
open Go Go.RowKit
section
variable {P:Program}{G:Nat→Option (List AV)}{call:FuncId→List AV→List Zl→Option (AV×List Zl×Eff)}{E:Entry}{s s':Zb}{Γ:Z9}{a:Act}{w:World}{hand:Nat→Bool}{draw:Bool}
theorem ZoO (hG:GOk G E.W0)(hS:Yc P E.W0 call){ops:Array Oper}{o:Oper}{g:Option (Nat×Bool)}{u:Zb}{K:Act→World→Prop}{Q:Exit→Act→World→Prop}(h2:D5 ops o.guard=some g)
  (he:Zx G call ⟨o.dst,(cOp P hand draw o).getD .bad,g⟩ s=some u) (hI:Inv E s Γ a w) (hK:∀ Γ a w,Inv E u Γ a w→K a w) :
  if Region.wanted o (yielded ops a.tmps)=true then o.wp P a w K Q∨(o.asks P a w∧LetsOut Q) else K (a.put o.dst Go.undef) w:=by
 simp only [Zx] at he
 split at he <;> first | (cases he; done) | skip
 ·rename_i hw
  rw [Q8 hI h2 hw]
  split at he <;> first | (cases he; done) | skip
  rename_i v s2 hev
  obtain rfl:=Option.some.inj he
  simp only [if_true]
  refine .inl (ZoN hG hS hI (X4 hev) hev fun Γ' cv w' i1 r1 o1=>?_)
  obtain ⟨Γ2,i2⟩:=i1.put o.dst r1 o1
  exact hK _ _ _ i2
 ·rename_i hw
  rw [Q8 hI h2 hw]
  obtain rfl:=Option.some.inj he
  simp only [Bool.false_eq_true,if_false]
  obtain ⟨Γ2,i2⟩:=hI.put o.dst (v := .undef) (cv := Go.undef) .undef (.of_ne (by simp))
  exact hK _ _ _ i2
theorem Zrq (hG:GOk G E.W0)(hS:Yc P E.W0 call)(hpure:∀ f args hp v hp' e,call f args hp=some (v,hp',e)→hp'=hp∧e=none){ops:Array Oper}{bops:List ZN}{Q:Exit→Act→World→Prop}{sF:Zb}(hc:V8 P hand draw ops ops.toList=some bops)(hd:Zej ops bops=true)(hQ:∀ Γ a w,Inv E sF Γ a w→Q .normal a w) :
  ∀ (fuel:Nat) {listed:Array Bool} {s:Zb} {Γ:Z9} {a:Act} {w:World},listed.size=ops.size→Jw ops listed→(WM ops.size listed).length=fuel→ZC G call ((WM ops.size listed).map fun i=>bops.getD i ⟨none,.bad,none⟩) s=some sF→Inv E s Γ a w→wpAny P .any ops Q fuel listed a w:=by
 simp only [Zej,Bool.and_eq_true,List.all_eq_true,List.mem_range] at hd
 obtain ⟨⟨hord,hnh⟩,hpair⟩:=hd
 obtain ⟨hlen,hget⟩:=XA hc
 intro fuel
 induction fuel with
 | zero =>
  intro listed s Γ a w hsz hcl hl h hI
  have hn:=List.eq_nil_of_length_eq_zero hl
  rw [hn] at h
  obtain rfl:=Option.some.inj (by simpa [ZC] using h:some s=some sF)
  refine ⟨List.eq_nil_iff_forall_not_mem.2 fun i hi=>?_,hQ _ _ _ hI⟩
  obtain ⟨h1,o,h2,_⟩:=mem_ready.1 hi
  have:i ∈ WM ops.size listed:=Y8.2 ⟨(Array.getElem?_eq_some_iff.1 h2).1,h1⟩
  rw [hn] at this
  cases this
 | succ fuel ih =>
  intro listed s Γ a w hsz hcl hl h hI
  have hlisted:∀ j,j < ops.size→listed.getD j true≠false→listed.getD j false=true:=fun j hj h=>by
   have hj':j < listed.size:=by omega
   simp [hj'] at h ⊢; exact h
  refine ⟨fun hr=>?_,fun i hi=>?_⟩
  ·obtain ⟨i,r,hir⟩:∃ i r,WM ops.size listed=i :: r:=by
    cases hx:WM ops.size listed with
    | nil=>rw [hx] at hl; cases hl
    | cons i r=>exact ⟨i,r,rfl⟩
   have him:=Y8.1 (show i ∈ WM ops.size listed by rw [hir]; exact List.mem_cons_self ..)
   have hoi:ops[i]? = some ops[i]:=Array.getElem?_eq_getElem him.1
   have hready:i ∈ Region.ready .any ops listed:=by
    refine mem_ready.2 ⟨him.2,_,hoi,fun e he hb=>?_⟩
    have:=hord i him.1
    rw [hoi] at this
    have hlt:=Array.all_eq_true'.1 this e he
    rw [hb] at hlt
    simp only [Bool.not_true,Bool.false_or,decide_eq_true_eq] at hlt
    refine hlisted e.on (by omega) fun hun=>?_
    have hm:=Y8.2 ⟨show e.on < ops.size by omega,hun⟩
    rw [hir] at hm
    have hs:=QJ ops.size listed
    rw [hir] at hs
    rcases List.mem_cons.1 hm with he | hm
    ·omega
    ·have:=(List.pairwise_cons.1 hs).1 _ hm
     omega
   rw [hr] at hready
   cases hready
  ·obtain ⟨hun,o,ho,hdeps⟩:=mem_ready.1 hi
   have hin:=(Array.getElem?_eq_some_iff.1 ho).1
   obtain ⟨l1,l2,hsplit⟩:=List.append_of_mem (Y8.2 ⟨hin,hun⟩)
   have hs:=QJ ops.size listed
   rw [hsplit] at hs
   obtain ⟨g,hg1,hg2⟩:=hget i o (by simpa using ho)
   have hbi:bops.getD i ⟨none,.bad,none⟩=⟨o.dst,(cOp P hand draw o).getD .bad,g⟩:=by rw [List.getD_eq_getElem?_getD,hg2]; rfl
   have hcomm:∀ x ∈ l1.map (fun i=>bops.getD i ⟨none,.bad,none⟩),ZgF x ⟨o.dst,(cOp P hand draw o).getD .bad,g⟩=true:=fun x hx=>by
    obtain ⟨j,hj,rfl⟩:=List.mem_map.1 hx
    have hji:j < i:=(List.pairwise_append.1 hs).2.2 j hj i (List.mem_cons_self ..)
    have hjm:=Y8.1 (show j ∈ WM ops.size listed by rw [hsplit]; exact List.mem_append_left _ hj)
    have:=hpair i hin j hji
    rw [Bool.or_eq_true] at this
    rcases this with h1 | h1
    ·exfalso
     have h2:=hcl.ready ho hdeps (Ey h1)
     rw [IU hjm.2] at h2
     cases h2
    ·rw [hg2] at h1
     split at h1
     ·rename_i x y hx hy
      cases hy
      rw [List.getD_eq_getElem?_getD,hx]
      exact h1
     ·cases h1
   rw [hsplit,List.map_append,List.map_cons,hbi] at h
   obtain ⟨u,hu1,hu2⟩:=bubble hpure hcomm h
   rw [← List.map_append,← Uj hsplit (by omega)] at hu2
   have hlen2:(WM ops.size (listed.setIfInBounds i true)).length=fuel:=by
    rw [Uj hsplit (by omega)]
    rw [hsplit] at hl
    simp at hl ⊢
    omega
   unfold wpOp
   simp only [ho]
   exact ZoO hG hS hg1 hu1 hI fun Γ' a' w' hI'=>ih (by simp [hsz]) (hcl.list ho hdeps) hlen2 hu2 hI'
end
def UE (P:Program)(takes:FuncId→List Nat)(res:List Nat):Code→Option Wn
 | .skip=>some .skip
 | .region _ ops false=>(V8 P (fun t=>(handed takes res ops.toList).contains t) false ops ops.toList).map (.region false)
 | .region _ ops true=>match V8 P (fun t=>(handed takes res ops.toList).contains t) false ops ops.toList with
  | some bops=>if Zej ops bops then some (.region true bops) else if ZbC ops bops then some (.regionB bops) else some .bad
  | _=>none
 | .seq a b=>match UE P takes res a,UE P takes res b with
  | some a,some b=>some (.seq a b)
  | _,_=>none
 | .cond c a b=>match ZP P 0 c,UE P takes res a,UE P takes res b with
  | some c,some a,some b=>some (.cond c a b)
  | _,_,_=>none
 | .block id c=>(UE P takes res c).map (.block id)
 | .loop c=>(UE P takes res c).map .loop
 | .scope c=>(UE P takes res c).map .scope
 | .exit id=>some (.exit id)
 | .ret=>some .ret
 | .label _=>some .skip
 | _=>some .bad
def Zxy (P:Program)(takes:FuncId→List Nat)(fn:Func):Option AFn :=
 match fn.body,ZgA P fn.results.toList with
 | some c,some rs=>(UE P takes (ZfQ fn.results.toList) c).map fun ac=>⟨fn.ntmps,rs,ac,!(takes LQ).isEmpty⟩
 | _,_=>none
section
variable (G:Nat→Option (List AV))(call:FuncId→List AV→List Zl→Option (AV×List Zl×Eff))(L:Nat)
def Yi:Wn→Zb→Option (Ii×Zb)
 | .skip,s=>some (.normal,s)
 | .region false ops,s=>(ZC G call ops s).map (.normal,·)
 | .region true ops,s=>(ZC G (UT call) ops s).map (.normal,·)
 | .regionB ops,s=>(ZC G (Yr call) ops s).map (.normal,·)
 | .seq a b,s=>match Yi a s with
  | some (.normal,s')=>Yi b s'
  | r=>r
 | .cond c a b,s=>match opnd G s.sl c with
  | some (.bool true)=>Yi a s
  | some (.bool false)=>Yi b s
  | _=>none
 | .block id c,s=>match Yi c s with
  | some (.exit i,s')=>if i=id then some (.normal,s') else some (.exit i,s')
  | r=>r
 | .loop c,s=>iter (Yi c) L s
 | .scope c,s=>Yi c s
 | .exit id,s=>some (.exit id,s)
 | .ret,s=>some (.ret,s)
 | .bad,_=>none
end
section
variable {P:Program}{G:Nat→Option (List AV)}{call:FuncId→List AV→List Zl→Option (AV×List Zl×Eff)}{E:Entry}
theorem Zqq (hm:P.follows .mixedOrders=true)(hG:GOk G E.W0)(hS:Yc P E.W0 call){takes:FuncId→List Nat}{res:List Nat}(L:Nat):∀ {c:Code} {ac:Wn} {s:Zb} {r:Ii×Zb} {Γ:Z9} {a:Act} {w:World},
  UE P takes res c=some ac→Yi G call L ac s=some r→Inv E s Γ a w→c.wp P (Ends E r) a w:=by
 intro c
 induction c with
 | skip =>
  intro ac s r Γ a w hc h hI
  cases hc; cases h
  exact Go.wp_skip (.normal hI)
 | region id ops draw =>
  intro ac s r Γ a w hc h hI
  cases draw with
  | false =>
   simp only [UE] at hc
   obtain ⟨aops,h1,rfl⟩:=Option.map_eq_some_iff.1 hc
   simp only [Yi] at h
   obtain ⟨s1,h2,rfl⟩:=Option.map_eq_some_iff.1 h
   refine wp_region ?_
   rw [List.range_eq_range']
   have:=Zlg hG hS (Q := Ends E (.normal,s1)) 0 (l := ops.toList) (by simp) h1 h2 hI fun Γ a w h=>.normal h
   simpa using this
  | true =>
   simp only [UE] at hc
   split at hc <;> first | (cases hc; done) | skip
   rename_i bops h1'
   split at hc
   ·rename_i hd
    cases hc
    simp only [Yi] at h
    obtain ⟨s1,h2,rfl⟩:=Option.map_eq_some_iff.1 h
    refine wp_region_any hm ?_
    have hb:Behind w { w with drawn:=w.drawn + 1 }:=⟨rfl,rfl,rfl,Nat.le_refl _,fun _ _=>rfl⟩
    have hr:WM ops.size (Array.replicate ops.size false)=List.range ops.size:=by
     unfold WM
     refine List.filter_eq_self.2 fun i hi=>?_
     simp only [List.mem_range] at hi
     simp [hi]
    have hmap:(List.range ops.size).map (fun i=>bops.getD i ⟨none,.bad,none⟩)=bops:=by
     have hl:ops.size=bops.length:=by simpa using (XA h1').1
     rw [hl]
     refine List.ext_getElem? fun i=>?_
     rw [List.getElem?_map]
     by_cases hi:i < bops.length
     ·rw [List.getElem?_range hi,Option.map_some,List.getD_eq_getElem?_getD,List.getElem?_eq_getElem hi]; rfl
     ·rw [List.getElem?_eq_none (by simpa using hi),List.getElem?_eq_none (by omega)]; rfl
    exact Zrq hG (Zb8 hS) Zn3 (Q := Ends E (.normal,s1)) h1' hd (fun Γ a w h=>.normal h) ops.size (by simp) (.start ops _) (by rw [hr]; simp) (by rw [hr,hmap]; exact h2) (hb.inv hI)
   ·split at hc
    ·rename_i hd
     cases hc
     simp only [Yi] at h
     obtain ⟨s1,h2,rfl⟩:=Option.map_eq_some_iff.1 h
     refine wp_region_any hm ?_
     have hb:Behind w { w with drawn:=w.drawn + 1 }:=⟨rfl,rfl,rfl,Nat.le_refl _,fun _ _=>rfl⟩
     exact Zfy hG (Zg6 hS) (Q := Ends E (.normal,s1)) h1' hd (fun Γ a w h=>.normal h) h2 (hb.inv hI)
    ·cases hc; cases h
 | seq x y ihx ihy =>
  intro ac s r Γ a w hc h hI
  simp only [UE] at hc
  split at hc <;> first | (cases hc; done) | skip
  rename_i ax ay hx hy
  obtain rfl:=Option.some.inj hc
  simp only [Yi] at h
  refine Go.wp_seq ?_
  split at h
  ·rename_i s1 h1
   refine Go.wp_mono (ihx hx h1 hI) fun e a' w' he=>?_
   obtain ⟨k1,Γ',i1⟩:=he
   cases e <;> first | exact k1.elim | skip
   exact ihy hy h i1
  ·rename_i hne
   refine Go.wp_mono (ihx hx h hI) fun e a' w' he=>?_
   cases e <;> first | exact he | skip
   obtain ⟨k1,_⟩:=he
   obtain ⟨q,s1⟩:=r
   cases q <;> first | exact k1.elim | skip
   exact absurd h (hne s1)
 | cond c x y ihx ihy =>
  intro ac s r Γ a w hc h hI
  simp only [UE] at hc
  split at hc <;> first | (cases hc; done) | skip
  rename_i c' ax ay hcc hx hy
  obtain rfl:=Option.some.inj hc
  simp only [Yi] at h
  split at h <;> first | (cases h; done) | skip
  ·rename_i hb
   have k:=(Zp hG hI hcc hb).1
   generalize hq:a.eval c=q at k
   cases k
   exact Go.wp_cond_true hq (ihx hx h hI)
  ·rename_i hb
   have k:=(Zp hG hI hcc hb).1
   generalize hq:a.eval c=q at k
   cases k
   exact Go.wp_cond_false hq (ihy hy h hI)
 | block id c ih =>
  intro ac s r Γ a w hc h hI
  simp only [UE] at hc
  obtain ⟨ax,hx,rfl⟩:=Option.map_eq_some_iff.1 hc
  simp only [Yi] at h
  refine Go.wp_block ?_
  split at h
  ·rename_i i s1 h1
   split at h
   ·rename_i hi
    obtain rfl:=Option.some.inj h
    refine Go.wp_mono (ih hx h1 hI) fun e a' w' he=>?_
    obtain ⟨k1,Γ',i1⟩:=he
    cases e <;> first | exact k1.elim | skip
    rename_i j
    simp only [Exit.inBlock]
    rw [if_pos (by rw [← hi]; exact (show i=j from k1).symm)]
    exact .normal i1
   ·rename_i hi
    obtain rfl:=Option.some.inj h
    refine Go.wp_mono (ih hx h1 hI) fun e a' w' he=>?_
    obtain ⟨k1,Γ',i1⟩:=he
    cases e <;> first | exact k1.elim | skip
    rename_i j
    simp only [Exit.inBlock]
    rw [if_neg (by rw [← (show i=j from k1)]; exact hi)]
    exact ⟨k1,Γ',i1⟩
  ·rename_i hne
   refine Go.wp_mono (ih hx h hI) fun e a' w' he=>?_
   cases e <;> first | exact he | skip
   obtain ⟨k1,_⟩:=he
   obtain ⟨q,s1⟩:=r
   cases q <;> first | exact k1.elim | skip
   exact absurd h (hne _ s1)
 | loop c ih =>
  intro ac s r Γ a w hc h hI
  simp only [UE] at hc
  obtain ⟨ax,hx,rfl⟩:=Option.map_eq_some_iff.1 hc
  simp only [Yi] at h
  exact wp_loop_rounds L (ZiJ (fun h1 h2=>ih hx h1 h2) L h hI)
 | scope c ih =>
  intro ac s r Γ a w hc h hI
  simp only [UE] at hc
  obtain ⟨ax,hx,rfl⟩:=Option.map_eq_some_iff.1 hc
  simp only [Yi] at h
  refine Go.wp_scope_straight (Go.wp_mono (ih hx h hI) fun e a' w' he=>?_)
  cases e <;> first | exact he | skip
  obtain ⟨k1,_⟩:=he
  obtain ⟨q,s1⟩:=r
  cases q <;> exact k1.elim
 | exit id =>
  intro ac s r Γ a w hc h hI
  cases hc; cases h
  exact Go.wp_exit ⟨rfl,Γ,hI⟩
 | ret =>
  intro ac s r Γ a w hc h hI
  cases hc; cases h
  exact Go.wp_ret ⟨trivial,Γ,hI⟩
 | label l =>
  intro ac s r Γ a w hc h hI
  cases hc; cases h
  exact Go.wp_label (.normal hI)
 | _ =>
  intro ac s r Γ a w hc h
  cases hc; cases h
end
section
variable {G:Nat→Option (List AV)}{call:FuncId→List AV→List Zl→Option (AV×List Zl×Eff)}
theorem ZgJ (L:Nat):∀ {c:Wn} {s:Zb} {r:Ii×Zb},Yi G call L c s=some r→r.2.bs=s.bs:=by
 intro c
 induction c with
 | skip=>intro s r h; cases h; rfl
 | region draw ops =>
  intro s r h
  cases draw with
  | false =>
   simp only [Yi] at h
   obtain ⟨s1,h1,rfl⟩:=Option.map_eq_some_iff.1 h
   exact J5 h1
  | true =>
   simp only [Yi] at h
   obtain ⟨s1,h1,rfl⟩:=Option.map_eq_some_iff.1 h
   exact J5 h1
 | regionB ops =>
  intro s r h
  simp only [Yi] at h
  obtain ⟨s1,h1,rfl⟩:=Option.map_eq_some_iff.1 h
  exact J5 h1
 | seq x y ihx ihy =>
  intro s r h
  simp only [Yi] at h
  split at h
  ·rename_i s1 h1
   rw [ihy h]; exact ihx h1
  ·exact ihx h
 | cond c x y ihx ihy =>
  intro s r h
  simp only [Yi] at h
  split at h <;> first | (cases h; done) | skip
  ·exact ihx h
  ·exact ihy h
 | block id c ih =>
  intro s r h
  simp only [Yi] at h
  split at h
  ·rename_i i s1 h1
   have:=ih h1
   split at h <;> (obtain rfl:=Option.some.inj h; exact this)
  ·exact ih h
 | loop c ih =>
  intro s r h
  simp only [Yi] at h
  exact ZiI ih L h
 | scope c ih=>intro s r h; simp only [Yi] at h; exact ih h
 | exit id=>intro s r h; cases h; rfl
 | ret=>intro s r h; cases h; rfl
 | bad=>intro s r h; cases h
end
def ZbI (C:Cfg)(S:List Nat)(n:Nat)(fn:AFn)(args:List AV)(hp:List Zl):Option (AV×List Zl×Eff) :=
 match Yi C.G (ZiO S (Z5 C n)) C.L fn.code ⟨args ++ List.replicate (fn.ntmps - args.length) .undef,hp,none,hp.length⟩ with
 | some (.exit _,_)=>none
 | some (_,s)=>match QP s fn.results with
  | some v=>some (if fn.keep then (v.nm,s.hp,s.ef) else finish v s hp)
  | none=>none
 | none=>none
theorem ZlY {P:Program}{W0:World}{C:Cfg}{S:List Nat}(h:Zdk P W0 C)(n:Nat){f:FuncId}{fn:Func}{takes:FuncId→List Nat}{af:AFn}(hf:P.funcs[f]? = some fn)(hname:(fn.name == "runtime.NumGoroutine")=false)(hcf:Zxy P takes fn=some af) :
  Yc P W0 fun g args hp=>if g=f then ZbI C S n af args hp else none:=by
 intro g args hp v hp' e hc Γ w xs hr ht hs hx
 replace hc:(if g=f then ZbI C S n af args hp else none)=some (v,hp',e):=hc
 split at hc
 case isFalse=>cases hc
 rename_i hgf
 subst hgf
 have ih:=ZqU S (O3 h n)
 unfold ZbI at hc
 unfold Zxy at hcf
 split at hcf <;> first | (cases hcf; done) | skip
 rename_i c rs hb hrs
 obtain ⟨ac,hac,rfl⟩:=Option.map_eq_some_iff.1 hcf
 split at hc
 ·cases hc
 ·rename_i x s hne hev
  split at hc <;> first | (cases hc; done) | skip
  rename_i u hu
  have hfin:=Option.some.inj hc
  refine ⟨NY hf hname hb xs w,?_⟩
  have hbs:s.bs=hp.length:=ZgJ C.L hev
  have hI:Inv ⟨W0,Γ,w⟩ ⟨args ++ List.replicate (fn.ntmps - args.length) .undef,hp,none,hp.length⟩ Γ { tmps := xs ++ Array.replicate (fn.ntmps - xs.size) Go.undef,defers := [] } w:=by
   have get:∀ (t:Nat) (y:AV),(args ++ List.replicate (fn.ntmps - args.length) AV.undef)[t]? = some y→(args[t]? = some y∧(xs ++ Array.replicate (fn.ntmps - xs.size) Go.undef).getD t Go.undef=xs.getD t Go.undef)∨(y=.undef∧(xs ++ Array.replicate (fn.ntmps - xs.size) Go.undef).getD t Go.undef=Go.undef):=by
    intro t y hy
    rw [List.getElem?_append] at hy
    split at hy
    ·rename_i hlt
     refine .inl ⟨hy,?_⟩
     rw [Array.getD_eq_getD_getElem?,Array.getD_eq_getD_getElem?,Array.getElem?_append_left (by omega)]
    ·rename_i hge
     have hm:=List.mem_of_getElem? hy
     have:=List.eq_of_mem_replicate hm
     refine .inr ⟨this,?_⟩
     have hlt:=Zq hy
     simp only [List.length_replicate] at hlt
     rw [Array.getD_eq_getD_getElem?,Array.getElem?_append_right (by omega),Array.getElem?_replicate,if_pos (by omega)]
     rfl
   refine ⟨rfl,⟨by simp [hs],fun t y hy=>?_,fun t y hy=>?_⟩,hr,.refl _ _ _,fun b g hb=>hr.lt b g hb,fun b m g i hb=>ht.cell b m g i hb,Nat.le_refl _,fun _ _ hb _=>hb⟩
   ·rcases get t y hy with ⟨h1,h2⟩ | ⟨rfl,h2⟩
    ·rw [h2]; exact (hx t y h1).1
    ·rw [h2]; exact .undef
   ·rcases get t y hy with ⟨h1,h2⟩ | ⟨rfl,h2⟩
    ·rw [h2]; exact (hx t y h1).2
    ·exact .of_ne (by simp)
  have hw:=Zqq h.mixed h.globals ih C.L hac hev hI
  refine calls_of_wp hf hb (Go.wp_mono hw fun en a' w' he=>?_)
  obtain ⟨k1,Γ',i1⟩:=he
  have fin:a'.defers=[]∧∃ cv,(results fn a'.tmps).run P w'=.ok cv w'∧∃ v',Ending.returned cv=.returned v'∧∃ Γ',RW W0 Γ' w' hp'∧Rep Γ' w' v v'∧OwnAt Γ' w' .res v v'∧Frame Γ w Γ' w' e∧hp.length≤hp'.length∧∀ b g,Γ' b=.own g→g < hp.length→Γ b=.own g:=by
   obtain ⟨cv,Γ2,q1,q2,q3,q4,q5,q6⟩:=Zs7 i1 hrs hu
   obtain ⟨Γ3,p1,p2,p3,p4,p5⟩:=ZbO hr hbs (by rw [hbs]; have:=i1.le; simpa [hbs] using this) (fun b m g i hb=>by rw [hbs]; exact ht.cell b m g i hb) q2 q3 q6 q4 q5 hfin
   exact ⟨i1.defers,cv,q1,cv,rfl,Γ3,p1,p2,p3,p4,p5⟩
  cases x with
  | exit i=>exact (hne i rfl).elim
  | normal=>cases en <;> first | exact k1.elim | exact fin
  | ret=>cases en <;> first | exact k1.elim | exact fin
 ·cases hc
theorem Zxt {P:Program}{W:World}{C:Cfg}{S:List Nat}(h:Zdk P W C){n:Nat}{f:FuncId}{fn:Func}{takes:FuncId→List Nat}{af:AFn}(hf:P.funcs[f]? = some fn)(hname:(fn.name == "runtime.NumGoroutine")=false)(hcf:Zxy P takes fn=some af)
  {hp:List Zl} {e:Eff} (hev:ZbI C S n af [] []=some (.bool true,hp,e)):Calls P f #[] W fun e W'=>e=.returned (.bool true)∧Below W.heap.size W W':=by
 obtain ⟨_,hw⟩:=ZlY h n hf hname hcf f [] [] (.bool true) hp e (by simpa using hev) still W #[] (ZfS W) AO rfl fun j x hx=>by simp at hx
 refine hw.mono fun en W' ⟨cv,hv,Γ',r1,r2,_,r4,_⟩=>?_
 subst hv
 cases r2
 exact ⟨rfl,r4.os,r4.tape,r4.output,r4.size,fun b hb=>(r4.keep b hb trivial).2⟩
end Go.Proofs.YtgjcjbhhhlelnaaGreatDoor.Abs
end
section
namespace Go.Proofs.YtgjcjbhhhlelnaaGreatDoor.Abs
open Go
theorem EV :
  (∀ {α β:Type} (x:α) (f:α→β),Option.map f (some x)=some (f x)) ∧
  (∀ {α:Type} (v:α) (k:α→KR),Xt (some v) k=k v) ∧
  (∀ {α β:Type} (a:α) (b:β) (k:α→β→KR),Zhi (some (a,b)) k=k a b) ∧
  (∀ {α β γ:Type} (a:α) (b:β) (c:γ) (k:α→β→γ→KR),MX (some (a,b,c)) k=k a b c) ∧
  (∀ (b:Bool) (x y:KR),ifK (.bool b) x y=if b=true then x else y) ∧
  (∀ (x:KR) (hp:List Zl) (ef:Eff) (k:AV→List Zl→Eff→KR),D9 (some true) x hp ef k=MX x k) ∧
  (∀ (x:KR) (hp:List Zl) (ef:Eff) (k:AV→List Zl→Eff→KR),D9 (some false) x hp ef k=k .undef hp ef) ∧
  (∀ (b:Bool),D8 true (.bool b)=some b) ∧
  (∀ (b:Bool),D8 false (.bool b)=some (!b)) ∧
  (∀ (a b:AV),Zd2 (.bool true) a b=some a) ∧
  (∀ (a b:AV),Zd2 (.bool false) a b=some b) ∧
  (∀ (v:AV),gif true v=v) ∧
  (∀ (b:Bool) (v:AV) (hp:List Zl) (ef:Eff) (k:AV→List Zl→Eff→KR),D9 (some b) (some (v,hp,ef)) hp ef k=k (gif b v) hp ef) ∧
  (∀ (b:Bool) (v:AV),AV.ro (gif b v)=gif b (AV.ro v)) ∧
  (∀ (b c:Bool),Zd2 (.bool b) (gif b (.bool c)) (.bool false)=some (.bool (b && c))) ∧
  (∀ (b c:Bool),Zd2 (.bool b) (.bool true) (gif (!b) (.bool c))=some (.bool (b || c))) ∧
  (∀ (b c:Bool) (hp:List Zl) (ef:Eff) (k:AV→List Zl→Eff→KR),Zer (.bool b) true (some (.bool c,hp,ef)) (some (.bool false)) hp ef k=k (.bool (b && c)) hp ef) ∧
  (∀ (b c:Bool) (hp:List Zl) (ef:Eff) (k:AV→List Zl→Eff→KR),Zer (.bool b) false (some (.bool c,hp,ef)) (some (.bool true)) hp ef k=k (.bool (b || c)) hp ef) ∧
  (∀ (x:KR) (o:Option AV) (hp:List Zl) (ef:Eff) (k:AV→List Zl→Eff→KR),Zer (.bool true) true x o hp ef k=MX x k) ∧
  (∀ (x:KR) (v:AV) (hp:List Zl) (ef:Eff) (k:AV→List Zl→Eff→KR),Zer (.bool false) true x (some v) hp ef k=k v hp ef) ∧
  (∀ (x:KR) (v:AV) (hp:List Zl) (ef:Eff) (k:AV→List Zl→Eff→KR),Zer (.bool true) false x (some v) hp ef k=k v hp ef) ∧
  (∀ (x:KR) (o:Option AV) (hp:List Zl) (ef:Eff) (k:AV→List Zl→Eff→KR),Zer (.bool false) false x o hp ef k=MX x k) ∧
  (∀ {α:Type} (x:α) (k:α→KR),ZuX x k=k x) ∧
  (∀ (b:Bool),AV.ro (.bool b)=.bool b) ∧
  (∀ (k:IntKind) (n:Int),AV.ro (.int k n)=.int k n) ∧
  (∀ (s:List UInt8),AV.ro (.str s)=.str s) ∧
  (∀ (k:Nat) (r:List (List AV)),AV.ro (.lst k r)=.lst k r) ∧
  (∀ (k:Nat) (r:List (List AV)),AV.ro (.own k r)=.lst k r) ∧
  (∀ (c:List AV),AV.ro (.agg c)=.agg c) ∧
  (∀ (c:List AV),AV.ro (.tup c)=.tup c) ∧
  (∀ (g o:Nat),AV.ro (.ptr g o)=.ptr g o) ∧
  (∀ (g:Nat),AV.ro (.map g)=.map g) ∧
  (∀ (c:List AV),AV.ro (.ref c)=.ref c) ∧
  (∀ (f:FuncId) (a c:List AV),AV.ro (.fn f a c)=.fn f a c) ∧
  (AV.ro .undef=.undef) ∧
  (∀ (b:Bool),AV.nm (.bool b)=.bool b) ∧
  (∀ (k:IntKind) (n:Int),AV.nm (.int k n)=.int k n) ∧
  (∀ (s:List UInt8),AV.nm (.str s)=.str s) ∧
  (∀ (k:Nat) (r:List (List AV)),AV.nm (.lst k r)=.lst k r) ∧
  (∀ (k:Nat) (r:List (List AV)),AV.nm (.own k r)=.lst k r) ∧
  (∀ (c:List AV),AV.nm (.agg c)=.agg (c.map AV.ro)) ∧
  (∀ (g o:Nat),AV.nm (.ptr g o)=.ptr g o) ∧
  (∀ (g:Nat),AV.nm (.map g)=.map g) ∧
  (∀ (f:FuncId) (a c:List AV),AV.nm (.fn f a c)=.fn f a c) ∧
  (∀ (k:IntKind) (a b:Int),ZI .add .prim (.int k a) (.int k b)=some (.int k (k.wrap (a + b)))) ∧
  (∀ (k:IntKind) (a b:Int),ZI .sub .prim (.int k a) (.int k b)=some (.int k (k.wrap (a - b)))) ∧
  (∀ (k:IntKind) (a b:Int),ZI .mul .prim (.int k a) (.int k b)=some (.int k (k.wrap (a * b)))) ∧
  (∀ (k:IntKind) (a b:Int),ZI .eql .prim (.int k a) (.int k b)=some (.bool (decide (a=b)))) ∧
  (∀ (k:IntKind) (a b:Int),ZI .neq .prim (.int k a) (.int k b)=some (.bool (decide (a≠b)))) ∧
  (∀ (k:IntKind) (a b:Int),ZI .lss .prim (.int k a) (.int k b)=some (.bool (decide (a < b)))) ∧
  (∀ (k:IntKind) (a b:Int),ZI .leq .prim (.int k a) (.int k b)=some (.bool (decide (a≤b)))) ∧
  (∀ (k:IntKind) (a b:Int),ZI .gtr .prim (.int k a) (.int k b)=some (.bool (decide (b < a)))) ∧
  (∀ (k:IntKind) (a b:Int),ZI .geq .prim (.int k a) (.int k b)=some (.bool (decide (b≤a)))) ∧
  (∀ (a b:List UInt8),ZI .eql .prim (.str a) (.str b)=some (.bool (decide (a=b)))) ∧
  (∀ (a b:List UInt8),ZI .neq .prim (.str a) (.str b)=some (.bool (decide (a≠b)))) ∧
  (∀ (ks:List CK) (k:IntKind) (x y:Int) (l m:List AV),Yk (.int :: ks) (.int k x :: l) (.int k y :: m)=if x=y then Yk ks l m else some false) ∧
  (∀ (ks:List CK) (x y:List UInt8) (l m:List AV),Yk (.str :: ks) (.str x :: l) (.str y :: m)=if x=y then Yk ks l m else some false) ∧
  (∀ (ks:List CK) (x y:Bool) (l m:List AV),Yk (.bool :: ks) (.bool x :: l) (.bool y :: m)=if x=y then Yk ks l m else some false) ∧
  (Yk [] [] []=some true) ∧
  (∀ (p:Prop) [Decidable p] (b:Bool),(if p then some b else some false)=some (decide p && b)) ∧
  (∀ (ks:List CK) (a b:List AV),ZI .eql (.struct ks) (.agg a) (.agg b)=(Yk ks a b).map .bool) ∧
  (∀ (ks:List CK) (a b:List AV),ZI .neq (.struct ks) (.agg a) (.agg b)=(Yk ks a b).map fun b=>.bool (!b)) ∧
  (∀ (a b:Bool),ZI .eql .bool (.bool a) (.bool b)=some (.bool (a == b))) ∧
  (∀ (a b:Bool),ZI .neq .bool (.bool a) (.bool b)=some (.bool (!(a == b)))) ∧
  (∀ (b:Bool),Za4 .not (.bool b)=some (.bool (!b))) ∧
  (∀ (k:IntKind) (n:Int),Za4 .neg (.int k n)=some (.int k (k.wrap (0 - n)))) ∧
  (∀ (hp:List Zl) (s:List UInt8),Xk hp .str (.str s)=some (.int .i64 s.length)) ∧
  (∀ (hp:List Zl) (k:Nat) (r:List (List AV)),Xk hp .slice (.lst k r)=some (.int .i64 r.length)) ∧
  (∀ (hp:List Zl) (k k':IntKind) (n:Int),XP hp (.int k) (.int k' n)=some (.int k (k.wrap n))) ∧
  (∀ (l:List AV) (i:Nat),Be (.tup l) i=(l[i]?).map AV.ro) ∧
  (∀ (bs:Nat) (ef:Eff),Dz bs ef none=ef) ∧
  (∀ (hp0:List Zl) (b:Bool) (hp:List Zl),Zal false hp0 (.bool b) hp none=(.bool b,hp0,none)) ∧
  (∀ (hp0:List Zl) (k:IntKind) (n:Int) (hp:List Zl),Zal false hp0 (.int k n) hp none=(.int k n,hp0,none)) ∧
  (∀ (hp0:List Zl) (s:List UInt8) (hp:List Zl),Zal false hp0 (.str s) hp none=(.str s,hp0,none)) ∧
  (∀ (hp0:List Zl) (k:Nat) (r:List (List AV)) (hp:List Zl),Zal false hp0 (.lst k r) hp none=(.lst k r,hp0,none)) ∧
  (∀ (hp0:List Zl) (k:Nat) (r:List (List AV)) (hp:List Zl),Zal false hp0 (.own k r) hp none=(.own k r,hp0,none)) ∧
  (∀ (bs:Nat) (hp:List Zl) (k:IntKind) (n:Int),LM bs hp (.int k n)=some (.int k n)) ∧
  (∀ (bs:Nat) (hp:List Zl) (s:List UInt8),LM bs hp (.str s)=some (.str s)) ∧
  (∀ (bs:Nat) (hp:List Zl) (b:Bool),LM bs hp (.bool b)=some (.bool b)) ∧
  (∀ (bs:Nat) (hp:List Zl) (k:Nat) (r:List (List AV)),LM bs hp (.lst k r)=some (.lst k r)) ∧
  (∀ (o:Nat) (c:List AV),NZ o (.ref c)=some (.ref (c.drop o))) ∧
  (∀ (o g p:Nat),NZ o (.ptr g p)=some (.ptr g (p + o))) ∧
  (∀ (hp:List Zl) (c:AV) (l:List AV),QH hp (.ref (c :: l))=some c.ro) :=
 ⟨fun x f=>rfl,@Zw9,@Zw7,@Zw8,@Zyk,@Zq9,@Zq8,@Zod,@Zoc,@Zu0,@Zuz,@ZxY,@ZiC,@ZwZ,@Zr4,@Zr5,@Ztx,@ZvC,@ZvE,@ZvB,@ZvD,@ZvA,@ZvX,@Zu9,@Zxb,@Zxm,@Zxf,@Zxj,@ZwX,@Zxn,@Zxk,@Zxg,@Zxl,@ZyJ,ZrK,@ZtH,@Zwl,@Zwp,@Zwm,@ZoA,@Zwk,@Zwo,@Zwn,@Zy0,@ZxI,@ZxO,@ZxL,@Zzi,@Zzn,@Zzm,@Zzl,@Zzk,@Zzj,@Zzv,@Zzw,@ZyA,@ZyC,@ZwV,ZyB,@Zzu,@ZxK,@ZxN,@ZxJ,@ZxM,@ZyQ,@ZyP,@Zyv,@Zyq,@ZxT,@ZyU,@ZlC,@Zqv,@Ztp,@Zts,@Ztq,@Ztr,@Zq3,@Zq5,@ZnV,@Zq4,@Zv5,@Zv4,@Zt9⟩
theorem BL:(!true)=false∧(!false)=true∧(∀ b:Bool,(b && true)=b)∧(∀ b:Bool,(true && b)=b)∧(∀ b:Bool,(b && false)=false)∧(∀ b:Bool,(false && b)=false)∧(∀ b:Bool,(b || true)=true)∧(∀ b:Bool,(true || b)=true)∧(∀ b:Bool,(b || false)=b)∧(∀ b:Bool,(false || b)=b)∧(∀ b:Bool,(!!b)=b):=by
 refine ⟨rfl,rfl,?_,?_,?_,?_,?_,?_,?_,?_,?_⟩ <;> intro b <;> cases b <;> rfl
theorem ifI (c:Prop)[Decidable c](k:IntKind)(a b:Int)(hp:List Zl)(e:Eff):(if c then some (AV.int k a,hp,e) else some (AV.int k b,hp,e))=some (AV.int k (if c then a else b),hp,e):=by split <;> rfl
theorem ifB (c:Prop)[Decidable c](a b:Bool)(hp:List Zl)(e:Eff):(if c then some (AV.bool a,hp,e) else some (AV.bool b,hp,e))=some (AV.bool (if c then a else b),hp,e):=by split <;> rfl
theorem ifS (c:Prop)[Decidable c](a b:List UInt8)(hp:List Zl)(e:Eff):(if c then some (AV.str a,hp,e) else some (AV.str b,hp,e))=some (AV.str (if c then a else b),hp,e):=by split <;> rfl
theorem IFJ:(∀ (c:Prop) [Decidable c] (k:IntKind) (a b:Int) (hp:List Zl) (e:Eff),(if c then some (AV.int k a,hp,e) else some (AV.int k b,hp,e))=some (AV.int k (if c then a else b),hp,e)) ∧
  (∀ (c:Prop) [Decidable c] (a b:Bool) (hp:List Zl) (e:Eff),(if c then some (AV.bool a,hp,e) else some (AV.bool b,hp,e))=some (AV.bool (if c then a else b),hp,e)) ∧
  (∀ (c:Prop) [Decidable c] (a b:List UInt8) (hp:List Zl) (e:Eff),(if c then some (AV.str a,hp,e) else some (AV.str b,hp,e))=some (AV.str (if c then a else b),hp,e)) ∧
  (∀ {α:Type} (c:Prop) [Decidable c] (a b d:α),(if c then (if c then a else b) else d)=if c then a else d)∧(∀ {α:Type} (c:Prop) [Decidable c] (a b d:α),(if c then a else (if c then b else d))=if c then a else d)∧(∀ {α:Type} (a b:α),(if true=true then a else b)=a)∧(∀ {α:Type} (a b:α),(if false=true then a else b)=b)∧(∀ {α:Type} (a b:α),(if True then a else b)=a)∧(∀ {α:Type} (a b:α),(if False then a else b)=b)∧(∀ (i:Decidable True),@decide True i=true)∧(∀ (i:Decidable False),@decide False i=false):=⟨ifI,ifB,ifS,fun c _ a b d=>by split <;> rfl,fun c _ a b d=>by split <;> rfl,fun _ _=>rfl,fun _ _=>rfl,fun _ _=>rfl,fun _ _=>rfl,fun i=>by cases i <;> simp,fun i=>by cases i <;> simp⟩
section
variable {hp:List Zl}{g:Nat}{cs:List AV}{t:TypeId}
theorem ZpK (h:hp[g]? = some (.cells cs t))(x:Zl):(hp ++ [x])[g]? = some (.cells cs t):=by rw [List.getElem?_append_left (List.getElem?_eq_some_iff.1 h).1]; exact h
end
theorem ZsW (n:Nat)(c:List AV)(h:c.length=n):ZsU n (.agg c)=some c:=ZsV n c h
theorem lp {α:Type}(row:α→List AV){l q r:List α}{x:α}(h:l=q ++ x :: r)(hb:l.length≤4611686018427387) :
  decide ((q.length:Int) < (l.length:Int))=true∧(l.map row)[q.length]? = some (row x)∧IntKind.i64.wrap ((q.length:Int) + 1)=((q ++ [x]).length:Int)∧l=(q ++ [x]) ++ r∧x ∈ l:=by
 subst h
 refine ⟨?_,?_,?_,by simp,by simp⟩
 ·simp only [List.length_append,List.length_cons,decide_eq_true_eq]; omega
 ·simp
 ·have:q.length < 4611686018427387904:=by simp at hb; omega
  rw [E8 _ this]; simp
def Yj {α:Type}(f:α→Int):List α→Int
 | []=>0
 | x :: r=>if decide (f x≠0)=true then f x else Yj f r
def all2 {α:Type}(f:α→α→Bool):List α→List α→Bool
 | x :: r,y :: s=>if (!(f x y))=true then false else all2 f r s
 | _,_=>true
def ZqT {α:Type}(f:α→Int):List α→Int→Int
 | [],n=>n
 | x :: r,n=>ZqT f r (if f x > n then f x else n)
theorem fuel {C:Cfg}{N d:Nat}(h:d + 1≤N):∃ m,N=m + 1∧d≤m:=⟨N - 1,by omega,by omega⟩
def sumW {α:Type}(f:α→Int):List α→Int→Int
 | [],n=>n
 | x :: r,n=>sumW f r (IntKind.i64.wrap (n + f x))
theorem max2 (a b:Int):Zwf [.int .i64 a,.int .i64 b]=some (.int .i64 (if b > a then b else a)):=rfl
theorem min2 (a b:Int):Zwg [.int .i64 a,.int .i64 b]=some (.int .i64 (if b < a then b else a)):=rfl
def Ztn (hp0:List Zl)(x y:Option AV)(d:AV×List Zl×Eff):AV×List Zl×Eff :=
 match x,y with
 | some a,some b=>(.tup [a,b],hp0,none)
 | _,_=>d
def Zto (hp0:List Zl)(x y z:Option AV)(d:AV×List Zl×Eff):AV×List Zl×Eff :=
 match x,y,z with
 | some a,some b,some c=>(.tup [a,b,c],hp0,none)
 | _,_,_=>d
theorem TUP:(∀ (hp0:List Zl) (a b:AV) (hp:List Zl),Zal false hp0 (.tup [a,b]) hp none=Ztn hp0 (LM hp0.length hp a) (LM hp0.length hp b) (.tup [a,b],hp,none)) ∧
  (∀ (hp0:List Zl) (a b c:AV) (hp:List Zl),Zal false hp0 (.tup [a,b,c]) hp none=Zto hp0 (LM hp0.length hp a) (LM hp0.length hp b) (LM hp0.length hp c) (.tup [a,b,c],hp,none)) ∧
  (∀ (hp0:List Zl) (a b:AV) (d:AV×List Zl×Eff),Ztn hp0 (some a) (some b) d=(.tup [a,b],hp0,none)) ∧
  (∀ (hp0:List Zl) (a b c:AV) (d:AV×List Zl×Eff),Zto hp0 (some a) (some b) (some c) d=(.tup [a,b,c],hp0,none)):=by
 refine ⟨fun hp0 a b hp=>?_,fun hp0 a b c hp=>?_,fun _ _ _ _=>rfl,fun _ _ _ _ _=>rfl⟩
 ·rw [ZnP]
  cases h1:LM hp0.length hp a <;> cases h2:LM hp0.length hp b <;> simp [Ztn,h1,h2]
 ·rw [ZnP]
  cases h1:LM hp0.length hp a <;> cases h2:LM hp0.length hp b <;> cases h3:LM hp0.length hp c <;> simp [Zto,h1,h2,h3]
end Go.Proofs.YtgjcjbhhhlelnaaGreatDoor.Abs
end
