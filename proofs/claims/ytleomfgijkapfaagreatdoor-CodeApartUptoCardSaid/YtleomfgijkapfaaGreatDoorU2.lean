import Derived.LoopN
import Derived.Scope
import Derived.Orders
import Derived.Shelf.Spec.SlicesGrow
import Derived.Test.YtleomfgijkapfaaGreatDoorProg
import Derived.Shelf.RegionOpenPlain
import Derived.Lib.Builder
import Derived.Lib.UnsafeStr
import Derived.Lib.MakeNoZero
import Derived.Lib.Strings
import Derived.Lib.Slices
import Derived.Lib.Walk
import Derived.WalkKit
import Derived.Laws.Externs
import Derived.Laws.IdiomCopy
import Derived.Lib.AppendStr
import Derived.Laws.AppendOwn
import Derived.Test.YtleomfgijkapfaaGreatDoorU1
set_option linter.all false
section
namespace Go.Proofs.YtleomfgijkapfaaGreatDoor.Abs
open Go Go.RowKit
def AV.apart:AV→Bool
 | .agg cs=>cs.all AV.noId1
 | v=>v.noId1
theorem Rep.still' {Γ:Zo}{w:World}{x:AV}{v:Value}(h:Rep Γ w x v)(hx:x.apart=true):Rep still w x v:=by
 have hf:ZO Γ w still w:=fun b o v _ h2=>⟨trivial,h2⟩
 cases h with
 | agg cells cv hs h1 hn hr =>
  simp only [AV.apart,List.all_eq_true] at hx
  exact .agg cells cv hs h1 hn fun j c hc=>(hr j c hc).noId hf (hx c (List.mem_of_getElem? hc))
 | undef=>cases hx
 | tup=>cases hx
 | arr=>cases hx
 | ptr=>cases hx
 | map=>cases hx
 | bool b=>exact .bool b
 | int k n=>exact .int k n
 | str s=>exact .str s
 | nilp=>exact .nilp
 | nilf=>exact .nilf
 | nilm=>exact .nilm
 | nili=>exact .nili
 | nils k=>exact .nils k
 | lstNil k=>exact .lstNil k
 | lstE k A cap=>exact .lstE k A cap
 | lst k rows b o cap cv hlen hk hc hr=>exact (Rep.lst k rows b o cap cv hlen hk hc hr).noId hf rfl
 | own k rows v h=>exact (Rep.own k rows v h).noId hf rfl
 | ref cells b o cv hc hr=>exact (Rep.ref cells b o cv hc hr).noId hf rfl
 | fn f fst caps fv cv hs1 hr1 hs hr=>exact (Rep.fn f fst caps fv cv hs1 hr1 hs hr).noId hf hx
theorem Zkf {P:Program}{W:World}{C:Cfg}(h:ZaV P W C){n:Nat}{f:FuncId}{avs:List AV}{v:AV}{hp:List Zp}{e:Eff}(hev:Zy C n f avs []=some (v,hp,e))(hv:v.flat1=true){args:Array Value}
  (hs:args.size=avs.length) (hr:∀ (j:Nat) (x:AV),avs[j]? = some x→Rep still W x (args.getD j Go.undef)∧∀ k r,x≠.own k r) :
  Calls P f args W fun e W'=>∃ cv,e=.returned cv∧Below W.heap.size W W'∧Rep still W' v cv:=by
 obtain ⟨_,hw⟩:=IG h n f avs [] _ _ _ hev still W args (Za9 W) LK hs fun j x hx=>⟨(hr j x hx).1,.of_ne (hr j x hx).2⟩
 refine hw.mono fun en W' ⟨cv,hv',Γ',r1,r2,_,r4,_⟩=>?_
 subst hv'
 exact ⟨cv,rfl,⟨r4.os,r4.tape,r4.output,r4.size,fun b hb=>(r4.keep b hb trivial).2⟩,Um r2 hv⟩
def allEq {α:Type}(f:α→α→Bool):List α→List α→Bool
 | [],[]=>true
 | a :: l,b :: m=>f a b && allEq f l m
 | _,_=>false
theorem OI {α:Type}{f:α→α→Bool}(hf:∀ a b,f a b=true→a=b):∀ {l m:List α},allEq f l m=true→l=m
 | [],[],_=>rfl
 | a :: l,b :: m,h=>by
  simp only [allEq,Bool.and_eq_true] at h
  rw [hf a b h.1,OI hf h.2]
 | [],_ :: _,h=>by cases h
 | _ :: _,[],h=>by cases h
def eqA:Nat→AV→AV→Bool
 | n + 1,.str a,.str b=>a == b
 | n + 1,.int k a,.int l b=>decide (k=l) && decide (a=b)
 | n + 1,.bool a,.bool b=>a == b
 | n + 1,.lst k r,.lst l q=>k == l && allEq (allEq (eqA n)) r q
 | n + 1,.agg r,.agg q=>allEq (eqA n) r q
 | _,_,_=>false
theorem ZlU:∀ (n:Nat) (a b:AV),eqA n a b=true→a=b:=by
 intro n
 induction n with
 | zero=>intro a b h; unfold eqA at h; cases h
 | succ n ih =>
  intro a b h
  cases a <;> cases b <;> simp only [eqA,Bool.false_eq_true,Bool.and_eq_true,decide_eq_true_eq,beq_iff_eq] at h
  case bool.bool=>rw [h]
  case int.int=>rw [h.1,h.2]
  case str.str=>rw [h]
  case lst.lst=>rw [h.1,OI (fun x y hxy=>OI ih hxy) h.2]
  case agg.agg=>rw [OI ih h]
end Go.Proofs.YtleomfgijkapfaaGreatDoor.Abs
end
section
namespace Go.Proofs.YtleomfgijkapfaaGreatDoor.Abs
open Go Go.RowKit
section
variable {P:Program}{G:Nat→Option (List AV)}{call:FuncId→List AV→List Zp→Option (AV×List Zp×Eff)}{E:Entry}{s s':Za}{Γ:Zo}{a:Act}{w:World}{hand:Nat→Bool}{draw:Bool}
theorem ZiV (hG:GOk G E.W0)(hS:Z5 P E.W0 call){ops:Array Oper}{o:Oper}{g:Option (Nat×Bool)}{u:Za}{K:Act→World→Prop}{Q:Exit→Act→World→Prop}(h2:Ie ops o.guard=some g)
  (he:Zq G call ⟨o.dst,(cOp P hand draw o).getD .bad,g⟩ s=some u) (hI:Inv E s Γ a w) (hK:∀ Γ a w,Inv E u Γ a w→K a w) :
  if Region.wanted o (yielded ops a.tmps)=true then o.wp P a w K Q∨(o.asks P a w∧LetsOut Q) else K (a.put o.dst Go.undef) w:=by
 simp only [Zq] at he
 split at he <;> first | (cases he; done) | skip
 ·rename_i hw
  rw [WI hI h2 hw]
  split at he <;> first | (cases he; done) | skip
  rename_i v s2 hev
  obtain rfl:=Option.some.inj he
  simp only [if_true]
  refine .inl (ZiU hG hS hI (Qu hev) hev fun Γ' cv w' i1 r1 o1=>?_)
  obtain ⟨Γ2,i2⟩:=i1.put o.dst r1 o1
  exact hK _ _ _ i2
 ·rename_i hw
  rw [WI hI h2 hw]
  obtain rfl:=Option.some.inj he
  simp only [Bool.false_eq_true,if_false]
  obtain ⟨Γ2,i2⟩:=hI.put o.dst (v := .undef) (cv := Go.undef) .undef (.of_ne (by simp))
  exact hK _ _ _ i2
theorem Zlm (hG:GOk G E.W0)(hS:Z5 P E.W0 call)(hpure:∀ f args hp v hp' e,call f args hp=some (v,hp',e)→hp'=hp∧e=none){ops:Array Oper}{bops:List ZH}{Q:Exit→Act→World→Prop}{sF:Za}(hc:Xd P hand draw ops ops.toList=some bops)(hd:AC ops bops=true)(hQ:∀ Γ a w,Inv E sF Γ a w→Q .normal a w) :
  ∀ (fuel:Nat) {listed:Array Bool} {s:Za} {Γ:Zo} {a:Act} {w:World},listed.size=ops.size→XF ops listed→(YF ops.size listed).length=fuel→Z8 G call ((YF ops.size listed).map fun i=>bops.getD i ⟨none,.bad,none⟩) s=some sF→Inv E s Γ a w→wpAny P .any ops Q fuel listed a w:=by
 simp only [AC,Bool.and_eq_true,List.all_eq_true,List.mem_range] at hd
 obtain ⟨⟨hord,hnh⟩,hpair⟩:=hd
 obtain ⟨hlen,hget⟩:=Qy hc
 intro fuel
 induction fuel with
 | zero =>
  intro listed s Γ a w hsz hcl hl h hI
  have hn:=List.eq_nil_of_length_eq_zero hl
  rw [hn] at h
  obtain rfl:=Option.some.inj (by simpa [Z8] using h:some s=some sF)
  refine ⟨List.eq_nil_iff_forall_not_mem.2 fun i hi=>?_,hQ _ _ _ hI⟩
  obtain ⟨h1,o,h2,_⟩:=mem_ready.1 hi
  have:i ∈ YF ops.size listed:=Yf.2 ⟨(Array.getElem?_eq_some_iff.1 h2).1,h1⟩
  rw [hn] at this
  cases this
 | succ fuel ih =>
  intro listed s Γ a w hsz hcl hl h hI
  have hlisted:∀ j,j < ops.size→listed.getD j true≠false→listed.getD j false=true:=fun j hj h=>by
   have hj':j < listed.size:=by omega
   simp [hj'] at h ⊢; exact h
  refine ⟨fun hr=>?_,fun i hi=>?_⟩
  ·obtain ⟨i,r,hir⟩:∃ i r,YF ops.size listed=i :: r:=by
    cases hx:YF ops.size listed with
    | nil=>rw [hx] at hl; cases hl
    | cons i r=>exact ⟨i,r,rfl⟩
   have him:=Yf.1 (show i ∈ YF ops.size listed by rw [hir]; exact List.mem_cons_self ..)
   have hoi:ops[i]? = some ops[i]:=Array.getElem?_eq_getElem him.1
   have hready:i ∈ Region.ready .any ops listed:=by
    refine mem_ready.2 ⟨him.2,_,hoi,fun e he hb=>?_⟩
    have:=hord i him.1
    rw [hoi] at this
    have hlt:=Array.all_eq_true'.1 this e he
    rw [hb] at hlt
    simp only [Bool.not_true,Bool.false_or,decide_eq_true_eq] at hlt
    refine hlisted e.on (by omega) fun hun=>?_
    have hm:=Yf.2 ⟨show e.on < ops.size by omega,hun⟩
    rw [hir] at hm
    have hs:=WQ ops.size listed
    rw [hir] at hs
    rcases List.mem_cons.1 hm with he | hm
    ·omega
    ·have:=(List.pairwise_cons.1 hs).1 _ hm
     omega
   rw [hr] at hready
   cases hready
  ·obtain ⟨hun,o,ho,hdeps⟩:=mem_ready.1 hi
   have hin:=(Array.getElem?_eq_some_iff.1 ho).1
   obtain ⟨l1,l2,hsplit⟩:=List.append_of_mem (Yf.2 ⟨hin,hun⟩)
   have hs:=WQ ops.size listed
   rw [hsplit] at hs
   obtain ⟨g,hg1,hg2⟩:=hget i o (by simpa using ho)
   have hbi:bops.getD i ⟨none,.bad,none⟩=⟨o.dst,(cOp P hand draw o).getD .bad,g⟩:=by rw [List.getD_eq_getElem?_getD,hg2]; rfl
   have hcomm:∀ x ∈ l1.map (fun i=>bops.getD i ⟨none,.bad,none⟩),Zb8 x ⟨o.dst,(cOp P hand draw o).getD .bad,g⟩=true:=fun x hx=>by
    obtain ⟨j,hj,rfl⟩:=List.mem_map.1 hx
    have hji:j < i:=(List.pairwise_append.1 hs).2.2 j hj i (List.mem_cons_self ..)
    have hjm:=Yf.1 (show j ∈ YF ops.size listed by rw [hsplit]; exact List.mem_append_left _ hj)
    have:=hpair i hin j hji
    rw [Bool.or_eq_true] at this
    rcases this with h1 | h1
    ·exfalso
     have h2:=hcl.ready ho hdeps (TZ h1)
     rw [Un hjm.2] at h2
     cases h2
    ·rw [hg2] at h1
     split at h1
     ·rename_i x y hx hy
      cases hy
      rw [List.getD_eq_getElem?_getD,hx]
      exact h1
     ·cases h1
   rw [hsplit,List.map_append,List.map_cons,hbi] at h
   obtain ⟨u,hu1,hu2⟩:=bubble hpure hcomm h
   rw [← List.map_append,← Vt hsplit (by omega)] at hu2
   have hlen2:(YF ops.size (listed.setIfInBounds i true)).length=fuel:=by
    rw [Vt hsplit (by omega)]
    rw [hsplit] at hl
    simp at hl ⊢
    omega
   unfold wpOp
   simp only [ho]
   exact ZiV hG hS hg1 hu1 hI fun Γ' a' w' hI'=>ih (by simp [hsz]) (hcl.list ho hdeps) hlen2 hu2 hI'
end
def VH (P:Program)(takes:FuncId→List Nat)(res:List Nat):Code→Option V4
 | .skip=>some .skip
 | .region _ ops false=>(Xd P (fun t=>(handed takes res ops.toList).contains t) false ops ops.toList).map (.region false)
 | .region _ ops true=>match Xd P (fun t=>(handed takes res ops.toList).contains t) false ops ops.toList with
  | some bops=>if AC ops bops then some (.region true bops) else if PI ops bops then some (.regionB bops) else some .bad
  | _=>none
 | .seq a b=>match VH P takes res a,VH P takes res b with
  | some a,some b=>some (.seq a b)
  | _,_=>none
 | .cond c a b=>match Z4 P 0 c,VH P takes res a,VH P takes res b with
  | some c,some a,some b=>some (.cond c a b)
  | _,_,_=>none
 | .block id c=>(VH P takes res c).map (.block id)
 | .loop c=>(VH P takes res c).map .loop
 | .scope c=>(VH P takes res c).map .scope
 | .exit id=>some (.exit id)
 | .ret=>some .ret
 | .label _=>some .skip
 | _=>some .bad
def Zqx (P:Program)(takes:FuncId→List Nat)(fn:Func):Option AFn :=
 match fn.body,Zb2 P fn.results.toList with
 | some c,some rs=>(VH P takes (Za7 fn.results.toList) c).map fun ac=>⟨fn.ntmps,rs,ac,!(takes Gq).isEmpty⟩
 | _,_=>none
section
variable (G:Nat→Option (List AV))(call:FuncId→List AV→List Zp→Option (AV×List Zp×Eff))(L:Nat)
def ZM:V4→Za→Option (U5×Za)
 | .skip,s=>some (.normal,s)
 | .region false ops,s=>(Z8 G call ops s).map (.normal,·)
 | .region true ops,s=>(Z8 G (VL call) ops s).map (.normal,·)
 | .regionB ops,s=>(Z8 G (ZT call) ops s).map (.normal,·)
 | .seq a b,s=>match ZM a s with
  | some (.normal,s')=>ZM b s'
  | r=>r
 | .cond c a b,s=>match opnd G s.sl c with
  | some (.bool true)=>ZM a s
  | some (.bool false)=>ZM b s
  | _=>none
 | .block id c,s=>match ZM c s with
  | some (.exit i,s')=>if i=id then some (.normal,s') else some (.exit i,s')
  | r=>r
 | .loop c,s=>iter (ZM c) L s
 | .scope c,s=>ZM c s
 | .exit id,s=>some (.exit id,s)
 | .ret,s=>some (.ret,s)
 | .bad,_=>none
end
section
variable {P:Program}{G:Nat→Option (List AV)}{call:FuncId→List AV→List Zp→Option (AV×List Zp×Eff)}{E:Entry}
theorem Zkk (hm:P.follows .mixedOrders=true)(hG:GOk G E.W0)(hS:Z5 P E.W0 call){takes:FuncId→List Nat}{res:List Nat}(L:Nat):∀ {c:Code} {ac:V4} {s:Za} {r:U5×Za} {Γ:Zo} {a:Act} {w:World},
  VH P takes res c=some ac→ZM G call L ac s=some r→Inv E s Γ a w→c.wp P (Ends E r) a w:=by
 intro c
 induction c with
 | skip =>
  intro ac s r Γ a w hc h hI
  cases hc; cases h
  exact Go.wp_skip (.normal hI)
 | region id ops draw =>
  intro ac s r Γ a w hc h hI
  cases draw with
  | false =>
   simp only [VH] at hc
   obtain ⟨aops,h1,rfl⟩:=Option.map_eq_some_iff.1 hc
   simp only [ZM] at h
   obtain ⟨s1,h2,rfl⟩:=Option.map_eq_some_iff.1 h
   refine wp_region ?_
   rw [List.range_eq_range']
   have:=Zf7 hG hS (Q := Ends E (.normal,s1)) 0 (l := ops.toList) (by simp) h1 h2 hI fun Γ a w h=>.normal h
   simpa using this
  | true =>
   simp only [VH] at hc
   split at hc <;> first | (cases hc; done) | skip
   rename_i bops h1'
   split at hc
   ·rename_i hd
    cases hc
    simp only [ZM] at h
    obtain ⟨s1,h2,rfl⟩:=Option.map_eq_some_iff.1 h
    refine wp_region_any hm ?_
    have hb:Behind w { w with drawn:=w.drawn + 1 }:=⟨rfl,rfl,rfl,Nat.le_refl _,fun _ _=>rfl⟩
    have hr:YF ops.size (Array.replicate ops.size false)=List.range ops.size:=by
     unfold YF
     refine List.filter_eq_self.2 fun i hi=>?_
     simp only [List.mem_range] at hi
     simp [hi]
    have hmap:(List.range ops.size).map (fun i=>bops.getD i ⟨none,.bad,none⟩)=bops:=by
     have hl:ops.size=bops.length:=by simpa using (Qy h1').1
     rw [hl]
     refine List.ext_getElem? fun i=>?_
     rw [List.getElem?_map]
     by_cases hi:i < bops.length
     ·rw [List.getElem?_range hi,Option.map_some,List.getD_eq_getElem?_getD,List.getElem?_eq_getElem hi]; rfl
     ·rw [List.getElem?_eq_none (by simpa using hi),List.getElem?_eq_none (by omega)]; rfl
    exact Zlm hG (P9 hS) ZhH (Q := Ends E (.normal,s1)) h1' hd (fun Γ a w h=>.normal h) ops.size (by simp) (.start ops _) (by rw [hr]; simp) (by rw [hr,hmap]; exact h2) (hb.inv hI)
   ·split at hc
    ·rename_i hd
     cases hc
     simp only [ZM] at h
     obtain ⟨s1,h2,rfl⟩:=Option.map_eq_some_iff.1 h
     refine wp_region_any hm ?_
     have hb:Behind w { w with drawn:=w.drawn + 1 }:=⟨rfl,rfl,rfl,Nat.le_refl _,fun _ _=>rfl⟩
     exact Zap hG (Zbv hS) (Q := Ends E (.normal,s1)) h1' hd (fun Γ a w h=>.normal h) h2 (hb.inv hI)
    ·cases hc; cases h
 | seq x y ihx ihy =>
  intro ac s r Γ a w hc h hI
  simp only [VH] at hc
  split at hc <;> first | (cases hc; done) | skip
  rename_i ax ay hx hy
  obtain rfl:=Option.some.inj hc
  simp only [ZM] at h
  refine Go.wp_seq ?_
  split at h
  ·rename_i s1 h1
   refine Go.wp_mono (ihx hx h1 hI) fun e a' w' he=>?_
   obtain ⟨k1,Γ',i1⟩:=he
   cases e <;> first | exact k1.elim | skip
   exact ihy hy h i1
  ·rename_i hne
   refine Go.wp_mono (ihx hx h hI) fun e a' w' he=>?_
   cases e <;> first | exact he | skip
   obtain ⟨k1,_⟩:=he
   obtain ⟨q,s1⟩:=r
   cases q <;> first | exact k1.elim | skip
   exact absurd h (hne s1)
 | cond c x y ihx ihy =>
  intro ac s r Γ a w hc h hI
  simp only [VH] at hc
  split at hc <;> first | (cases hc; done) | skip
  rename_i c' ax ay hcc hx hy
  obtain rfl:=Option.some.inj hc
  simp only [ZM] at h
  split at h <;> first | (cases h; done) | skip
  ·rename_i hb
   have k:=(Zh hG hI hcc hb).1
   generalize hq:a.eval c=q at k
   cases k
   exact Go.wp_cond_true hq (ihx hx h hI)
  ·rename_i hb
   have k:=(Zh hG hI hcc hb).1
   generalize hq:a.eval c=q at k
   cases k
   exact Go.wp_cond_false hq (ihy hy h hI)
 | block id c ih =>
  intro ac s r Γ a w hc h hI
  simp only [VH] at hc
  obtain ⟨ax,hx,rfl⟩:=Option.map_eq_some_iff.1 hc
  simp only [ZM] at h
  refine Go.wp_block ?_
  split at h
  ·rename_i i s1 h1
   split at h
   ·rename_i hi
    obtain rfl:=Option.some.inj h
    refine Go.wp_mono (ih hx h1 hI) fun e a' w' he=>?_
    obtain ⟨k1,Γ',i1⟩:=he
    cases e <;> first | exact k1.elim | skip
    rename_i j
    simp only [Exit.inBlock]
    rw [if_pos (by rw [← hi]; exact (show i=j from k1).symm)]
    exact .normal i1
   ·rename_i hi
    obtain rfl:=Option.some.inj h
    refine Go.wp_mono (ih hx h1 hI) fun e a' w' he=>?_
    obtain ⟨k1,Γ',i1⟩:=he
    cases e <;> first | exact k1.elim | skip
    rename_i j
    simp only [Exit.inBlock]
    rw [if_neg (by rw [← (show i=j from k1)]; exact hi)]
    exact ⟨k1,Γ',i1⟩
  ·rename_i hne
   refine Go.wp_mono (ih hx h hI) fun e a' w' he=>?_
   cases e <;> first | exact he | skip
   obtain ⟨k1,_⟩:=he
   obtain ⟨q,s1⟩:=r
   cases q <;> first | exact k1.elim | skip
   exact absurd h (hne _ s1)
 | loop c ih =>
  intro ac s r Γ a w hc h hI
  simp only [VH] at hc
  obtain ⟨ax,hx,rfl⟩:=Option.map_eq_some_iff.1 hc
  simp only [ZM] at h
  exact wp_loop_rounds L (Zdx (fun h1 h2=>ih hx h1 h2) L h hI)
 | scope c ih =>
  intro ac s r Γ a w hc h hI
  simp only [VH] at hc
  obtain ⟨ax,hx,rfl⟩:=Option.map_eq_some_iff.1 hc
  simp only [ZM] at h
  refine Go.wp_scope_straight (Go.wp_mono (ih hx h hI) fun e a' w' he=>?_)
  cases e <;> first | exact he | skip
  obtain ⟨k1,_⟩:=he
  obtain ⟨q,s1⟩:=r
  cases q <;> exact k1.elim
 | exit id =>
  intro ac s r Γ a w hc h hI
  cases hc; cases h
  exact Go.wp_exit ⟨rfl,Γ,hI⟩
 | ret =>
  intro ac s r Γ a w hc h hI
  cases hc; cases h
  exact Go.wp_ret ⟨trivial,Γ,hI⟩
 | label l =>
  intro ac s r Γ a w hc h hI
  cases hc; cases h
  exact Go.wp_label (.normal hI)
 | _ =>
  intro ac s r Γ a w hc h
  cases hc; cases h
end
section
variable {G:Nat→Option (List AV)}{call:FuncId→List AV→List Zp→Option (AV×List Zp×Eff)}
theorem ZbD (L:Nat):∀ {c:V4} {s:Za} {r:U5×Za},ZM G call L c s=some r→r.2.bs=s.bs:=by
 intro c
 induction c with
 | skip=>intro s r h; cases h; rfl
 | region draw ops =>
  intro s r h
  cases draw with
  | false =>
   simp only [ZM] at h
   obtain ⟨s1,h1,rfl⟩:=Option.map_eq_some_iff.1 h
   exact XL h1
  | true =>
   simp only [ZM] at h
   obtain ⟨s1,h1,rfl⟩:=Option.map_eq_some_iff.1 h
   exact XL h1
 | regionB ops =>
  intro s r h
  simp only [ZM] at h
  obtain ⟨s1,h1,rfl⟩:=Option.map_eq_some_iff.1 h
  exact XL h1
 | seq x y ihx ihy =>
  intro s r h
  simp only [ZM] at h
  split at h
  ·rename_i s1 h1
   rw [ihy h]; exact ihx h1
  ·exact ihx h
 | cond c x y ihx ihy =>
  intro s r h
  simp only [ZM] at h
  split at h <;> first | (cases h; done) | skip
  ·exact ihx h
  ·exact ihy h
 | block id c ih =>
  intro s r h
  simp only [ZM] at h
  split at h
  ·rename_i i s1 h1
   have:=ih h1
   split at h <;> (obtain rfl:=Option.some.inj h; exact this)
  ·exact ih h
 | loop c ih =>
  intro s r h
  simp only [ZM] at h
  exact Zdw ih L h
 | scope c ih=>intro s r h; simp only [ZM] at h; exact ih h
 | exit id=>intro s r h; cases h; rfl
 | ret=>intro s r h; cases h; rfl
 | bad=>intro s r h; cases h
end
def PP (C:Cfg)(S:List Nat)(n:Nat)(fn:AFn)(args:List AV)(hp:List Zp):Option (AV×List Zp×Eff) :=
 match ZM C.G (Zd2 S (Zy C n)) C.L fn.code ⟨args ++ List.replicate (fn.ntmps - args.length) .undef,hp,none,hp.length⟩ with
 | some (.exit _,_)=>none
 | some (_,s)=>match QO s fn.results with
  | some v=>some (if fn.keep then (v.nm,s.hp,s.ef) else finish v s hp)
  | none=>none
 | none=>none
theorem Zg7 {P:Program}{W0:World}{C:Cfg}{S:List Nat}(h:ZaV P W0 C)(n:Nat){f:FuncId}{fn:Func}{takes:FuncId→List Nat}{af:AFn}(hf:P.funcs[f]? = some fn)(hname:(fn.name == "runtime.NumGoroutine")=false)(hcf:Zqx P takes fn=some af) :
  Z5 P W0 fun g args hp=>if g=f then PP C S n af args hp else none:=by
 intro g args hp v hp' e hc Γ w xs hr ht hs hx
 replace hc:(if g=f then PP C S n af args hp else none)=some (v,hp',e):=hc
 split at hc
 case isFalse=>cases hc
 rename_i hgf
 subst hgf
 have ih:=ZkN S (IG h n)
 unfold PP at hc
 unfold Zqx at hcf
 split at hcf <;> first | (cases hcf; done) | skip
 rename_i c rs hb hrs
 obtain ⟨ac,hac,rfl⟩:=Option.map_eq_some_iff.1 hcf
 split at hc
 ·cases hc
 ·rename_i x s hne hev
  split at hc <;> first | (cases hc; done) | skip
  rename_i u hu
  have hfin:=Option.some.inj hc
  refine ⟨OV hf hname hb xs w,?_⟩
  have hbs:s.bs=hp.length:=ZbD C.L hev
  have hI:Inv ⟨W0,Γ,w⟩ ⟨args ++ List.replicate (fn.ntmps - args.length) .undef,hp,none,hp.length⟩ Γ { tmps := xs ++ Array.replicate (fn.ntmps - xs.size) Go.undef,defers := [] } w:=by
   have get:∀ (t:Nat) (y:AV),(args ++ List.replicate (fn.ntmps - args.length) AV.undef)[t]? = some y→(args[t]? = some y∧(xs ++ Array.replicate (fn.ntmps - xs.size) Go.undef).getD t Go.undef=xs.getD t Go.undef)∨(y=.undef∧(xs ++ Array.replicate (fn.ntmps - xs.size) Go.undef).getD t Go.undef=Go.undef):=by
    intro t y hy
    rw [List.getElem?_append] at hy
    split at hy
    ·rename_i hlt
     refine .inl ⟨hy,?_⟩
     rw [Array.getD_eq_getD_getElem?,Array.getD_eq_getD_getElem?,Array.getElem?_append_left (by omega)]
    ·rename_i hge
     have hm:=List.mem_of_getElem? hy
     have:=List.eq_of_mem_replicate hm
     refine .inr ⟨this,?_⟩
     have hlt:=Ze hy
     simp only [List.length_replicate] at hlt
     rw [Array.getD_eq_getD_getElem?,Array.getElem?_append_right (by omega),Array.getElem?_replicate,if_pos (by omega)]
     rfl
   refine ⟨rfl,⟨by simp [hs],fun t y hy=>?_,fun t y hy=>?_⟩,hr,.refl _ _ _,fun b g hb=>hr.lt b g hb,fun b m g i hb=>ht.cell b m g i hb,Nat.le_refl _,fun _ _ hb _=>hb⟩
   ·rcases get t y hy with ⟨h1,h2⟩ | ⟨rfl,h2⟩
    ·rw [h2]; exact (hx t y h1).1
    ·rw [h2]; exact .undef
   ·rcases get t y hy with ⟨h1,h2⟩ | ⟨rfl,h2⟩
    ·rw [h2]; exact (hx t y h1).2
    ·exact .of_ne (by simp)
  have hw:=Zkk h.mixed h.globals ih C.L hac hev hI
  refine calls_of_wp hf hb (Go.wp_mono hw fun en a' w' he=>?_)
  obtain ⟨k1,Γ',i1⟩:=he
  have fin:a'.defers=[]∧∃ cv,(results fn a'.tmps).run P w'=.ok cv w'∧∃ v',Ending.returned cv=.returned v'∧∃ Γ',RW W0 Γ' w' hp'∧Rep Γ' w' v v'∧OwnAt Γ' w' .res v v'∧Frame Γ w Γ' w' e∧hp.length≤hp'.length∧∀ b g,Γ' b=.own g→g < hp.length→Γ b=.own g:=by
   obtain ⟨cv,Γ2,q1,q2,q3,q4,q5,q6⟩:=Zmt i1 hrs hu
   obtain ⟨Γ3,p1,p2,p3,p4,p5⟩:=PU hr hbs (by rw [hbs]; have:=i1.le; simpa [hbs] using this) (fun b m g i hb=>by rw [hbs]; exact ht.cell b m g i hb) q2 q3 q6 q4 q5 hfin
   exact ⟨i1.defers,cv,q1,cv,rfl,Γ3,p1,p2,p3,p4,p5⟩
  cases x with
  | exit i=>exact (hne i rfl).elim
  | normal=>cases en <;> first | exact k1.elim | exact fin
  | ret=>cases en <;> first | exact k1.elim | exact fin
 ·cases hc
theorem Zqp {P:Program}{W:World}{C:Cfg}{S:List Nat}(h:ZaV P W C){n:Nat}{f:FuncId}{fn:Func}{takes:FuncId→List Nat}{af:AFn}(hf:P.funcs[f]? = some fn)(hname:(fn.name == "runtime.NumGoroutine")=false)(hcf:Zqx P takes fn=some af)
  {hp:List Zp} {e:Eff} (hev:PP C S n af [] []=some (.bool true,hp,e)):Calls P f #[] W fun e W'=>e=.returned (.bool true)∧Below W.heap.size W W':=by
 obtain ⟨_,hw⟩:=Zg7 h n hf hname hcf f [] [] (.bool true) hp e (by simpa using hev) still W #[] (Za9 W) LK rfl fun j x hx=>by simp at hx
 refine hw.mono fun en W' ⟨cv,hv,Γ',r1,r2,_,r4,_⟩=>?_
 subst hv
 cases r2
 exact ⟨rfl,r4.os,r4.tape,r4.output,r4.size,fun b hb=>(r4.keep b hb trivial).2⟩
end Go.Proofs.YtleomfgijkapfaaGreatDoor.Abs
end
section
namespace Go.Proofs.YtleomfgijkapfaaGreatDoor.Abs
open Go Go.RowKit Go.Shelf
def Zii (f:FuncId)(k bytes:Nat)(g:FuncId)(args:List AV)(hp:List Zp):Option (AV×List Zp×Eff) :=
 if g=f then
  match args with
  | [.own k' [],.int .i64 n]=>if k'=k∧0≤n∧n.toNat * bytes≤140737488355328∧n.toNat≤140737488355328 then some (.own k [],hp,none) else none
  | _=>none
 else none
theorem Zij {P:Program}{ρ:Ren}{W0:World}(L:Lays8.n4 P ρ){i0:TypeInfo}{z:Value}(hi0:P.info? (ρ.t 25)=some i0)(hz0:i0.zero=some z)(hzs:z.cells.size=i0.size)(hs0:0 < i0.size) :
  Z5 P W0 (Zii (ρ.f 4) i0.size i0.bytes):=by
 intro g args hp v hp' e hc Γ w xs hr ht hs hx
 unfold Zii at hc
 split at hc
 case isFalse=>cases hc
 rename_i hgf
 subst hgf
 split at hc <;> first | (cases hc; done) | skip
 rename_i k' n
 split at hc <;> first | (cases hc; done) | skip
 rename_i hh
 obtain ⟨rfl,hn0,hnb,hn47⟩:=hh
 cases hc
 have hI:Inv ⟨W0,Γ,w⟩ ⟨[.own i0.size []],hp,none,hp.length⟩ Γ { tmps := #[xs.getD 0 Go.undef],defers := [] } w:=by
  refine ⟨rfl,⟨rfl,fun t y hy=>?_,fun t y hy=>?_⟩,hr,.refl _ _ _,fun b g hb=>hr.lt b g hb,fun b m g i hb=>ht.cell b m g i hb,Nat.le_refl _,fun _ _ hb _=>hb⟩
  ·cases t with
   | zero=>exact (hx 0 y (by simpa using hy)).1
   | succ t=>simp at hy
  ·cases t with
   | zero=>exact (hx 0 y (by simpa using hy)).2
   | succ t=>simp at hy
 have hx1:xs.getD 1 Go.undef=.int .i64 n:=by
  have:=(hx 1 _ rfl).1
  generalize xs.getD 1 Go.undef=u at this
  cases this; rfl
 have hxs:xs=#[xs.getD 0 Go.undef,xs.getD 1 Go.undef]:=by
  have hs2:xs.size=2:=hs
  refine Array.ext hs2 fun i h1 h2=>?_
  have:i=0∨i=1:=by simp at h2; omega
  rcases this with rfl | rfl <;> simp [Array.getD_eq_getD_getElem?,h1]
 obtain ⟨m,rfl⟩:∃ m:Nat,n=m:=⟨n.toNat,by omega⟩
 simp only [Int.toNat_natCast] at hnb hn47
 have hgo:∀ {R:Value→World→Prop},Calls P (ρ.f 4) xs w (fun e w''=>∃ v,e=.returned v∧R v w'')→ZjJ P (ρ.f 4) xs w R:=fun h=>by
  obtain ⟨nm,hn,hf⟩:=L.f4
  exact ⟨OV hf hn rfl xs w,h⟩
 have same:∀ {cv:Value} {Γ':Zo} {s:Za} {a:Act} {w':World},s.hp=hp→s.ef=none→s.bs=hp.length→Inv ⟨W0,Γ,w⟩ s Γ' a w'→Rep Γ' w' (.own i0.size []) cv→OwnAt Γ' w' .res (.own i0.size []) cv →
   ∃ Γ',RW W0 Γ' w' hp∧Rep Γ' w' (.own i0.size []) cv∧OwnAt Γ' w' .res (.own i0.size []) cv∧Frame Γ w Γ' w' none∧hp.length≤hp.length∧∀ b g,Γ' b=.own g→g < hp.length→Γ b=.own g:=fun h1 h2 h3 i r o=>⟨_,by rw [← h1]; exact i.rw,r,o,by rw [← h2]; exact i.fr,Nat.le_refl _,fun b g k1 k2=>i.back b g k1 (by rw [h3]; exact k2)⟩
 have hmax:maxLen=9223372036854775807:=rfl
 have new:∀ (c:Nat) (cs:List Value),c < m→cs.length=c * i0.size →
   ∃ Γ',RW W0 Γ' (w.drew.alloc (.cells (cs.toArray ++ Builtin.zeroCells z.cells (0 + m - c) ++ Builtin.zeroCells z.cells (grownCap w (0 + m) c (ρ.t 25) - (0 + m))) (ρ.t 25))) hp ∧
    Rep Γ' (w.drew.alloc (.cells (cs.toArray ++ Builtin.zeroCells z.cells (0 + m - c) ++ Builtin.zeroCells z.cells (grownCap w (0 + m) c (ρ.t 25) - (0 + m))) (ρ.t 25))) (.own i0.size []) (.slice (some ⟨w.heap.size,0,none⟩) 0 (grownCap w (0 + m) c (ρ.t 25))) ∧
    OwnAt Γ' (w.drew.alloc (.cells (cs.toArray ++ Builtin.zeroCells z.cells (0 + m - c) ++ Builtin.zeroCells z.cells (grownCap w (0 + m) c (ρ.t 25) - (0 + m))) (ρ.t 25))) .res (.own i0.size []) (.slice (some ⟨w.heap.size,0,none⟩) 0 (grownCap w (0 + m) c (ρ.t 25))) ∧
    Frame Γ w Γ' (w.drew.alloc (.cells (cs.toArray ++ Builtin.zeroCells z.cells (0 + m - c) ++ Builtin.zeroCells z.cells (grownCap w (0 + m) c (ρ.t 25) - (0 + m))) (ρ.t 25))) none∧hp.length≤hp.length∧∀ b g,Γ' b=.own g→g < hp.length→Γ b=.own g:=by
  intro c cs hcm hcl
  have hge:=grownCap_ge w (0 + m) c (ρ.t 25)
  have hle:=grownCap_le_maxLen w (0 + m) c (ρ.t 25) (by omega)
  obtain ⟨Γ',i1,o1⟩:=ZdH (w := w.drew) hI.drew (k := i0.size) (cap := grownCap w (0 + m) c (ρ.t 25)) (rows := []) (e := ρ.t 25)
   (cur := cs.toArray ++ Builtin.zeroCells z.cells (0 + m - c) ++ Builtin.zeroCells z.cells (grownCap w (0 + m) c (ρ.t 25) - (0 + m))) (Nat.zero_le _) hle (by
    simp only [Array.size_append,List.size_toArray,size_zeroCells,hzs,hcl,← Nat.add_mul]
    congr 1
    omega) (fun r hr=>by cases hr) (fun i j r c hi hj=>by simp at hi)
  exact same rfl rfl rfl i1 (.own _ _ _ (.lstE _ _ _)) o1
 obtain ⟨Γ2,i2,r2,o2⟩:=hI.take 0 (v := .own i0.size []) rfl
 have r2':Rep Γ2 w (.own i0.size []) (xs.getD 0 Go.undef):=r2
 have o2':OwnAt Γ2 w .res (.own i0.size []) (xs.getD 0 Go.undef):=o2
 refine hgo ?_
 rcases (hx 0 _ rfl).2 _ _ rfl with ⟨h1,_⟩ | ⟨b,cap,e0,cur,h1,hg,hh,h2,h3,h4,_⟩
 ·rw [hxs,hx1]
  rw [h1] at r2' o2' ⊢
  rcases Nat.eq_zero_or_pos m with hm | hm
  ·subst hm
   refine (Any8.slices_Grow_room L none 0 0 0 w (by omega) (by omega) (by omega) (by omega)).mono ?_
   rintro e w' ⟨rfl,rfl⟩
   exact ⟨_,rfl,same (s := Za.let_ ⟨[.own i0.size []],hp,none,hp.length⟩ 0) rfl rfl rfl i2 r2' o2'⟩
  ·refine (Any8.slices_Grow_grow L i0 z hi0 hz0 hs0 none 0 0 m [] w (by omega) (by omega) (by simpa using hnb) (by omega) (by simp) (fun _=>rfl) (fun a ha=>by cases ha)).mono ?_
   rintro e w' ⟨rfl,rfl⟩
   exact ⟨_,rfl,new 0 [] hm (by simp)⟩
 ·have h1:xs.getD 0 Go.undef=.slice (some ⟨b,0,none⟩) 0 cap:=h1
  rw [hxs,hx1]
  rw [h1] at r2' o2' ⊢
  rcases Nat.lt_or_ge cap m with hm | hm
  ·refine (Any8.slices_Grow_grow L i0 z hi0 hz0 hs0 (some ⟨b,0,none⟩) 0 cap m cur.toList w (by omega) (by omega) (by simpa using hnb) (by omega) (by simpa using h4) (fun h=>by cases h) (fun a ha j v hj=>?_)).mono ?_
   ·cases ha
    rw [Array.getElem?_toList] at hj
    have hj':(if j=0 then (⟨b,0,none⟩:Addr) else ⟨b,j,none⟩)=⟨b,j,none⟩:=by
     split
     ·rename_i h0; rw [h0]
     ·rfl
    simp [World.cell?,Addr.add,hj',hh,hj]
   ·rintro e w' ⟨rfl,rfl⟩
    exact ⟨_,rfl,new cap cur.toList hm (by simpa using h4)⟩
  ·refine (Any8.slices_Grow_room L (some ⟨b,0,none⟩) 0 cap m w (by omega) (by omega) (by omega) (by omega)).mono ?_
   rintro e w' ⟨rfl,rfl⟩
   exact ⟨_,rfl,same (s := Za.let_ ⟨[.own i0.size []],hp,none,hp.length⟩ 0) rfl rfl rfl i2 r2' o2'⟩
end Go.Proofs.YtleomfgijkapfaaGreatDoor.Abs
end
section
namespace Go.Proofs.YtleomfgijkapfaaGreatDoor
open Go.RowKit
theorem ZlP:(Tryz.prog.info? 93).map (·.size)=some 2:=by kernel_rfl
theorem ZlO:(Tryz.prog.info? 5).map (fun i=>(i.zero,i.size,i.bytes))=some (some (.int .u8 0),1,1):=by kernel_rfl
theorem Gl:Tryz.prog.follows .mixedOrders=true:=by kernel_rfl
theorem Zgn:(Tryz.prog.info? 5).map (·.size)=some 1:=by kernel_rfl
theorem Zda:Tryz.prog.cellsOf 5=1:=by kernel_rfl
structure KU (b:Nat)(w w':World):Prop where
 os:w'.os=w.os
 tape:w'.tape=w.tape
 output:w'.output=w.output
 size:w.heap.size≤w'.heap.size
 same:∀ k,k < w.heap.size→k≠b→w'.heap[k]? = w.heap[k]?
theorem KU.refl (b:Nat)(w:World):KU b w w:=⟨rfl,rfl,rfl,Nat.le_refl _,fun _ _ _=>rfl⟩
theorem KU.drew {b:Nat}{w w':World}(h:KU b w w'):KU b w w'.drew:=⟨h.os,h.tape,h.output,h.size,h.same⟩
theorem KU.fromDrew {b:Nat}{w w':World}(h:KU b w.drew w'):KU b w w':=⟨h.os,h.tape,h.output,h.size,h.same⟩
theorem KU.trans {b:Nat}{w w1 w2:World}(h:KU b w w1)(h':KU b w1 w2):KU b w w2 :=
 ⟨h'.os.trans h.os,h'.tape.trans h.tape,h'.output.trans h.output,Nat.le_trans h.size h'.size,fun k hk hn=>(h'.same k (Nat.lt_of_lt_of_le hk h.size) hn).trans (h.same k hk hn)⟩
theorem KU.setCell (b:Nat)(w:World)(j:Nat)(v:Value):KU b w (w.setCell ⟨b,j,none⟩ v) :=
 ⟨rfl,rfl,rfl,by simp [World.setCell],fun k _ hn=>Below.heap_setCell _ _ _ _ hn⟩
theorem KU.alloc (b:Nat)(w:World)(o:Obj):KU b w (w.alloc o):=⟨rfl,rfl,rfl,by simp,fun k hk _=>Lib.alloc_old w o k hk⟩
theorem KU.freeze (b n:Nat)(w:World):KU b w (w.freeze ⟨b,0,none⟩ n):=by
 unfold World.freeze
 split
 ·exact .refl b w
 ·refine ⟨rfl,rfl,rfl,by simp,fun k _ hn=>?_⟩
  simp [Array.getElem?_modify]
  intro e
  exact absurd e.symm hn
theorem Zdp (b n o:Nat)(w:World):(w.freeze ⟨b,0,none⟩ n).cell? ⟨b,o,none⟩=w.cell? ⟨b,o,none⟩:=by
 unfold World.freeze
 split
 ·rfl
 ·simp only [World.cell?,Array.getElem?_modify]
  cases h:w.heap[b]? with
  | none=>simp
  | some x=>cases x <;> simp
theorem Zgk (w:World)(x:Obj)(g o:Nat)(h:g < w.heap.size):(w.alloc x).cell? ⟨g,o,none⟩=w.cell? ⟨g,o,none⟩:=by
 simp only [World.cell?,Lib.alloc_old w x g h]
set_option maxRecDepth 100000 in
set_option maxHeartbeats 2000000 in
theorem Zdf (b:Nat)(w:World)(h0:w.cell? ⟨b,0,none⟩=some (.pointer (some ⟨b,0,none⟩))) :
  Calls Tryz.prog 87 #[.pointer (some ⟨b,0,none⟩)] w fun e w'=>e=.returned (.tuple #[])∧w'=w:=by
 obtain ⟨j,hj,_⟩:=Option.map_eq_some_iff.1 ZlP
 go_enter Tryz.func87,Tryz.ntmps87
 go_wp2
 rw [Lib.run_neq_ptr_same w _ Tryz.underlying90 hj]
 go_wp2
 go_end0
 exact ⟨rfl,rfl⟩
set_option maxRecDepth 100000 in
set_option maxHeartbeats 2000000 in
theorem Ro (T n b:Nat)(hn:0 < n)(b_lies:liesAt Tryz.prog Tryz.prog.depth T (n / Tryz.prog.cellsOf T) 0 93 1=true)(w:World)(h0:w.cell? ⟨b,0,none⟩=some (.pointer none))(hsh:w.shape? b=some (T,n))(hfz:w.frozen? ⟨b,0,none⟩=false) :
  Calls Tryz.prog 87 #[.pointer (some ⟨b,0,none⟩)] w fun e w'=>e=.returned (.tuple #[])∧w'=w.setCell ⟨b,0,none⟩ (.pointer (some ⟨b,0,none⟩)):=by
 obtain ⟨j,hj,hjs⟩:=Option.map_eq_some_iff.1 ZlP
 go_enter Tryz.func87,Tryz.ntmps87
 go_wp2
 rw [Lib.run_to_unsafe w ⟨b,0,none⟩ Tryz.underlying90 Tryz.underlying223 hj (by rw [hjs]; decide) hsh hn]
 simp only [Result.andThen]
 rw [Oper.upon_value]
 go_wp2
 rw [run_callFunc_extern Tryz.func167 (by kernel_rfl) (by kernel_rfl) (by kernel_rfl) (e := Extern.AbiNoEscape.same) (by kernel_rfl)]
 rw [Lib.run_noEscape]
 simp only [Result.andThen]
 rw [Oper.upon_value]
 go_wp2
 rw [Lib.run_from_unsafe w ⟨b,0,none⟩ Tryz.underlying223 Tryz.underlying90 hj hsh b_lies]
 simp only [Result.andThen]
 rw [Oper.upon_value]
 go_wp2
 go_end0
 exact ⟨rfl,rfl⟩
set_option maxHeartbeats 2000000 in
set_option maxRecDepth 100000 in
theorem ZhG (b g:Nat)(l:List UInt8)(cap:Nat)(cur:Array Value)(e:TypeId)(w:World)(h0:l≠[])(hb:w.cell? ⟨b,1,none⟩=some (.slice (some ⟨g,0,none⟩) l.length cap))(hg:w.heap[g]? = some (.cells cur e (0,0)))(he:e=5)
  (hcap:l.length≤cap) (hm:cap≤maxLen) (hcs:cur.size=cap) (hl:∀ (j:Nat) (x:UInt8),l[j]? = some x→cur[j]? = some (.int .u8 x.toNat)) :
  Calls Tryz.prog 45 #[.pointer (some ⟨b,0,none⟩)] w fun e w'=>e=.returned (.string ⟨l.toArray⟩)∧KU g w w'∧∀ o,w'.cell? ⟨g,o,none⟩=w.cell? ⟨g,o,none⟩:=by
 subst he
 have hl0:l.length≠0:=by simpa using h0
 have c1:w.drew.cell? ⟨b,1,none⟩=some (.slice (some ⟨g,0,none⟩) l.length cap):=hb
 have hSD:(Builtin.unsafeSliceData_ #[91] 150 #[.slice (some ⟨g,0,none⟩) l.length cap]).run Tryz.prog w.drew=.ok (.pointer (some ⟨g,0,none⟩)) w.drew :=
  Lib.run_unsafeSliceData_row _ _ _ _ _ _ (by omega)
 have hUS:(Builtin.unsafeString_ #[150,3] 9 #[.pointer (some ⟨g,0,none⟩),.int .i64 l.length]).run Tryz.prog w.drew=.ok (.string ⟨l.toArray⟩) (w.drew.freeze ⟨g,0,none⟩ l.length):=by
  refine Lib.run_unsafeString_row w.drew 150 3 9 5 Tryz.underlying150 Zda g cur.size (by have hg':w.drew.heap[g]? = some (.cells cur 5 (0,0)):=hg; simp [World.shape?,hg']) l h0 (by omega) (by unfold maxLen at hm; omega) ?_
  intro j x hx
  have hg':w.drew.heap[g]? = some (.cells cur 5 (0,0)):=hg
  have ha:(⟨g,0,none⟩:Addr).add j=⟨g,j,none⟩:=by simp [Addr.add]; intro h; exact h.symm
  rw [ha,Lib.cell_of_heap hg',hl j x hx]
 have mixed:=Gl
 go_enter Tryz.func45,Tryz.ntmps45
 go_wp2
 go_region_o
 all_goals (go_wp2; go_ret; exact ⟨rfl,(KU.freeze g l.length w.drew).fromDrew,fun o=>Zdp g l.length o w.drew⟩)
set_option maxHeartbeats 2000000 in
set_option maxRecDepth 100000 in
theorem Zb4 (b g:Nat)(w:World)(hb:w.cell? ⟨b,1,none⟩=some (.slice none 0 0)) :
  Calls Tryz.prog 45 #[.pointer (some ⟨b,0,none⟩)] w fun e w'=>e=.returned (.string ⟨#[]⟩)∧KU g w w'∧∀ o,w'.cell? ⟨g,o,none⟩=w.cell? ⟨g,o,none⟩:=by
 have hUS:∀ (W:World) (q:Option Addr),(Builtin.unsafeString_ #[150,3] 9 #[.pointer q,.int .i64 0]).run Tryz.prog W=.ok (.string .empty) W:=fun W q=>Lib.run_unsafeString_none W _ _ _ q
 have c1:w.drew.cell? ⟨b,1,none⟩=some (.slice none 0 0):=hb
 have hSD:(Builtin.unsafeSliceData_ #[91] 150 #[.slice none 0 0]).run Tryz.prog w.drew=.ok (.pointer none) w.drew:=rfl
 have mixed:=Gl
 go_enter Tryz.func45,Tryz.ntmps45
 go_wp2
 go_region_o
 all_goals (go_wp2; go_ret; exact ⟨rfl,(KU.refl g w).drew,fun o=>rfl⟩)
set_option maxHeartbeats 2000000 in
set_option maxRecDepth 100000 in
theorem Zb5 (b g:Nat)(cur:Array Value)(e:TypeId)(w:World)(hb:w.cell? ⟨b,1,none⟩=some (.slice (some ⟨g,0,none⟩) 0 0))(hg:w.heap[g]? = some (.cells cur e (0,0)))(he:e=5) :
  Calls Tryz.prog 45 #[.pointer (some ⟨b,0,none⟩)] w fun e w'=>e=.returned (.string ⟨#[]⟩)∧KU g w w'∧∀ o,w'.cell? ⟨g,o,none⟩=w.cell? ⟨g,o,none⟩:=by
 subst he
 have hUS:∀ (W:World) (q:Option Addr),(Builtin.unsafeString_ #[150,3] 9 #[.pointer q,.int .i64 0]).run Tryz.prog W=.ok (.string .empty) W:=fun W q=>Lib.run_unsafeString_none W _ _ _ q
 have hlt:b < w.heap.size:=World.block_lt_of_cell? w _ hb
 have hgl:g < w.heap.size:=(Array.getElem?_eq_some_iff.1 hg).1
 have c1:w.drew.cell? ⟨b,1,none⟩=some (.slice (some ⟨g,0,none⟩) 0 0):=hb
 have hSD:(Builtin.unsafeSliceData_ #[91] 150 #[.slice (some ⟨g,0,none⟩) 0 0]).run Tryz.prog w.drew=.ok (.pointer (some ⟨w.drew.heap.size,0,none⟩)) (w.drew.alloc (.view ⟨g,0,none⟩ 5)) :=
  Lib.run_unsafeSliceData_zero w.drew _ _ 5 Tryz.underlying150 ⟨g,0,none⟩ 0 (5,cur.size) (by have hg':w.drew.heap[g]? = some (.cells cur 5 (0,0)):=hg; simp [World.shape?,hg'])
 have c2:(w.drew.alloc (.view ⟨g,0,none⟩ 5)).cell? ⟨b,1,none⟩=some (.slice (some ⟨g,0,none⟩) 0 0):=by
  rw [← c1]; simp only [World.cell?]; rw [Lib.alloc_old w.drew _ b hlt]
 have c3:(w.alloc (.view ⟨g,0,none⟩ 5)).drew.cell? ⟨b,1,none⟩=some (.slice (some ⟨g,0,none⟩) 0 0):=c2
 have c0:w.cell? ⟨b,1,none⟩=some (.slice (some ⟨g,0,none⟩) 0 0):=c1
 have mixed:=Gl
 go_enter Tryz.func45,Tryz.ntmps45
 go_wp2
 go_region_o
 all_goals (go_wp2; go_ret; exact ⟨rfl,(KU.alloc g w _).drew,fun o=>Zgk w _ g o hgl⟩)
set_option maxHeartbeats 2000000 in
set_option maxRecDepth 100000 in
theorem Zgq (b g cap:Nat)(w:World)(hc0:cap≠0)(hb:w.cell? ⟨b,1,none⟩=some (.slice (some ⟨g,0,none⟩) 0 cap)) :
  Calls Tryz.prog 45 #[.pointer (some ⟨b,0,none⟩)] w fun e w'=>e=.returned (.string ⟨#[]⟩)∧KU g w w'∧∀ o,w'.cell? ⟨g,o,none⟩=w.cell? ⟨g,o,none⟩:=by
 have hUS:∀ (W:World) (q:Option Addr),(Builtin.unsafeString_ #[150,3] 9 #[.pointer q,.int .i64 0]).run Tryz.prog W=.ok (.string .empty) W:=fun W q=>Lib.run_unsafeString_none W _ _ _ q
 have c1:w.drew.cell? ⟨b,1,none⟩=some (.slice (some ⟨g,0,none⟩) 0 cap):=hb
 have hSD:(Builtin.unsafeSliceData_ #[91] 150 #[.slice (some ⟨g,0,none⟩) 0 cap]).run Tryz.prog w.drew=.ok (.pointer (some ⟨g,0,none⟩)) w.drew :=
  Lib.run_unsafeSliceData_row _ _ _ _ _ _ hc0
 clear hc0
 have mixed:=Gl
 go_enter Tryz.func45,Tryz.ntmps45
 go_wp2
 go_region_o
 all_goals (go_wp2; go_ret; exact ⟨rfl,(KU.refl g w).drew,fun o=>rfl⟩)
def Room (b:Nat)(w w':World):Prop:=KU b w w'∧∃ v,w'.heap[b]? = some (.cells #[.pointer (some ⟨b,0,none⟩),v] 93 (0,0)) ∧
 (v=.slice none 0 0∨∃ g cs,v=.slice (some ⟨g,0,none⟩) 0 cs.size∧w.heap.size≤g∧w'.heap[g]? = some (.cells cs 5 (0,0))∧cs.size≤maxLen)
theorem Room.drew {b:Nat}{w w':World}(h:Room b w w'):Room b w w'.drew:=⟨h.1.drew,h.2⟩
theorem Room.fromDrew {b:Nat}{w w':World}(h:Room b w.drew w'):Room b w w':=⟨h.1.fromDrew,h.2⟩
set_option maxHeartbeats 2000000 in
set_option maxRecDepth 1000000 in
theorem ZrN (b n:Nat)(w:World)(hbk:w.heap[b]? = some (.cells #[.pointer (some ⟨b,0,none⟩),.slice none 0 0] 93 (0,0)))(hn:n≤281474976710656) :
  Calls Tryz.prog 208 #[.pointer (some ⟨b,0,none⟩),.int .i64 n] w fun e w'=>e=.returned (.tuple #[])∧Room b w w':=by
 obtain ⟨cs,hrun,hle,hmax⟩:=Lib.run_makeNoZero (P := Tryz.prog) w.drew #[3] 91 5 Tryz.underlying91 n hn
 have hlt:b < w.heap.size:=(Array.getElem?_eq_some_iff.1 hbk).1
 have hw:IntKind.i64.wrap (IntKind.i64.wrap 0 + (n:Int))=n:=by
  rw [IntKind.wrap_i64,IntKind.wrap_i64]
  omega
 have hcall:(callFunc 239 #[.int .i64 (IntKind.i64.wrap (IntKind.i64.wrap 0 + (n:Int)))]).run Tryz.prog w.drew=.ok (.value (.slice (some ⟨w.drew.heap.size,0,none⟩) n cs.size)) (w.drew.drew.drew.alloc (.cells cs 5)):=by
  rw [hw,run_callFunc_extern Tryz.func239 (by kernel_rfl) (by kernel_rfl) (by kernel_rfl) (e := Extern.BytealgMakeNoZero.makeNoZero #[3] #[91]) (by kernel_rfl),hrun]
  rfl
 have old:(w.alloc (.cells cs 5)).heap[b]? = some (.cells #[.pointer (some ⟨b,0,none⟩),.slice none 0 0] 93 (0,0)):=(Lib.alloc_old w _ b hlt).trans hbk
 have c1:w.drew.cell? ⟨b,1,none⟩=some (.slice none 0 0):=by
  have:w.drew.heap[b]? = _:=hbk
  rw [Lib.cell_of_heap this]; rfl
 have c2:(w.alloc (.cells cs 5)).cell? ⟨b,1,none⟩=some (.slice none 0 0):=by rw [Lib.cell_of_heap old]; rfl
 have f2:(w.alloc (.cells cs 5)).frozen? ⟨b,1,none⟩=false:=Lib.frozen_of_heap old 1
 have hcopy:∀ W:World,(Builtin.copy_ #[91,91] 3 #[.slice (some ⟨w.heap.size,0,none⟩) 0 cs.size,.slice none 0 0]).run Tryz.prog W=.ok (goInt 0) W :=
  fun W=>run_copy_none W 91 91 3 5 _ _ 0 cs.size 0 0 Tryz.underlying91 Zgn rfl
 clear hw
 have mixed:=Gl
 have hfin:Room b w ((w.alloc (.cells cs 5)).setCell ⟨b,1,none⟩ (.slice (some ⟨w.heap.size,0,none⟩) 0 cs.size)).drew.drew.drew:=by
  refine ⟨(((KU.alloc b w _).trans (KU.setCell b _ 1 _)).drew.drew).drew,.slice (some ⟨w.heap.size,0,none⟩) 0 cs.size,?_,.inr ⟨w.heap.size,cs,rfl,Nat.le_refl _,?_,hmax (by unfold maxLen; omega)⟩⟩
  ·show ((w.alloc (.cells cs 5)).setCell ⟨b,1,none⟩ _).heap[b]? = _
   simp [World.setCell,Array.getElem?_modify,old]
  ·show ((w.alloc (.cells cs 5)).setCell ⟨b,1,none⟩ _).heap[w.heap.size]? = _
   rw [Below.heap_setCell _ _ _ _ (by simp; omega),heap_alloc_new]
 have hbk1:(w.setCell ⟨b,1,none⟩ (.slice (some ⟨w.heap.size,0,none⟩) 0 cs.size)).heap[b]? = some (.cells #[.pointer (some ⟨b,0,none⟩),.slice (some ⟨w.heap.size,0,none⟩) 0 cs.size] 93 (0,0)):=by
  simp [World.setCell,Array.getElem?_modify,hbk]
 have hfin2:Room b w ((w.setCell ⟨b,1,none⟩ (.slice (some ⟨w.heap.size,0,none⟩) 0 cs.size)).alloc (.cells cs 5)).drew.drew.drew:=by
  have hs:=KU.setCell b w 1 (.slice (some ⟨w.heap.size,0,none⟩) 0 cs.size)
  have hz:(w.setCell ⟨b,1,none⟩ (.slice (some ⟨w.heap.size,0,none⟩) 0 cs.size)).heap.size=w.heap.size:=by simp [World.setCell]
  refine ⟨(((hs.trans (KU.alloc b _ _)).drew.drew).drew),.slice (some ⟨w.heap.size,0,none⟩) 0 cs.size,?_,.inr ⟨w.heap.size,cs,rfl,Nat.le_refl _,?_,hmax (by unfold maxLen; omega)⟩⟩
  ·show ((w.setCell ⟨b,1,none⟩ _).alloc _).heap[b]? = _
   rw [Lib.alloc_old _ _ b (by rw [hz]; exact hlt)]
   exact hbk1
  ·show ((w.setCell ⟨b,1,none⟩ _).alloc _).heap[w.heap.size]? = _
   have h2:=heap_alloc_new (w.setCell ⟨b,1,none⟩ (.slice (some ⟨w.heap.size,0,none⟩) 0 cs.size)) (.cells cs 5)
   rw [hz] at h2; exact h2
 go_enter Tryz.func208,Tryz.ntmps208
 go_wp2
 go_region_o
 all_goals (go_wp2; go_end0; first | exact ⟨rfl,hfin⟩ | exact ⟨rfl,hfin2⟩)
set_option maxHeartbeats 2000000 in
set_option maxRecDepth 1000000 in
theorem Zb3 (b n:Nat)(w:World)(hbk:w.heap[b]? = some (.cells #[.pointer none,.slice none 0 0] 93 (0,0)))(hn:n≤281474976710656) :
  Calls Tryz.prog 168 #[.pointer (some ⟨b,0,none⟩),.int .i64 n] w fun e w'=>e=.returned (.tuple #[])∧Room b w w':=by
 have hbk1:(w.setCell ⟨b,0,none⟩ (.pointer (some ⟨b,0,none⟩))).heap[b]? = some (.cells #[.pointer (some ⟨b,0,none⟩),.slice none 0 0] 93 (0,0)):=by
  simp [World.setCell,Array.getElem?_modify,hbk]
 have c1:(w.setCell ⟨b,0,none⟩ (.pointer (some ⟨b,0,none⟩))).cell? ⟨b,1,none⟩=some (.slice none 0 0):=by rw [Lib.cell_of_heap hbk1]; rfl
 have c1':(w.setCell ⟨b,0,none⟩ (.pointer (some ⟨b,0,none⟩))).drew.cell? ⟨b,1,none⟩=some (.slice none 0 0):=c1
 have hs:KU b w (w.setCell ⟨b,0,none⟩ (.pointer (some ⟨b,0,none⟩))):=KU.setCell b w 0 _
 have hsz:w.heap.size≤(w.setCell ⟨b,0,none⟩ (.pointer (some ⟨b,0,none⟩))).heap.size:=hs.size
 have hU:Room b w (w.setCell ⟨b,0,none⟩ (.pointer (some ⟨b,0,none⟩))):=⟨hs,.slice none 0 0,hbk1,.inl rfl⟩
 have mixed:=Gl
 go_enter Tryz.func168,Tryz.ntmps168
 go_wp2_with (go_at_call 87; refine (Ro 93 2 b (by decide) (by kernel_rfl) w (by rw [Lib.cell_of_heap hbk]; rfl) (by simp [World.shape?,hbk]) (Lib.frozen_of_heap hbk 0)).mono ?_; rintro e w' ⟨rfl,rfl⟩)
 go_region_o
 all_goals go_wp2_with (go_at_call 208; refine (ZrN b n (w.setCell ⟨b,0,none⟩ (.pointer (some ⟨b,0,none⟩))).drew hbk1 hn).mono ?_; rintro e w' ⟨rfl,h1⟩)
 all_goals first
  | (go_end0; exact ⟨rfl,hs.trans h1.1.fromDrew,h1.2.imp fun v hv=>⟨hv.1,hv.2.imp id fun ⟨g,cs,e1,e2,e3⟩=>⟨g,cs,e1,Nat.le_trans hsz e2,e3⟩⟩⟩)
  | (go_end0; exact ⟨rfl,hU.drew⟩)
end Go.Proofs.YtleomfgijkapfaaGreatDoor
end
section
namespace Go.Proofs.YtleomfgijkapfaaGreatDoor
open Go.RowKit
theorem Zce {w:World}{b:Nat}{v:Value}{n:Nat}{xs:List Value}(h:w.ownsRow b 5 1 v n xs):w.ownsRow 0 5 1 v n xs:=by
 refine ⟨h.1,h.2.imp id ?_⟩
 rintro ⟨g,cap,cur,h1,_,h2⟩
 exact ⟨g,cap,cur,h1,Nat.zero_le _,h2⟩
def ZjR (w w':World)(v v':Value):Prop:=v'.ownBlock=v.ownBlock∨∃ g,v'.ownBlock=some g∧w.heap.size≤g∧∀ k,k < w.heap.size→w'.heap[k]? = w.heap[k]?
def ZoK (b:Nat)(w w':World)(v v':Value):Prop:=v'.ownBlock=v.ownBlock∨∃ g,v'.ownBlock=some g∧w.heap.size≤g∧∀ k,k < w.heap.size→k≠b→w'.heap[k]? = w.heap[k]?
theorem Zh0 (w:World)(ty:TypeId)(v:Value)(l:List UInt8)(s:ByteArray)(hown:w.ownsRow 0 5 1 v l.length (Lib.byteCells l))(hb:l.length + s.size≤140737488355328) :
  ∃ v' w',(Builtin.append_ #[91,9] ty #[v,.string s]).run Tryz.prog w=.ok v' w'∧w'.ownsRow 0 5 1 v' (l.length + s.size) (Lib.byteCells l ++ Lib.strCells s)∧w.grownBy w' v.ownBlock∧ZjR w w' v v':=by
 obtain ⟨i,hi,h⟩:=Option.map_eq_some_iff.1 ZlO
 have hz:i.zero=some (.int .u8 0):=congrArg (·.1) h
 have hs:i.size=1:=congrArg (·.2.1) h
 have hy:i.bytes=1:=congrArg (·.2.2) h
 have hl:(Lib.byteCells l).length=l.length:=Lib.byteCells_length l
 rcases hown.2 with ⟨rfl,h0⟩ | ⟨g,cap,cur,rfl,hbg,hg,hnc,hcm,hcs,htake⟩
 ·obtain ⟨v',w',h1,h2,h3,h4⟩:=Lib.run_append_own_string (P := Tryz.prog) w w.heap.size 91 9 ty 5 i Tryz.underlying91 Tryz.underlying9 hi hz hs hy (.slice none 0 0) l.length (Lib.byteCells l) ⟨hown.1,.inl ⟨rfl,h0⟩⟩ s (by unfold maxLen; omega) hb (Nat.le_refl _)
  refine ⟨v',w',h1,Zce h2,h3,?_⟩
  rcases h2.2 with ⟨rfl,_⟩ | ⟨g,_,_,rfl,hb,_⟩
  ·exact .inl rfl
  ·exact .inr ⟨g,rfl,hb,fun k hk=>h3.block k hk (by simp [Value.ownBlock])⟩
 ·obtain ⟨v',w',h1,h2,h3,h4⟩:=Lib.run_append_own_string (P := Tryz.prog) w 0 91 9 ty 5 i Tryz.underlying91 Tryz.underlying9 hi hz hs hy _ l.length (Lib.byteCells l) hown s (by unfold maxLen; omega) hb (Nat.zero_le _)
  refine ⟨v',w',h1,h2,h3,?_⟩
  by_cases hroom:l.length + s.size≤cap
  ·have hr:=Lib.run_append_room_string (P := Tryz.prog) w 91 9 ty 5 i Tryz.underlying91 Tryz.underlying9 hi hs g l.length cap cur hg s hroom (by omega)
   rw [hr] at h1; cases h1; exact .inl rfl
  ·have holds:∀ j u,(Lib.byteCells l)[j]? = some u→w.cell? ((⟨g,0,none⟩:Addr).add j)=some u:=hown.cells (g := g) rfl
   have hr:=Lib.run_append_grow_string (P := Tryz.prog) w 91 9 ty 5 i (.int .u8 0) Tryz.underlying91 Tryz.underlying9 hi hz ⟨g,0,none⟩ l.length cap (Lib.byteCells l) (by rw [hs]; omega) holds s (by omega) (by omega) (by rw [hy]; exact growslice_fits (by omega) (by omega))
   rw [hr] at h1; cases h1; exact .inr ⟨_,rfl,Nat.le_refl _,fun k hk=>heap_alloc_old w.drew _ hk⟩
theorem Zqs {ops:Array Oper}{rest:List Oper}{o:Oper}{a:Act}{w:World}{Q:Exit→Act→World→Prop}(hgd:o.guard=none)(sl x:Operand)
  (ho:o.op=.call { callee := .builtin .append,args := #[sl,x],argTypes := #[91,9] }) (v:Value) (l:List UInt8) (hs:a.eval sl=v) (hown:w.ownsRow 0 5 1 v l.length (Lib.byteCells l)) (s:ByteArray) (hx:a.eval x=.string s)
  (hb:l.length + s.size≤140737488355328)
  (h:∀ v' w',w'.ownsRow 0 5 1 v' (l.length + s.size) (Lib.byteCells l ++ Lib.strCells s)→w.grownBy w' v.ownBlock→ZjR w w' v v'→wpList Tryz.prog ops Q rest (a.put o.dst v') w'):wpList Tryz.prog ops Q (o :: rest) a w:=by
 refine wpList_plain hgd fun K hK=>?_
 obtain ⟨v',w',hr,h2,h3,h4⟩:=Zh0 w o.type v l s hown hb
 unfold Oper.wp execOp
 simp only [ho,resolve,invoke,builtin,Sem.run_bind,Sem.run_pure,Result.andThen_ok,List.map_toArray,List.map_cons,List.map_nil,hs,hx,hr]
 exact hK _ _ (h v' w' h2 h3 h4)
theorem ZlR (b:Nat)(p v:Value)(w:World)(hp:p=.pointer none∨p=.pointer (some ⟨b,0,none⟩))(hb:w.heap[b]? = some (.cells #[p,v] 93 (0,0))) :
  Calls Tryz.prog 87 #[.pointer (some ⟨b,0,none⟩)] w fun e w'=>e=.returned (.tuple #[])∧KU b w w'∧w'.heap.size=w.heap.size∧w'.heap[b]? = some (.cells #[.pointer (some ⟨b,0,none⟩),v] 93 (0,0)):=by
 rcases hp with rfl | rfl
 ·refine (Ro 93 2 b (by decide) (by kernel_rfl) w (by rw [Lib.cell_of_heap hb]; rfl) (by simp [World.shape?,hb]) (Lib.frozen_of_heap hb 0)).mono ?_
  rintro e w' ⟨rfl,rfl⟩
  exact ⟨rfl,KU.setCell b w 0 _,by simp [World.setCell],by simp [World.setCell,Array.getElem?_modify,hb]⟩
 ·refine (Zdf b w (by rw [Lib.cell_of_heap hb]; rfl)).mono ?_
  rintro e w' ⟨rfl,rfl⟩
  exact ⟨rfl,.refl b w',rfl,hb⟩
structure Wrote (b:Nat)(v:Value)(l:List UInt8)(w w':World):Prop where
 os:w'.os=w.os
 tape:w'.tape=w.tape
 output:w'.output=w.output
 size:w.heap.size≤w'.heap.size
 same:∀ k,k < w.heap.size→k≠b→some k≠v.ownBlock→w'.heap[k]? = w.heap[k]?
 row:∃ v',w'.heap[b]? = some (.cells #[.pointer (some ⟨b,0,none⟩),v'] 93 (0,0))∧w'.ownsRow 0 5 1 v' l.length (Lib.byteCells l)∧ZoK b w w' v v'
set_option maxRecDepth 1000000 in
set_option maxHeartbeats 2000000 in
theorem ZrP (b:Nat)(p v:Value)(l s:List UInt8)(w:World)(hp:p=.pointer none∨p=.pointer (some ⟨b,0,none⟩))(hb:w.heap[b]? = some (.cells #[p,v] 93 (0,0)))(hown:w.ownsRow 0 5 1 v l.length (Lib.byteCells l))(hne:v.ownBlock≠some b)(hl:l.length + s.length≤140737488355328) :
  Calls Tryz.prog 38 #[.pointer (some ⟨b,0,none⟩),.string ⟨s.toArray⟩] w fun e w'=>e=.returned (.tuple #[.int .i64 s.length,.nilIface])∧Wrote b v (l ++ s) w w':=by
 have mixed:=Gl
 have hsz:(⟨s.toArray⟩:ByteArray).size=s.length:=by simp [ByteArray.size]
 have hsc:Lib.strCells ⟨s.toArray⟩=Lib.byteCells s:=rfl
 go_enter Tryz.func38,Tryz.ntmps38
 go_wp2_with (go_at_call 87; refine (ZlR b p v w hp hb).mono ?_)
 rintro e w1 ⟨rfl,h1,h2,hbk⟩
 have c0:w1.cell? ⟨b,0,none⟩=some (.pointer (some ⟨b,0,none⟩)):=by rw [Lib.cell_of_heap hbk]; rfl
 have c1:w1.cell? ⟨b,1,none⟩=some v:=by rw [Lib.cell_of_heap hbk]; rfl
 have hown1:w1.ownsRow 0 5 1 v l.length (Lib.byteCells l):=by
  refine ⟨hown.1,hown.2.imp id ?_⟩
  rintro ⟨g,cap,cur,rfl,h3,h4,h5⟩
  refine ⟨g,cap,cur,rfl,h3,?_,h5⟩
  rw [h1.same g (by rcases Nat.lt_or_ge g w.heap.size with h' | h'; exact h'; rw [Array.getElem?_eq_none h'] at h4; cases h4) (fun e=>hne (by rw [e]; rfl))]
  exact h4
 go_wp2_with (at_builtin; refine Zqs rfl _ _ rfl _ l rfl hown1 ⟨s.toArray⟩ rfl (by rw [hsz]; exact hl) ?_)
 intro v' w2 hown' hgrow hfr
 have hlt:b < w1.heap.size:=by
  rcases Nat.lt_or_ge b w1.heap.size with h' | h'
  ·exact h'
  ·rw [Array.getElem?_eq_none h'] at hbk; cases hbk
 have hb2:w2.heap[b]? = some (.cells #[.pointer (some ⟨b,0,none⟩),v] 93 (0,0)):=by
  rw [hgrow.block b hlt (fun e=>hne e.symm)]
  exact hbk
 have d0:w2.cell? ⟨b,0,none⟩=some (.pointer (some ⟨b,0,none⟩)):=by rw [Lib.cell_of_heap hb2]; rfl
 have d1:w2.cell? ⟨b,1,none⟩=some v:=by rw [Lib.cell_of_heap hb2]; rfl
 have f1:w2.frozen? ⟨b,1,none⟩=false:=Lib.frozen_of_heap hb2 1
 have hnb:v'.ownBlock≠some b:=by
  rcases hfr with e | ⟨g,e,hg,hk⟩
  ·rw [e]; exact hne
  ·rw [e]; intro h; cases h; omega
 have fin:Wrote b v (l ++ s) w (w2.setCell ⟨b,1,none⟩ v'):=by
  refine ⟨hgrow.os.trans h1.os,hgrow.tape.trans h1.tape,hgrow.output.trans h1.output,?_,fun k hk hkb hkv=>?_,v',?_,?_,?_⟩
  ·have:=hgrow.size; have:=h1.size; simp only [World.setCell,Array.size_modify]; omega
  ·rw [Below.heap_setCell _ _ _ _ hkb,hgrow.block k (by omega) hkv,h1.same k hk hkb]
  ·simp [World.setCell,Array.getElem?_modify,hb2]
  ·rw [List.length_append,Lib.byteCells_append,← hsz,← hsc]
   refine ⟨hown'.1,hown'.2.imp id ?_⟩
   rintro ⟨g,cap,cur,rfl,h3,h4,h5⟩
   refine ⟨g,cap,cur,rfl,h3,?_,h5⟩
   rw [Below.heap_setCell _ _ _ _ (fun e=>hnb (congrArg some e:some g=some b))]
   exact h4
  ·rcases hfr with e | ⟨g,e,hg,hk⟩
   ·exact .inl e
   ·exact .inr ⟨g,e,by omega,fun k hk1 hk2=>by rw [Below.heap_setCell _ _ _ _ hk2,hk k (by omega),h1.same k hk1 hk2]⟩
 obtain ⟨ao,n',cap,rfl⟩:∃ ao n' cap,v'=.slice ao n' cap:=by
  rcases hown'.2 with ⟨hv,_⟩ | ⟨g,cap,cur,hv,_⟩
  ·exact ⟨_,_,_,hv⟩
  ·exact ⟨_,_,_,hv⟩
 go_wp2
 go_ret2
 exact ⟨rfl,fin⟩
theorem Zgl (w:World)(ty:TypeId)(v:Value)(l:List UInt8)(ad:Addr)(x:UInt8)(hx:w.cell? ad=some (.int .u8 x.toNat))(hown:w.ownsRow 0 5 1 v l.length (Lib.byteCells l))(hb:l.length + 1≤140737488355328) :
  ∃ v' w',(Builtin.append_ #[91,91] ty #[v,.slice (some ad) 1 1]).run Tryz.prog w=.ok v' w'∧w'.ownsRow 0 5 1 v' (l.length + 1) (Lib.byteCells l ++ [.int .u8 x.toNat])∧w.grownBy w' v.ownBlock∧ZjR w w' v v':=by
 obtain ⟨i,hi,h⟩:=Option.map_eq_some_iff.1 ZlO
 have hz:i.zero=some (.int .u8 0):=congrArg (·.1) h
 have hs:i.size=1:=congrArg (·.2.1) h
 have hy:i.bytes=1:=congrArg (·.2.2) h
 have hl:(Lib.byteCells l).length=l.length:=Lib.byteCells_length l
 have hn:∀ j u,([.int .u8 x.toNat]:List Value)[j]? = some u→w.cell? (ad.add j)=some u:=fun j u hj=>by
  match j,hj with
  | 0,hj=>cases hj; rw [show ad.add 0=ad by simp [Addr.add]]; exact hx
 have h1:∀ u ∈ ([.int .u8 x.toNat]:List Value),u.oneCell'=true:=fun u hu=>by simp at hu; subst hu; rfl
 rcases hown.2 with ⟨rfl,h0⟩ | ⟨g,cap,cur,rfl,hbg,hg,hnc,hcm,hcs,htake⟩
 ·obtain ⟨v',w',h1,h2,h3,h4⟩:=run_append_own (P := Tryz.prog) w w.heap.size 91 ty 5 i (.int .u8 0) 1 1 Tryz.underlying91 hi hz hs hy rfl (by decide) (.slice none 0 0) l.length (Lib.byteCells l) ⟨hown.1,.inl ⟨rfl,h0⟩⟩ ad 1 1 [.int .u8 x.toNat] rfl hn h1 (by unfold maxLen; omega) (by omega) (Nat.le_refl _)
  refine ⟨v',w',h1,Zce h2,h3,?_⟩
  rcases h2.2 with ⟨rfl,_⟩ | ⟨g,_,_,rfl,hb,_⟩
  ·exact .inl rfl
  ·exact .inr ⟨g,rfl,hb,fun k hk=>h3.block k hk (by simp [Value.ownBlock])⟩
 ·obtain ⟨v',w',h3,h4,h5,h6⟩:=run_append_own (P := Tryz.prog) w 0 91 ty 5 i (.int .u8 0) 1 1 Tryz.underlying91 hi hz hs hy rfl (by decide) _ l.length (Lib.byteCells l) hown ad 1 1 [.int .u8 x.toNat] rfl hn h1 (by unfold maxLen; omega) (by omega) (Nat.zero_le _)
  refine ⟨v',w',h3,h4,h5,?_⟩
  by_cases hroom:l.length + 1≤cap
  ·have hr:=run_append_room (P := Tryz.prog) w 91 ty 5 i Tryz.underlying91 hi g l.length cap cur hg ad 1 1 [.int .u8 x.toNat] (by rw [hs]; rfl) hn h1 hroom (by rw [hs]; simp only [List.length_cons,List.length_nil]; omega)
   rw [hr] at h3; cases h3; exact .inl rfl
  ·have holds:∀ j u,(Lib.byteCells l)[j]? = some u→w.cell? ((⟨g,0,none⟩:Addr).add j)=some u:=hown.cells (g := g) rfl
   have hr:=run_append_grow (P := Tryz.prog) w 91 ty 5 i (.int .u8 0) Tryz.underlying91 hi hz ⟨g,0,none⟩ l.length cap (Lib.byteCells l) (by rw [hs]; omega) holds ad 1 1 [.int .u8 x.toNat] (by rw [hs]; rfl) hn (by omega) (by omega) (by rw [hy]; exact growslice_fits (by omega) (by omega))
   rw [hr] at h3; cases h3; exact .inr ⟨_,rfl,Nat.le_refl _,fun k hk=>heap_alloc_old w.drew _ hk⟩
theorem Zo7 {ops:Array Oper}{rest:List Oper}{o:Oper}{a:Act}{w:World}{Q:Exit→Act→World→Prop}(hgd:o.guard=none)(sl x:Operand)
  (ho:o.op=.call { callee := .builtin .append,args := #[sl,x],argTypes := #[91,91] }) (v:Value) (l:List UInt8) (hs:a.eval sl=v) (hown:w.ownsRow 0 5 1 v l.length (Lib.byteCells l)) (ad:Addr) (c:UInt8) (hx:a.eval x=.slice (some ad) 1 1) (hc:w.cell? ad=some (.int .u8 c.toNat))
  (hb:l.length + 1≤140737488355328)
  (h:∀ v' w',w'.ownsRow 0 5 1 v' (l.length + 1) (Lib.byteCells l ++ [.int .u8 c.toNat])→w.grownBy w' v.ownBlock→ZjR w w' v v'→wpList Tryz.prog ops Q rest (a.put o.dst v') w'):wpList Tryz.prog ops Q (o :: rest) a w:=by
 refine wpList_plain hgd fun K hK=>?_
 obtain ⟨v',w',hr,h2,h3,h4⟩:=Zgl w o.type v l ad c hc hown hb
 unfold Oper.wp execOp
 simp only [ho,resolve,invoke,builtin,Sem.run_bind,Sem.run_pure,Result.andThen_ok,List.map_toArray,List.map_cons,List.map_nil,hs,hx,hr]
 exact hK _ _ (h v' w' h2 h3 h4)
set_option maxRecDepth 1000000 in
set_option maxHeartbeats 2000000 in
theorem ZrO (b:Nat)(p v:Value)(l:List UInt8)(c:UInt8)(w:World)(hp:p=.pointer none∨p=.pointer (some ⟨b,0,none⟩))(hb:w.heap[b]? = some (.cells #[p,v] 93 (0,0)))(hown:w.ownsRow 0 5 1 v l.length (Lib.byteCells l))(hne:v.ownBlock≠some b)(hl:l.length + 1≤140737488355328) :
  Calls Tryz.prog 44 #[.pointer (some ⟨b,0,none⟩),.int .u8 c.toNat] w fun e w'=>e=.returned .nilIface∧Wrote b v (l ++ [c]) w w':=by
 have mixed:=Gl
 go_enter Tryz.func44,Tryz.ntmps44
 go_wp2_with (go_at_call 87; refine (ZlR b p v w hp hb).mono ?_)
 rintro e w1 ⟨rfl,h1,h2,hbk⟩
 have c0:w1.cell? ⟨b,0,none⟩=some (.pointer (some ⟨b,0,none⟩)):=by rw [Lib.cell_of_heap hbk]; rfl
 have c1:w1.cell? ⟨b,1,none⟩=some v:=by rw [Lib.cell_of_heap hbk]; rfl
 have hown1:w1.ownsRow 0 5 1 v l.length (Lib.byteCells l):=by
  refine ⟨hown.1,hown.2.imp id ?_⟩
  rintro ⟨g,cap,cur,rfl,h3,h4,h5⟩
  refine ⟨g,cap,cur,rfl,h3,?_,h5⟩
  rw [h1.same g (by rcases Nat.lt_or_ge g w.heap.size with h' | h'; exact h'; rw [Array.getElem?_eq_none h'] at h4; cases h4) (fun e=>hne (by rw [e]; rfl))]
  exact h4
 go_wp2_with (at_builtin; refine Zo7 rfl _ _ rfl _ l rfl (hown1.alloc _) _ c rfl ?c1 hl ?_)
 case c1=>rw [← h2]; simp
 intro v' w2 hown' hgrow hfr
 have hlt:b < w1.heap.size:=by
  rcases Nat.lt_or_ge b w1.heap.size with h' | h'
  ·exact h'
  ·rw [Array.getElem?_eq_none h'] at hbk; cases hbk
 have hb2:w2.heap[b]? = some (.cells #[.pointer (some ⟨b,0,none⟩),v] 93 (0,0)):=by
  rw [hgrow.block b (by simp; omega) (fun e=>hne e.symm),Lib.alloc_old w1 _ b hlt]
  exact hbk
 have d0:w2.cell? ⟨b,0,none⟩=some (.pointer (some ⟨b,0,none⟩)):=by rw [Lib.cell_of_heap hb2]; rfl
 have d1:w2.cell? ⟨b,1,none⟩=some v:=by rw [Lib.cell_of_heap hb2]; rfl
 have f1:w2.frozen? ⟨b,1,none⟩=false:=Lib.frozen_of_heap hb2 1
 have hsz1:=hgrow.size
 simp only [World.alloc,Array.size_push] at hsz1
 have hnb:v'.ownBlock≠some b:=by
  rcases hfr with e | ⟨g,e,hg,hk⟩
  ·rw [e]; exact hne
  ·rw [e]; intro h; cases h; simp at hg; omega
 have fin:Wrote b v (l ++ [c]) w (w2.setCell ⟨b,1,none⟩ v'):=by
  refine ⟨hgrow.os.trans h1.os,hgrow.tape.trans h1.tape,hgrow.output.trans h1.output,?_,fun k hk hkb hkv=>?_,v',?_,?_,?_⟩
  ·have:=h1.size; simp only [World.setCell,Array.size_modify]; omega
  ·rw [Below.heap_setCell _ _ _ _ hkb,hgrow.block k (by simp; omega) hkv,Lib.alloc_old w1 _ k (by omega),h1.same k hk hkb]
  ·simp [World.setCell,Array.getElem?_modify,hb2]
  ·rw [List.length_append,Lib.byteCells_append]
   refine ⟨hown'.1,hown'.2.imp id ?_⟩
   rintro ⟨g,cap,cur,rfl,h3,h4,h5⟩
   refine ⟨g,cap,cur,rfl,h3,?_,h5⟩
   rw [Below.heap_setCell _ _ _ _ (fun e=>hnb (congrArg some e:some g=some b))]
   exact h4
  ·rcases hfr with e | ⟨g,e,hg,hk⟩
   ·exact .inl e
   ·exact .inr ⟨g,e,by simp at hg; omega,fun k hk1 hk2=>by rw [Below.heap_setCell _ _ _ _ hk2,hk k (by simp; omega),Lib.alloc_old w1 _ k (by omega),h1.same k hk1 hk2]⟩
 obtain ⟨ao,n',cap,rfl⟩:∃ ao n' cap,v'=.slice ao n' cap:=by
  rcases hown'.2 with ⟨hv,_⟩ | ⟨g,cap,cur,hv,_⟩
  ·exact ⟨_,_,_,hv⟩
  ·exact ⟨_,_,_,hv⟩
 go_wp2
 go_ret
 exact ⟨rfl,fin⟩
end Go.Proofs.YtleomfgijkapfaaGreatDoor
end
section
namespace Go.Proofs.YtleomfgijkapfaaGreatDoor.Abs
open Go Go.RowKit
def Zbw (o:Option Zp):Option (List UInt8):=match o with
 | some (.cells [.nilp,.nils 1] t)=>if t=93 then some [] else none
 | some (.buf l t e)=>if t=93∧e=5 then some l else none
 | _=>none
def wsO (f:FuncId)(args:List AV)(hp:List Zp):Option (AV×List Zp×Eff) :=
 if f=38 then match args with
  | [.ptr p 0,.str s]=>match Zbw hp[p]? with
   | some l=>if l.length + s.length≤140737488355328 then some (.tup [.int .i64 s.length,.nili],hp.set p (.buf (l ++ s) 93 5),some (p,0)) else none
   | none=>none
  | _=>none
 else none
def wbO (f:FuncId)(args:List AV)(hp:List Zp):Option (AV×List Zp×Eff) :=
 if f=44 then match args with
  | [.ptr p 0,.int .u8 c]=>match Zbw hp[p]? with
   | some l=>if l.length + 1≤140737488355328∧0≤c∧c < 256 then some (.nili,hp.set p (.buf (l ++ [UInt8.ofNat c.toNat]) 93 5),some (p,0)) else none
   | none=>none
  | _=>none
 else none
section
variable {W0 w:World}{Γ:Zo}{hp:List Zp}
theorem inv0 (hr:RW W0 Γ w hp)(ht:Tidy Γ hp.length):Inv ⟨W0,Γ,w⟩ ⟨[],hp,none,hp.length⟩ Γ { tmps := #[],defers := [] } w :=
 ⟨rfl,⟨rfl,fun t y hy=>by simp at hy,fun t y hy=>by simp at hy⟩,hr,.refl _ _ _,fun b g hb=>hr.lt b g hb,fun b m g i hb=>ht.cell b m g i hb,Nat.le_refl _,fun _ _ hb _=>hb⟩
theorem Zrv {s:Za}{Γ':Zo}{a:Act}{w':World}{v:AV}{cv:Value}(h:Inv ⟨W0,Γ,w⟩ s Γ' a w')(hb:s.bs=hp.length)(hr:Rep Γ' w' v cv)(ho:∀ k r,v≠.own k r) :
  ∃ Γ',RW W0 Γ' w' s.hp∧Rep Γ' w' v cv∧OwnAt Γ' w' .res v cv∧Frame Γ w Γ' w' s.ef∧hp.length≤s.hp.length∧∀ b g,Γ' b=.own g→g < hp.length→Γ b=.own g :=
 ⟨Γ',h.rw,hr,.of_ne ho,h.fr,by rw [← hb]; exact h.le,fun b g h1 h2=>h.back b g h1 (by rw [hb]; exact h2)⟩
theorem Zrn {sl:List AV}{h:List Zp}{p:Nat}(h0:p < hp.length):Za.note ⟨sl,h,none,hp.length⟩ p 0=some (p,0):=by
 unfold Za.note
 rw [if_pos h0]; rfl
theorem Tu {xs:Array Value}{p:Nat}(h:Rep Γ w (.ptr p 0) (xs.getD 0 Go.undef)):∃ b,Γ b=.own p∧xs.getD 0 Go.undef=.pointer (some ⟨b,0,none⟩):=by
 generalize xs.getD 0 Go.undef=u at h
 cases h with
 | ptr _ _ b hb=>exact ⟨b,hb,rfl⟩
theorem TR {xs:Array Value}{a b:Value}(hs:xs.size=2)(h0:xs.getD 0 Go.undef=a)(h1:xs.getD 1 Go.undef=b):xs=#[a,b]:=by
 refine Array.ext (by simpa using hs) fun i h2 h3=>?_
 have:i=0∨i=1:=by simp at h3; omega
 rcases this with rfl | rfl
 ·rw [Array.getD_eq_getD_getElem?,Array.getElem?_eq_getElem h2] at h0; simpa using h0
 ·rw [Array.getD_eq_getD_getElem?,Array.getElem?_eq_getElem h2] at h1; simpa using h1
theorem Zbx (hr:RW W0 Γ w hp){p b:Nat}{l:List UInt8}(hb:Γ b=.own p)(h:Zbw hp[p]? = some l) :
  p < hp.length∧∃ pv v,w.heap[b]? = some (.cells #[pv,v] 93 (0,0))∧(pv=.pointer none∨pv=.pointer (some ⟨b,0,none⟩))∧w.ownsRow 0 5 1 v l.length (Lib.byteCells l)∧∀ k,v.ownBlock=some k→Γ k=.list l.length (.cell p 1):=by
 unfold Zbw at h
 split at h <;> first | (cases h; done) | skip
 ·rename_i t hg
  split at h <;> cases h
  rename_i ht
  subst ht
  obtain ⟨b',C,h1,h2,h3,h4⟩:=hr.objs p _ hg
  obtain rfl:=hr.inj b b' p hb h1
  have c0:C.getD 0 Go.undef=.pointer none:=by
   have:=(h4 0 .nilp rfl).2.1
   generalize C.getD 0 Go.undef=u at this
   cases this; rfl
  have c1:C.getD 1 Go.undef=.slice none 0 0:=by
   have:=(h4 1 (.nils 1) rfl).2.1
   generalize C.getD 1 Go.undef=u at this
   cases this; rfl
  obtain rfl:=TR (by rw [h3]; rfl) c0 c1
  exact ⟨Ze hg,_,_,h2,.inl rfl,⟨rfl,.inl ⟨rfl,rfl⟩⟩,fun k hk=>by cases hk⟩
 ·rename_i l' t e hg
  split at h <;> cases h
  rename_i ht
  obtain ⟨rfl,rfl⟩:=ht
  obtain ⟨b',C,h1,h2,h3⟩:=hr.objs p _ hg
  obtain rfl:=hr.inj b b' p hb h1
  refine ⟨Ze hg,?_⟩
  rcases h3 with ⟨rfl,rfl | rfl⟩ | ⟨k,cap,cur,rfl,h4,h5,h6,h7,h8,h9⟩
  ·exact ⟨_,_,h2,.inl rfl,⟨rfl,.inl ⟨rfl,rfl⟩⟩,fun k hk=>by cases hk⟩
  ·exact ⟨_,_,h2,.inr rfl,⟨rfl,.inl ⟨rfl,rfl⟩⟩,fun k hk=>by cases hk⟩
  ·refine ⟨_,_,h2,.inr rfl,⟨by rw [Lib.byteCells_length]; omega,.inr ⟨k,cap,cur,rfl,Nat.zero_le _,h5,h6,h7,by omega,?_⟩⟩,fun k hk=>by cases hk; exact h4⟩
   refine List.ext_getElem? fun j=>?_
   by_cases hj:j < l.length
   ·rw [List.getElem?_take,if_pos (by omega),Array.getElem?_toList,h9 j _ (List.getElem?_eq_getElem hj)]
    simp [Lib.byteCells,hj]
   ·rw [List.getElem?_take,if_neg (by omega),List.getElem?_eq_none (by rw [Lib.byteCells_length]; omega)]
theorem ZfO {w:World}{l:List UInt8}{g n cap:Nat}(h:w.ownsRow 0 5 1 (.slice (some ⟨g,0,none⟩) n cap) l.length (Lib.byteCells l)){j:Nat}{x:UInt8}(hj:l[j]? = some x):w.cell? ⟨g,j,none⟩=some (.int .u8 x.toNat):=by
 have:=World.ownsRow.cells h (g := g) rfl (j := j) (u := .int .u8 x.toNat) (by simp [Lib.byteCells,hj])
 have ha:(⟨g,0,none⟩:Addr).add j=⟨g,j,none⟩:=by simp [Addr.add]; intro h; exact h.symm
 rw [ha] at this; exact this
theorem Ed (hr:RW W0 Γ w hp){p b:Nat}{w':World}{pv v:Value}{l s:List UInt8}{r:AV}{cr:Value}(hb:Γ b=.own p)(hpl:p < hp.length)(hbk:w.heap[b]? = some (.cells #[pv,v] 93 (0,0)))
  (hown:w.ownsRow 0 5 1 v l.length (Lib.byteCells l)) (hG:∀ k,v.ownBlock=some k→Γ k=.list l.length (.cell p 1)) (hw:Wrote b v (l ++ s) w w') (hrr:∀ Γ' w',Rep Γ' w' r cr) (hrn:∀ k x,r≠.own k x) :
  ∃ Γ',RW W0 Γ' w' (hp.set p (.buf (l ++ s) 93 5))∧Rep Γ' w' r cr∧OwnAt Γ' w' .res r cr∧Frame Γ w Γ' w' (some (p,0))∧hp.length≤(hp.set p (.buf (l ++ s) 93 5)).length∧∀ b g,Γ' b=.own g→g < hp.length→Γ b=.own g:=by
 obtain ⟨v',hb',hown',hfr⟩:=hw.row
 have hblt:b < w.heap.size:=lt_of_some hbk
 have hvlt:∀ k,v.ownBlock=some k→k < w.heap.size:=fun k hk=>(hown.lt k hk).2
 have hvlt':∀ k,v'.ownBlock=some k→k < w'.heap.size:=fun k hk=>(hown'.lt k hk).2
 have hvb:∀ k,v.ownBlock=some k→k≠b:=fun k hk e=>by subst e; have:=hG k hk; rw [hb] at this; cases this
 let Γ':Zo:=fun k=>if v'.ownBlock=some k then .list (l ++ s).length (.cell p 1) else if v.ownBlock=some k then .imm else Γ k
 have g1:∀ k,v'.ownBlock=some k→Γ' k=.list (l ++ s).length (.cell p 1):=fun k hk=>by simp only [Γ',if_pos hk]
 have g2:∀ k,v'.ownBlock≠some k→v.ownBlock=some k→Γ' k=.imm:=fun k hk hk2=>by simp only [Γ',if_neg hk,if_pos hk2]
 have g3:∀ k,v'.ownBlock≠some k→v.ownBlock≠some k→Γ' k=Γ k:=fun k hk hk2=>by simp only [Γ',if_neg hk,if_neg hk2]
 have hold:∀ k,k < w.heap.size→v.ownBlock≠some k→v'.ownBlock≠some k:=fun k hk hk2 e=>by
  rcases hfr with h | ⟨g,h,hg,_⟩
  ·exact hk2 (by rw [← h]; exact e)
  ·rw [h] at e; cases e; omega
 have hsame:∀ k,k < w.heap.size→k≠b→(v.ownBlock=some k→v'.ownBlock≠some k)→w'.heap[k]? = w.heap[k]?:=fun k hk hkb hk2=>by
  by_cases h:v.ownBlock=some k
  ·rcases hfr with h' | ⟨g,h',hg,hf⟩
   ·exact absurd (by rw [h']; exact h) (hk2 h)
   ·exact hf k hk hkb
  ·exact hw.same k hk hkb fun e=>h e.symm
 have gb:v'.ownBlock≠some b:=by
  rcases hfr with h | ⟨g,h,hg,_⟩
  ·rw [h]; exact fun e=>hvb b e rfl
  ·rw [h]; intro e; cases e; omega
 have gb2:Γ' b=.own p:=by rw [g3 b gb (fun e=>hvb b e rfl)]; exact hb
 have own1:∀ k g,Γ' k=.own g→Γ k=.own g:=fun k g h=>by
  by_cases h1:v'.ownBlock=some k
  ·rw [g1 k h1] at h; cases h
  ·by_cases h2:v.ownBlock=some k
   ·rw [g2 k h1 h2] at h; cases h
   ·rw [g3 k h1 h2] at h; exact h
 have st:Step Γ w Γ' w' fun k=>k=b∨v.ownBlock=some k:=by
  refine ⟨hw.os,hw.tape,hw.output,hw.size,fun k hk hx=>?_,fun k o y hf hc=>?_,fun k g hk=>?_⟩
  ·have hkb:k≠b:=fun e=>hx (.inl e)
   have hkv:v.ownBlock≠some k:=fun e=>hx (.inr e)
   exact ⟨g3 k (hold k hk hkv) hkv,hsame k hk hkb fun e=>absurd e hkv⟩
  ·have hklt:=lt_of_cell hc
   by_cases hkb:k=b
   ·subst hkb; unfold Jf at hf; rw [hb] at hf; exact hf.elim
   by_cases h1:v'.ownBlock=some k
   ·have h2:v.ownBlock=some k:=by
     rcases hfr with h | ⟨g,h,hg,_⟩
     ·rw [← h]; exact h1
     ·rw [h] at h1; cases h1; omega
    unfold Jf at hf ⊢
    rw [hG k h2] at hf
    rw [g1 k h1]
    refine ⟨Nat.lt_of_lt_of_le hf (by simp),?_⟩
    have hol:o < l.length:=hf
    cases v with
    | slice ad n cap =>
     cases v' with
     | slice ad' n' cap' =>
      cases ad with
      | none=>cases h2
      | some a =>
       cases ad' with
       | none=>cases h1
       | some a' =>
        rcases hown.2 with ⟨e,_⟩ | ⟨q,c1,c2,e,_⟩
        ·cases e
        cases e
        rcases hown'.2 with ⟨e,_⟩ | ⟨q',c1',c2',e,_⟩
        ·cases e
        cases e
        cases h1; cases h2
        have e1:=ZfO hown (List.getElem?_eq_getElem hol)
        have e2:=ZfO hown' (j := o) (x := l[o]) (by rw [List.getElem?_append_left hol]; exact List.getElem?_eq_getElem hol)
        rw [e1] at hc
        rw [e2]; exact hc
     | _=>cases h1
    | _=>cases h2
   ·have hs:=hsame k hklt hkb fun _=>h1
    refine ⟨?_,(WZ hs).trans hc⟩
    unfold Jf at hf ⊢
    by_cases h2:v.ownBlock=some k
    ·rw [g2 k h1 h2]; trivial
    ·rw [g3 k h1 h2]; exact hf
  ·have h2:v.ownBlock≠some k:=fun e=>by rw [hG k e] at hk; cases hk
   have h1:v'.ownBlock≠some k:=by
    rcases Nat.lt_or_ge k w.heap.size with h | h
    ·exact hold k h h2
    ·rw [hr.fresh k h] at hk; cases hk
   rw [g3 k h1 h2]; exact hk
 have nimm:∀ k,(k=b∨v.ownBlock=some k)→Γ k≠.imm:=fun k hk e=>by
  rcases hk with rfl | hk
  ·rw [hb] at e; cases e
  ·rw [hG k hk] at e; cases e
 obtain ⟨o1,o2⟩:=VY hr.old hr.oldImm st nimm
 refine ⟨Γ',⟨fun g o hg=>?_,fun b1 b2 g e1 e2=>hr.inj b1 b2 g (own1 _ _ e1) (own1 _ _ e2),fun k hk=>?_,fun k g hk=>by rw [List.length_set]; exact hr.lt k g (own1 k g hk),o1,o2,fun g hg k hk=>?_⟩,hrr _ _,.of_ne hrn,
  ⟨st.os,st.tape,st.output,st.size,st.fix,st.own,fun k hk hkp=>?_⟩,by simp,fun k g hk _=>own1 k g hk⟩
 ·by_cases hgp:g=p
  ·subst hgp
   rw [List.getElem?_set_self hpl] at hg
   cases hg
   refine ⟨b,_,gb2,hb',?_⟩
   rcases hown'.2 with ⟨rfl,h0⟩ | ⟨q,cap,cur,rfl,_,h5,h6,h7,h8,h9⟩
   ·exact .inl ⟨List.eq_nil_of_length_eq_zero h0,.inr rfl⟩
   ·refine .inr ⟨q,cap,cur,rfl,g1 q rfl,h5,h6,h7,by omega,fun j x hj=>?_⟩
    have:=congrArg (fun z:List Value=>z[j]?) h9
    have hjl:=Ze hj
    simp only [List.getElem?_take] at this
    rw [if_pos (by omega),Array.getElem?_toList] at this
    rw [this]
    simp only [Lib.byteCells,List.getElem?_map,hj]; rfl
  ·rw [List.getElem?_set_ne (fun e=>hgp e.symm)] at hg
   refine (hr.objs g o hg).step st hr.fresh (fun k hk e=>?_) fun k n i hk e=>?_
   ·rcases hk with rfl | hk
    ·rw [hb] at e; cases e; exact hgp rfl
    ·rw [hG k hk] at e; cases e
   ·rcases hk with rfl | hk
    ·rw [hb] at e; cases e
    ·rw [hG k hk] at e; cases e; exact hgp rfl
 ·have h1:v'.ownBlock≠some k:=fun e=>by have:=hvlt' k e; omega
  have h2:v.ownBlock≠some k:=fun e=>by have:=hvlt k e; have:=hw.size; omega
  rw [g3 k h1 h2]; exact hr.fresh k (Nat.le_trans hw.size hk)
 ·by_cases hgp:g=p
  ·subst hgp; rw [List.getElem?_set_self hpl] at hg; cases hg
  ·rw [List.getElem?_set_ne (fun e=>hgp e.symm)] at hg
   exact hr.dead g hg k (own1 k g hk)
 ·refine st.same k hk fun hx=>?_
  rcases hx with rfl | hx
  ·rw [hb] at hkp; exact absurd (hkp p 0 rfl) (Nat.lt_irrefl _)
  ·rw [hG k hx] at hkp; exact absurd (hkp p 0 rfl) (Nat.lt_irrefl _)
theorem Ec {f:FuncId}{fn:Func}{c:Code}{xs:Array Value}{R:Value→World→Prop}(hf:Tryz.prog.funcs[f]? = some fn)(hn:(fn.name == "runtime.NumGoroutine")=false)(hb:fn.body=some c)
  (h:Calls Tryz.prog f xs w fun e w'=>∃ v,e=.returned v∧R v w'):ZjJ Tryz.prog f xs w R:=YG hf hn hb h
end
theorem Zm7 (W0:World):Z5 Tryz.prog W0 wsO:=by
 intro g args hp v hp' e hc Γ w xs hr ht hs hx
 unfold wsO at hc
 split at hc <;> first | (cases hc; done) | skip
 rename_i hf
 subst hf
 split at hc <;> first | (cases hc; done) | skip
 rename_i p s
 split at hc <;> first | (cases hc; done) | skip
 rename_i l hl
 split at hc <;> first | (cases hc; done) | skip
 rename_i hle
 cases hc
 obtain ⟨b,hb,h0⟩:=Tu (hx 0 _ rfl).1
 have h1:xs.getD 1 Go.undef=.string ⟨s.toArray⟩:=by
  have:=(hx 1 _ rfl).1
  generalize xs.getD 1 Go.undef=u at this
  cases this; rfl
 obtain rfl:=TR hs h0 h1
 obtain ⟨hpl,pv,v,k1,k2,k3,k4⟩:=Zbx hr hb hl
 have hne:v.ownBlock≠some b:=fun e=>by have:=k4 b e; rw [hb] at this; cases this
 refine Ec Tryz.func38 (by kernel_rfl) rfl ((ZrP b pv v l s w k2 k1 k3 hne hle).mono ?_)
 rintro e w' ⟨rfl,hw⟩
 refine ⟨_,rfl,Ed hr hb hpl k1 k3 k4 hw (fun Γ' w'=>.tup _ _ rfl fun j c hj=>?_) (fun _ _ h=>by cases h)⟩
 match j,hj with
 | 0,hj=>cases hj; exact .int _ _
 | 1,hj=>cases hj; exact .nili
theorem Zm5 (W0:World):Z5 Tryz.prog W0 wbO:=by
 intro g args hp v hp' e hc Γ w xs hr ht hs hx
 unfold wbO at hc
 split at hc <;> first | (cases hc; done) | skip
 rename_i hf
 subst hf
 split at hc <;> first | (cases hc; done) | skip
 rename_i p c
 split at hc <;> first | (cases hc; done) | skip
 rename_i l hl
 split at hc <;> first | (cases hc; done) | skip
 rename_i hle
 cases hc
 obtain ⟨b,hb,h0⟩:=Tu (hx 0 _ rfl).1
 have hcn:((UInt8.ofNat c.toNat).toNat:Int)=c:=by
  have:(UInt8.ofNat c.toNat).toNat=c.toNat:=by simp [UInt8.toNat_ofNat']; omega
  omega
 have h1:xs.getD 1 Go.undef=.int .u8 (UInt8.ofNat c.toNat).toNat:=by
  have:=(hx 1 _ rfl).1
  rw [hcn]
  generalize xs.getD 1 Go.undef=u at this
  cases this; rfl
 obtain rfl:=TR hs h0 h1
 obtain ⟨hpl,pv,v,k1,k2,k3,k4⟩:=Zbx hr hb hl
 have hne:v.ownBlock≠some b:=fun e=>by have:=k4 b e; rw [hb] at this; cases this
 refine Ec Tryz.func44 (by kernel_rfl) rfl ((ZrO b pv v l _ w k2 k1 k3 hne hle.1).mono ?_)
 rintro e w' ⟨rfl,hw⟩
 exact ⟨_,rfl,Ed hr hb hpl k1 k3 k4 hw (fun Γ' w'=>.nili) (fun _ _ h=>by cases h)⟩
theorem Zl9 {W0 w:World}{Γ:Zo}{hp:List Zp}{p b:Nat}{l:List UInt8}{c:AV}(hr:RW W0 Γ w hp)(ht:Tidy Γ hp.length)(hb:Γ b=.own p)(hg:hp[p]? = some (.cells [c,.own 1 (l.map byteRow)] 93))
  (typ:∀ k cur e0 cap n,w.cell? ⟨b,1,none⟩=some (.slice (some ⟨k,0,none⟩) n cap)→w.heap[k]? = some (.cells cur e0 (0,0))→e0=5) :
  ZjJ Tryz.prog 45 #[.pointer (some ⟨b,0,none⟩)] w fun cv w'=>∃ Γ',RW W0 Γ' w' (hp.set p (.cells [c,.lst 1 (l.map byteRow)] 93))∧Rep Γ' w' (.str l) cv∧OwnAt Γ' w' .res (.str l) cv∧Frame Γ w Γ' w' (some (p,0))∧hp.length≤(hp.set p (.cells [c,.lst 1 (l.map byteRow)] 93)).length∧∀ b g,Γ' b=.own g→g < hp.length→Γ b=.own g:=by
 have hw:∀ {R:Value→World→Prop},Calls Tryz.prog 45 #[.pointer (some ⟨b,0,none⟩)] w (fun e w'=>∃ v,e=.returned v∧R v w')→ZjJ Tryz.prog 45 #[.pointer (some ⟨b,0,none⟩)] w R:=fun h=>Ec Tryz.func45 (by kernel_rfl) rfl h
 obtain ⟨rows,hrows⟩:∃ r,l.map byteRow=r:=⟨_,rfl⟩
 have rl:rows.length=l.length:=by rw [← hrows]; simp
 have rg:∀ (j:Nat) (x:UInt8),l[j]? = some x→rows[j]? = some [.int .u8 x.toNat]:=fun j x hj=>by rw [← hrows,List.getElem?_map,hj]; rfl
 rw [hrows] at hg ⊢
 obtain ⟨b',C,h1,h2,h3,h4⟩:=hr.objs p _ hg
 obtain rfl:=hr.inj b b' p hb h1
 have hpl:p < hp.length:=Ze hg
 have hCs:C.size=2:=by rw [h3]; rfl
 have hc1:w.cell? ⟨b,1,none⟩=some (C.getD 1 Go.undef):=by
  rw [Lib.cell_of_heap h2]; exact Yd (by omega)
 obtain ⟨_,q1,q2⟩:=h4 1 _ rfl
 have iL:=(inv0 hr ht).loose hg (off := 1) (v := .own 1 rows) rfl
 simp only at iL
 rw [Zrn hpl] at iL
 have fin:∀ {g:Nat} {w':World},KU g w w'→(∀ o,w'.cell? ⟨g,o,none⟩=w.cell? ⟨g,o,none⟩)→(w.heap.size≤g∨(∃ n,Γ g=.list n (.cell p 1))) →
   ∃ Γ',RW W0 Γ' w' (hp.set p (.cells [c,.lst 1 rows] 93))∧Rep Γ' w' (.str l) (.string ⟨l.toArray⟩)∧OwnAt Γ' w' .res (.str l) (.string ⟨l.toArray⟩)∧Frame Γ w Γ' w' (some (p,0))∧hp.length≤(hp.set p (.cells [c,.lst 1 rows] 93)).length∧∀ b g,Γ' b=.own g→g < hp.length→Γ b=.own g:=by
  intro g w' hsole hcell hk
  have st:Step (relab Γ (.cell p 1) (Ug .res)) w (BO (relab Γ (.cell p 1) (Ug .res)) g .imm) w' (· = g):=by
   refine ⟨hsole.os,hsole.tape,hsole.output,hsole.size,fun k hk hn=>⟨YC _ _ hn,hsole.same k hk hn⟩,fun k o y h1 h2=>?_,fun k g' hk'=>?_⟩
   ·by_cases hkg:k=g
    ·subst hkg
     exact ⟨by unfold Jf; rw [Yk]; trivial,(hcell o).trans h2⟩
    ·exact ⟨by unfold Jf; rw [YC _ _ hkg]; exact h1,(WZ (hsole.same k (lt_of_cell h2) hkg)).trans h2⟩
   ·have:k≠g:=fun e=>by
     subst e
     have:=ZN Yu hk'
     rcases hk with hk | ⟨n,hk⟩
     ·rw [hr.fresh k hk] at this; cases this
     ·rw [hk] at this; cases this
    rw [YC _ _ this]; exact hk'
  rcases hk with hk | ⟨n,hk⟩
  ·
   have i2:=iL.plain (X := fun _=>False) (Γ':=relab Γ (.cell p 1) (Ug .res)) (w':=w') ⟨hsole.os,hsole.tape,hsole.output,hsole.size,fun k hk' _=>⟨rfl,hsole.same k hk' (by omega)⟩,fun k o y h1 h2=>⟨h1,(WZ (hsole.same k (lt_of_cell h2) (by have:=lt_of_cell h2; omega))).trans h2⟩,.refl _⟩ (fun _ hx=>hx.elim) (fun _ _ h=>h) (fun k hk'=>Uz (hr.fresh k (Nat.le_trans hsole.size hk')))
   exact Zrv (hp := hp) i2 rfl (v := .str l) (.str l) (by simp)
  ·have i2:=iL.plain st (fun k e=>⟨n,by rw [e]; exact He hk⟩) (fun k g' hk'=>by
     by_cases hkg:k=g
     ·subst hkg; rw [Yk] at hk'; cases hk'
     ·rw [YC _ _ hkg] at hk'; exact hk') (fun k hk'=>by
     by_cases hkg:k=g
     ·subst hkg; exact Yk _ _ _
     ·rw [YC _ _ hkg]; exact Uz (hr.fresh k (Nat.le_trans hsole.size hk')))
   exact Zrv (hp := hp) i2 rfl (v := .str l) (.str l) (by simp)
 rcases q2 1 rows rfl with ⟨e1,h0⟩ | ⟨g,cap,e0,cur,e1,hgm,hgh,g1,g2,g3,g4,g5⟩
 ·have:l=[]:=by rw [h0] at rl; exact List.eq_nil_of_length_eq_zero (by simpa using rl.symm)
  subst this
  rw [e1] at hc1
  refine hw ((Zb4 b w.heap.size w hc1).mono ?_)
  rintro e w' ⟨rfl,hsole,hcell⟩
  exact ⟨_,rfl,fin hsole hcell (.inl (Nat.le_refl _))⟩
 ·rw [e1] at hc1
  have hcell:∀ (j:Nat) (x:UInt8),l[j]? = some x→cur[j]? = some (.int .u8 x.toNat):=fun j x hj=>by
   have hrow:=rg j x hj
   obtain ⟨_,k2⟩:=g5 j 0 _ _ hrow rfl
   rw [Nat.mul_one,Nat.add_zero] at k2
   have hjl:j < cur.size:=by have:=Ze hj; rw [g3]; omega
   rw [Yd hjl]
   generalize cur.getD j Go.undef=u at k2
   cases k2; rfl
  have htyp:e0=5:=typ _ _ _ _ _ hc1 hgh
  rw [rl] at hc1
  by_cases hl0:l=[]
  ·subst hl0
   by_cases hcap:cap=0
   ·subst hcap
    refine hw ((Zb5 b g cur e0 w hc1 hgh htyp).mono ?_)
    rintro e w' ⟨rfl,hsole,hcell⟩
    exact ⟨_,rfl,fin hsole hcell (.inr ⟨_,hgm⟩)⟩
   ·refine hw ((Zgq b g cap w hcap hc1).mono ?_)
    rintro e w' ⟨rfl,hsole,hcell⟩
    exact ⟨_,rfl,fin hsole hcell (.inr ⟨_,hgm⟩)⟩
  ·refine hw ((ZhG b g l cap cur e0 w hl0 hc1 hgh htyp (by omega) g2 (by rw [g3]; omega) hcell).mono ?_)
   rintro e w' ⟨rfl,hsole,hcell⟩
   exact ⟨_,rfl,fin hsole hcell (.inr ⟨_,hgm⟩)⟩
theorem buf_cells {W0 w:World}{Γ:Zo}{hp:List Zp}{p b:Nat}{l:List UInt8}(hr:RW W0 Γ w hp)(hb:Γ b=.own p)(hg:hp[p]? = some (.buf l 93 5))(hl:l≠[]) :
  RW W0 Γ w (hp.set p (.cells [.ptr p 0,.own 1 (l.map byteRow)] 93))∧∀ k cur e0 cap n,w.cell? ⟨b,1,none⟩=some (.slice (some ⟨k,0,none⟩) n cap)→w.heap[k]? = some (.cells cur e0 (0,0))→e0=5:=by
 have hpl:=Ze hg
 obtain ⟨b',C,h1,h2,h3⟩:=hr.objs p _ hg
 obtain rfl:=hr.inj b b' p hb h1
 rcases h3 with ⟨h,_⟩ | ⟨k,cap,cur,rfl,h4,h5,h6,h7,h8,h9⟩
 ·exact absurd h hl
 refine ⟨⟨fun g o ho=>?_,hr.inj,hr.fresh,fun b g h=>by rw [List.length_set]; exact hr.lt b g h,hr.old,hr.oldImm,fun g ho=>?_⟩,fun k' cur' e0 cap' n hc hh=>?_⟩
 ·by_cases hgp:g=p
  ·subst hgp
   rw [List.getElem?_set_self hpl] at ho
   cases ho
   refine ⟨b,_,hb,h2,rfl,fun i c hc=>?_⟩
   match i,hc with
   | 0,hc=>cases hc; exact ⟨rfl,.ptr g 0 b hb,.of_ne (by simp)⟩
   | 1,hc =>
    cases hc
    have hrow:∀ (i j:Nat) (r:List AV) (c:AV),(l.map byteRow)[i]? = some r→r[j]? = some c→c.noId1=true∧Rep Γ w c (cur.getD (i * 1 + j) Go.undef):=fun i j r c hi hj=>by
     rw [List.getElem?_map] at hi
     obtain ⟨x,hx,rfl⟩:=Option.map_eq_some_iff.1 hi
     match j,hj with
     | 0,hj =>
      cases hj
      refine ⟨rfl,?_⟩
      rw [Nat.mul_one,Nat.add_zero,Array.getD_eq_getD_getElem?,h9 i x hx]
      exact .int _ _
    have ho:OwnAt Γ w (.cell g 1) (.own 1 (l.map byteRow)) (.slice (some ⟨k,0,none⟩) l.length cap):=fun k' rows' e=>by
     cases e
     exact .inr ⟨k,cap,5,cur,by simp,by simpa using h4,h5,by simpa using h6,h7,by omega,fun r hr'=>by obtain ⟨x,_,rfl⟩:=List.mem_map.1 hr'; rfl,hrow⟩
    exact ⟨rfl,ho.rep,ho⟩
  ·rw [List.getElem?_set_ne (fun e=>hgp e.symm)] at ho
   exact hr.objs g o ho
 ·by_cases hgp:g=p
  ·subst hgp; rw [List.getElem?_set_self hpl] at ho; cases ho
  ·rw [List.getElem?_set_ne (fun e=>hgp e.symm)] at ho
   exact hr.dead g ho
 ·rw [Lib.cell_of_heap h2] at hc
  cases hc
  rw [h5] at hh; cases hh; rfl
def Zql (f:FuncId)(args:List AV)(hp:List Zp):Option (AV×List Zp×Eff) :=
 if f=45 then match args with
  | [.ptr p 0]=>match hp[p]? with
   | some (.buf l t e)=>if t=93∧e=5∧l≠[] then some (.str l,hp.set p (.cells [.ptr p 0,.lst 1 (l.map byteRow)] 93),some (p,0)) else none
   | _=>none
  | _=>none
 else none
theorem Zj2 (W0:World):Z5 Tryz.prog W0 Zql:=by
 intro g args hp v hp' e hc Γ w xs hr ht hs hx
 unfold Zql at hc
 split at hc <;> first | (cases hc; done) | skip
 rename_i hf
 subst hf
 split at hc <;> first | (cases hc; done) | skip
 rename_i p
 split at hc <;> first | (cases hc; done) | skip
 rename_i l t e0 hg
 split at hc <;> first | (cases hc; done) | skip
 rename_i hle
 obtain ⟨rfl,rfl,hl⟩:=hle
 cases hc
 obtain ⟨b,hb,h0⟩:=Tu (hx 0 _ rfl).1
 have hxs:xs=#[.pointer (some ⟨b,0,none⟩)]:=by
  refine Array.ext (by simpa using hs) fun i h2 h3=>?_
  have:i=0:=by simp at h3; omega
  subst this
  rw [Array.getD_eq_getD_getElem?,Array.getElem?_eq_getElem h2] at h0; simpa using h0
 subst hxs
 obtain ⟨r1,typ⟩:=buf_cells hr hb hg hl
 have hpl:=Ze hg
 have:=Zl9 (l := l) (c := .ptr p 0) r1 (by rw [List.length_set]; exact ht) hb (List.getElem?_set_self hpl) typ
 rw [List.set_set,List.length_set] at this
 exact this
def Zne (f:FuncId)(args:List AV)(hp:List Zp):Option (AV×List Zp×Eff) :=
 if f=168 then match args with
  | [.ptr p 0,.int .i64 n]=>match hp[p]? with
   | some (.cells [.nilp,.nils 1] t)=>if t=93∧0≤n∧n≤281474976710656 then some (.undef,hp.set p (.buf [] 93 5),some (p,0)) else none
   | _=>none
  | _=>none
 else none
theorem Zk0 (W0:World):Z5 Tryz.prog W0 Zne:=by
 intro g args hp v hp' e hc Γ w xs hr ht hs hx
 unfold Zne at hc
 split at hc <;> first | (cases hc; done) | skip
 rename_i hf
 subst hf
 split at hc <;> first | (cases hc; done) | skip
 rename_i p n
 split at hc <;> first | (cases hc; done) | skip
 rename_i t hg
 split at hc <;> first | (cases hc; done) | skip
 rename_i hle
 obtain ⟨rfl,hn0,hn⟩:=hle
 cases hc
 obtain ⟨b,hb,h0⟩:=Tu (hx 0 _ rfl).1
 have h1:xs.getD 1 Go.undef=.int .i64 (n.toNat:Int):=by
  have:=(hx 1 _ rfl).1
  rw [show ((n.toNat:Nat):Int)=n by omega]
  generalize xs.getD 1 Go.undef=u at this
  cases this; rfl
 obtain rfl:=TR hs h0 h1
 have hpl:=Ze hg
 obtain ⟨b',C,q1,h2,h3,h4⟩:=hr.objs p _ hg
 obtain rfl:=hr.inj b b' p hb q1
 have c0:C.getD 0 Go.undef=.pointer none:=by
  have:=(h4 0 .nilp rfl).2.1
  generalize C.getD 0 Go.undef=u at this
  cases this; rfl
 have c1:C.getD 1 Go.undef=.slice none 0 0:=by
  have:=(h4 1 (.nils 1) rfl).2.1
  generalize C.getD 1 Go.undef=u at this
  cases this; rfl
 obtain rfl:=TR (by rw [h3]; rfl) c0 c1
 refine Ec Tryz.func168 (by kernel_rfl) rfl ((Zb3 b n.toNat w h2 (by omega)).mono ?_)
 rintro e w' ⟨rfl,hsole,v',k1,k2⟩
 have hw:Wrote b (.slice none 0 0) ([] ++ []) w w':=by
  refine ⟨hsole.os,hsole.tape,hsole.output,hsole.size,fun k hk hkb _=>hsole.same k hk hkb,v',k1,?_,?_⟩
  ·rcases k2 with rfl | ⟨g,cs,rfl,_,h5,h6⟩
   ·exact ⟨rfl,.inl ⟨rfl,rfl⟩⟩
   ·exact ⟨rfl,.inr ⟨g,_,_,rfl,Nat.zero_le _,h5,Nat.zero_le _,h6,by omega,by simp [Lib.byteCells]⟩⟩
  ·rcases k2 with rfl | ⟨g,cs,rfl,h7,h5,h6⟩
   ·exact .inl rfl
   ·exact .inr ⟨g,rfl,h7,fun k hk hkb=>hsole.same k hk hkb⟩
 exact ⟨_,rfl,Ed (l := []) (s := []) hr hb hpl h2 ⟨rfl,.inl ⟨rfl,rfl⟩⟩ (fun k hk=>by cases hk) hw (fun Γ' w'=>.undef) (fun _ _ h=>by cases h)⟩
end Go.Proofs.YtleomfgijkapfaaGreatDoor.Abs
end
