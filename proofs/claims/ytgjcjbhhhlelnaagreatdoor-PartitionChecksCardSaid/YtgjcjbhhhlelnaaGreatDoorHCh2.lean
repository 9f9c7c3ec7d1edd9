import Derived.Test.YtgjcjbhhhlelnaaGreatDoorHCh1
set_option linter.all false
section
section
namespace Go.Proofs.YtgjcjbhhhlelnaaGreatDoor.Abs
open Go Go.RowKit
section
variable {P:Program}{G:Nat→Option (List AV)}{call:FuncId→List AV→List Zn→Option (AV×List Zn×Eff)}{E:Entry}{s s':Zc}{Γ:ZB}{a:Act}{w:World}{hand:Nat→Bool}{draw:Bool}
def Ends (E:Entry)(r:IC×Zc)(e:Exit)(a:Act)(w:World):Prop :=
 (match r.1,e with
  | .normal,.normal=>True
  | .exit i,.exit j=>i=j
  | .ret,.ret=>True
  | _,_=>False)∧∃ Γ,Inv E r.2 Γ a w
theorem Ends.normal {s:Zc}{Γ:ZB}{a:Act}{w:World}(h:Inv E s Γ a w):Ends E (.normal,s) .normal a w:=⟨trivial,Γ,h⟩
theorem Zk7 {c:Code}{f:Zc→Option (IC×Zc)}(ih:∀ {s:Zc} {r:IC×Zc} {Γ:ZB} {a:Act} {w:World},f s=some r→Inv E s Γ a w→c.wp P (Ends E r) a w) :
  ∀ (n:Nat) {s:Zc} {r:IC×Zc} {Γ:ZB} {a:Act} {w:World},iter f n s=some r→Inv E s Γ a w→Code.rounds P c (Ends E r) n a w
 | 0,_,_,_,_,_,h,_=>by cases h
 | n + 1,s,r,Γ,a,w,h,hI=>by
  rw [rounds_succ]
  simp only [iter] at h
  split at h
  ·rename_i s1 h1
   refine Go.wp_mono (ih h1 hI) fun e a' w' he=>?_
   obtain ⟨k1,Γ',i1⟩:=he
   cases e <;> first | exact k1.elim | skip
   exact Zk7 ih n h i1
  ·rename_i hne
   refine Go.wp_mono (ih h hI) fun e a' w' he=>?_
   cases e <;> first | exact he | skip
   obtain ⟨k1,_⟩:=he
   obtain ⟨x,s1⟩:=r
   cases x <;> first | exact k1.elim | skip
   exact absurd h (hne s1)
theorem Zvf (hm:P.follows .mixedOrders=true)(hG:GOk G E.W0)(hS:Yd P E.W0 call)(hB:Yd P E.W0 (Yt call)){takes:FuncId→List Nat}{res:List Nat}(L:Nat):∀ {c:Code} {ac:We} {s:Zc} {r:IC×Zc} {Γ:ZB} {a:Act} {w:World},
  DN P takes res c=some ac→Zw G call L ac s=some r→Inv E s Γ a w→c.wp P (Ends E r) a w:=by
 intro c
 induction c with
 | skip =>
  intro ac s r Γ a w hc h hI
  cases hc; cases h
  exact Go.wp_skip (.normal hI)
 | region id ops draw =>
  intro ac s r Γ a w hc h hI
  cases draw with
  | false =>
   simp only [DN] at hc
   obtain ⟨aops,h1,rfl⟩:=Option.map_eq_some_iff.1 hc
   simp only [Zw] at h
   obtain ⟨s1,h2,rfl⟩:=Option.map_eq_some_iff.1 h
   refine wp_region ?_
   rw [List.range_eq_range']
   have:=Zna hG hS (Q := Ends E (.normal,s1)) 0 (l := ops.toList) (by simp) h1 h2 hI fun Γ a w h=>.normal h
   simpa using this
  | true =>
   simp only [DN] at hc
   split at hc <;> first | (cases hc; done) | skip
   rename_i aops bops h1 h1'
   split at hc
   ·rename_i hq
    simp only [Bool.and_eq_true] at hq
    cases hc
    generalize NV ops ops.size=n at *
    simp only [Zw] at h
    have hl:ops.size=bops.length:=by simpa using (XM h1').1
    have hnle:n≤ops.size:=by
     have:=hq.2
     simp only [ZtB,Bool.and_eq_true,decide_eq_true_eq] at this
     exact this.1.1.2
    cases h2:ZE G (Qu call) (bops.take n) s with
    | none=>rw [h2] at h; simp at h
    | some s1 =>
     rw [h2] at h
     simp only [Option.map_some] at h
     obtain ⟨s2,h3,rfl⟩:=Option.map_eq_some_iff.1 h
     refine wp_region_any hm ?_
     have hb:Behind w { w with drawn:=w.drawn + 1 }:=⟨rfl,rfl,rfl,Nat.le_refl _,fun _ _=>rfl⟩
     have hrep:∀ i,i < ops.size→(Array.replicate ops.size false).getD i true=false:=fun i hi=>by simp [hi]
     have hr:WT n (Array.replicate ops.size false)=List.range n:=by
      unfold WT
      refine List.filter_eq_self.2 fun i hi=>?_
      simp only [List.mem_range] at hi
      rw [hrep i (by omega)]; rfl
     have hr2:O5 n ops.size (Array.replicate ops.size false)=(List.range ops.size).drop n:=by
      unfold O5
      rw [show (List.range ops.size)=List.range n ++ (List.range ops.size).drop n from by
       rw [show List.range n=(List.range ops.size).take n from by rw [List.take_range,Nat.min_eq_left hnle],List.take_append_drop]]
      rw [List.filter_append,List.filter_eq_nil_iff.2 (fun i hi=>by
       simp only [List.mem_range] at hi
       have:¬ n≤i:=by omega
       simp [this]),List.nil_append]
      rw [List.drop_append_of_le_length (by simp),show (List.range n).drop n=[] from by simp,List.nil_append]
      refine List.filter_eq_self.2 fun i hi=>?_
      obtain ⟨k,hk⟩:=List.mem_iff_getElem?.1 hi
      rw [List.getElem?_drop] at hk
      have hlt:=(List.getElem?_eq_some_iff.1 hk).1
      rw [List.getElem?_range (by simpa using hlt)] at hk
      cases hk
      simp only [List.length_range] at hlt
      rw [hrep _ hlt]; simp
     have hmap:(List.range ops.size).map (fun i=>bops.getD i ⟨none,.bad,none⟩)=bops:=by
      rw [hl]
      refine List.ext_getElem? fun i=>?_
      rw [List.getElem?_map]
      by_cases hi:i < bops.length
      ·rw [List.getElem?_range hi,Option.map_some,List.getD_eq_getElem?_getD,List.getElem?_eq_getElem hi]; rfl
      ·rw [List.getElem?_eq_none (by simpa using hi),List.getElem?_eq_none (by omega)]; rfl
     refine Zwh hG hS (n := n) (Q := Ends E (.normal,s2)) h1' hq.2 (fun Γ a w h=>.normal h) ops.size (s1 := s1) (by simp) (.start ops _) (by rw [hr,hr2]; simp; omega) ?_ ?_ (hb.inv hI)
     ·rw [hr,show List.range n=(List.range ops.size).take n from by rw [List.take_range,Nat.min_eq_left hnle],List.map_take,hmap]; exact h2
     ·rw [hr2,List.map_drop,hmap]; exact h3
   split at hc
   ·rename_i hd
    rw [Bool.and_eq_true] at hd
    cases hc
    simp only [Zw] at h
    obtain ⟨s1,h2,rfl⟩:=Option.map_eq_some_iff.1 h
    refine wp_region_any hm ?_
    have hb:Behind w { w with drawn:=w.drawn + 1 }:=⟨rfl,rfl,rfl,Nat.le_refl _,fun _ _=>rfl⟩
    exact ZgZ hG hB (Q := Ends E (.normal,s1)) h1' hd.2 (fun Γ a w h=>.normal h) h2 (hb.inv hI)
   split at hc
   ·rename_i hq
    simp only [Bool.and_eq_true] at hq
    cases hc
    simp only [Zw] at h
    obtain ⟨s1,h2,rfl⟩:=Option.map_eq_some_iff.1 h
    refine wp_region_quiet (C := Behind w) hm hq.1 ⟨rfl,rfl,rfl,Nat.le_refl _,fun _ _=>rfl⟩ ?_
    exact Zdu hG hS h1 hq.2 h2 hI fun Γ a w h=>.normal h
   ·split at hc
    ·rename_i hd
     cases hc
     simp only [Zw] at h
     obtain ⟨s1,h2,rfl⟩:=Option.map_eq_some_iff.1 h
     refine wp_region_any hm ?_
     have hb:Behind w { w with drawn:=w.drawn + 1 }:=⟨rfl,rfl,rfl,Nat.le_refl _,fun _ _=>rfl⟩
     have hr:WT ops.size (Array.replicate ops.size false)=List.range ops.size:=by
      unfold WT
      refine List.filter_eq_self.2 fun i hi=>?_
      simp only [List.mem_range] at hi
      simp [hi]
     have hmap:(List.range ops.size).map (fun i=>bops.getD i ⟨none,.bad,none⟩)=bops:=by
      have hl:ops.size=bops.length:=by simpa using (XM h1').1
      rw [hl]
      refine List.ext_getElem? fun i=>?_
      rw [List.getElem?_map]
      by_cases hi:i < bops.length
      ·rw [List.getElem?_range hi,Option.map_some,List.getD_eq_getElem?_getD,List.getElem?_eq_getElem hi]; rfl
      ·rw [List.getElem?_eq_none (by simpa using hi),List.getElem?_eq_none (by omega)]; rfl
     exact Zwg hG hS (Q := Ends E (.normal,s1)) h1' hd (fun Γ a w h=>.normal h) ops.size (by simp) (.start ops _) (by rw [hr]; simp) (by rw [hr,hmap]; exact h2) (hb.inv hI)
    ·split at hc
     ·rename_i hd
      cases hc
      simp only [Zw] at h
      obtain ⟨s1,h2,rfl⟩:=Option.map_eq_some_iff.1 h
      refine wp_region_any hm ?_
      have hb:Behind w { w with drawn:=w.drawn + 1 }:=⟨rfl,rfl,rfl,Nat.le_refl _,fun _ _=>rfl⟩
      exact ZgZ hG hB (Q := Ends E (.normal,s1)) h1' hd (fun Γ a w h=>.normal h) h2 (hb.inv hI)
     ·cases hc; cases h
 | seq x y ihx ihy =>
  intro ac s r Γ a w hc h hI
  simp only [DN] at hc
  split at hc <;> first | (cases hc; done) | skip
  rename_i ax ay hx hy
  obtain rfl:=Option.some.inj hc
  simp only [Zw] at h
  refine Go.wp_seq ?_
  split at h
  ·rename_i s1 h1
   refine Go.wp_mono (ihx hx h1 hI) fun e a' w' he=>?_
   obtain ⟨k1,Γ',i1⟩:=he
   cases e <;> first | exact k1.elim | skip
   exact ihy hy h i1
  ·rename_i hne
   refine Go.wp_mono (ihx hx h hI) fun e a' w' he=>?_
   cases e <;> first | exact he | skip
   obtain ⟨k1,_⟩:=he
   obtain ⟨q,s1⟩:=r
   cases q <;> first | exact k1.elim | skip
   exact absurd h (hne s1)
 | cond c x y ihx ihy =>
  intro ac s r Γ a w hc h hI
  simp only [DN] at hc
  split at hc <;> first | (cases hc; done) | skip
  rename_i c' ax ay hcc hx hy
  obtain rfl:=Option.some.inj hc
  simp only [Zw] at h
  split at h <;> first | (cases h; done) | skip
  ·rename_i hb
   have k:=(Zq hG hI hcc hb).1
   generalize hq:a.eval c=q at k
   cases k
   exact Go.wp_cond_true hq (ihx hx h hI)
  ·rename_i hb
   have k:=(Zq hG hI hcc hb).1
   generalize hq:a.eval c=q at k
   cases k
   exact Go.wp_cond_false hq (ihy hy h hI)
 | block id c ih =>
  intro ac s r Γ a w hc h hI
  simp only [DN] at hc
  obtain ⟨ax,hx,rfl⟩:=Option.map_eq_some_iff.1 hc
  simp only [Zw] at h
  refine Go.wp_block ?_
  split at h
  ·rename_i i s1 h1
   split at h
   ·rename_i hi
    obtain rfl:=Option.some.inj h
    refine Go.wp_mono (ih hx h1 hI) fun e a' w' he=>?_
    obtain ⟨k1,Γ',i1⟩:=he
    cases e <;> first | exact k1.elim | skip
    rename_i j
    simp only [Exit.inBlock]
    rw [if_pos (by rw [← hi]; exact (show i=j from k1).symm)]
    exact .normal i1
   ·rename_i hi
    obtain rfl:=Option.some.inj h
    refine Go.wp_mono (ih hx h1 hI) fun e a' w' he=>?_
    obtain ⟨k1,Γ',i1⟩:=he
    cases e <;> first | exact k1.elim | skip
    rename_i j
    simp only [Exit.inBlock]
    rw [if_neg (by rw [← (show i=j from k1)]; exact hi)]
    exact ⟨k1,Γ',i1⟩
  ·rename_i hne
   refine Go.wp_mono (ih hx h hI) fun e a' w' he=>?_
   cases e <;> first | exact he | skip
   obtain ⟨k1,_⟩:=he
   obtain ⟨q,s1⟩:=r
   cases q <;> first | exact k1.elim | skip
   exact absurd h (hne _ s1)
 | loop c ih =>
  intro ac s r Γ a w hc h hI
  simp only [DN] at hc
  obtain ⟨ax,hx,rfl⟩:=Option.map_eq_some_iff.1 hc
  simp only [Zw] at h
  exact wp_loop_rounds L (Zk7 (fun h1 h2=>ih hx h1 h2) L h hI)
 | scope c ih =>
  intro ac s r Γ a w hc h hI
  simp only [DN] at hc
  obtain ⟨ax,hx,rfl⟩:=Option.map_eq_some_iff.1 hc
  simp only [Zw] at h
  refine Go.wp_scope_straight (Go.wp_mono (ih hx h hI) fun e a' w' he=>?_)
  cases e <;> first | exact he | skip
  obtain ⟨k1,_⟩:=he
  obtain ⟨q,s1⟩:=r
  cases q <;> exact k1.elim
 | exit id =>
  intro ac s r Γ a w hc h hI
  cases hc; cases h
  exact Go.wp_exit ⟨rfl,Γ,hI⟩
 | ret =>
  intro ac s r Γ a w hc h hI
  cases hc; cases h
  exact Go.wp_ret ⟨trivial,Γ,hI⟩
 | label l =>
  intro ac s r Γ a w hc h hI
  cases hc; cases h
  exact Go.wp_label (.normal hI)
 | _ =>
  intro ac s r Γ a w hc h
  cases hc; cases h
end
end Go.Proofs.YtgjcjbhhhlelnaaGreatDoor.Abs
end
section
namespace Go.Proofs.YtgjcjbhhhlelnaaGreatDoor.Abs
open Go Go.RowKit
section
variable {P:Program}{G:Nat→Option (List AV)}{E:Entry}{s:Zc}{Γ:ZB}{a:Act}{w:World}
def ZdC (tmps:Array Value):ResultVar→Sem Value
 | .tmp t=>pure (tmps.getD t Go.undef)
 | .cell x t=>do loadVar t (← asAddr (tmps.getD x Go.undef))
def packed:List Value→Value
 | [v]=>v
 | vs=>.tuple vs.toArray
theorem ZdD {fn:Func}{tmps:Array Value}{vs:List Value}(h:(fn.results.toList.mapM (ZdC tmps)).run P w=.ok vs w):(results fn tmps).run P w=.ok (packed vs) w:=by
 have e0:results fn tmps=(do let vs ← fn.results.mapM (ZdC tmps); pure (if h:vs.size=1 then vs[0] else .tuple vs)):=by
  unfold results
  congr 1
 rw [e0]
 obtain ⟨l,hl⟩:∃ l,fn.results=⟨l⟩:=⟨fn.results.toList,rfl⟩
 rw [hl] at h ⊢
 have e:((⟨l⟩:Array ResultVar).mapM (ZdC tmps)).run P w=.ok vs.toArray w:=by
  rw [List.mapM_toArray,map_eq_pure_bind,Sem.run_bind,h]
  rfl
 rw [Sem.run_bind,e]
 simp only [Result.andThen_ok,Sem.run_pure]
 cases vs with
 | nil=>rfl
 | cons v vs=>cases vs <;> rfl
theorem res_one (hI:Inv E s Γ a w){r:ResultVar}{ar:Ze7}{v:AV}(hc:ZzO P r=some ar)(h:Lj s ar=some v) :
  ∃ cv,(ZdC a.tmps r).run P w=.ok cv w∧Rep Γ w v cv∧((∃ t,cv=a.tmps.getD t Go.undef∧s.sl[t]? = some v)∨∀ k r,v≠.own k r):=by
 cases r with
 | tmp t =>
  obtain rfl:=Option.some.inj hc
  exact ⟨a.tmps.getD t Go.undef,rfl,hI.slots.rep t v h,.inl ⟨t,rfl,h⟩⟩
 | cell t ty =>
  simp only [ZzO] at hc
  split at hc
  ·rename_i hag
   obtain rfl:=Option.some.inj hc
   simp only [Lj] at h
   split at h <;> first | (cases h; done) | skip
   rename_i x hx
   obtain ⟨b,off,cv,e,hl,hcell,hr,hn⟩:=Zqv hI (hI.slots.rep t x hx) h
   have hu:=Zda hag
   obtain ⟨i,hi⟩:=info_of_underlying hu
   have hld:=run_loadCells_list (P := P) w ⟨b,off,none⟩ cv (fun j y hj=>by rw [add_lit]; exact hcell j y hj)
   rw [hl] at hld
   refine ⟨_,?_,hr,.inr hn⟩
   simp only [ZdC,e]
   simp [asAddr,loadVar,Oy hag hu,ZY hi,hld]
  ·rename_i hag
   split at hc <;> first | (cases hc; done) | skip
   rename_i hu
   obtain rfl:=Option.some.inj hc
   simp only [Lj] at h
   split at h <;> first | (cases h; done) | skip
   rename_i x hx
   obtain ⟨b,off,cv,e,hcell,hr,hn⟩:=Zqy hI (hI.slots.rep t x hx) h
   refine ⟨cv,?_,hr,.inr hn⟩
   simp only [ZdC,e]
   simp [asAddr,loadVar,Oy (by simpa using hag) hu,hcell]
theorem Zrw (hI:Inv E s Γ a w):∀ {rs:List ResultVar} {ars:List Ze7} {vs:List AV},Zir P rs=some ars→UN s ars=some vs →
  ∃ cvs:List Value,(rs.mapM (ZdC a.tmps)).run P w=.ok cvs w∧cvs.length=vs.length∧ars.length=rs.length∧∀ (j:Nat) (x:AV),vs[j]? = some x→∃ u,cvs[j]? = some u∧Rep Γ w x u
 | [],ars,vs,hc,h=>by
  cases hc; cases h
  exact ⟨[],rfl,rfl,rfl,fun j x hx=>by simp at hx⟩
 | r :: rs,ars,vs,hc,h=>by
  simp only [Zir] at hc
  split at hc <;> first | (cases hc; done) | skip
  rename_i ar l h1 h2
  obtain rfl:=Option.some.inj hc
  simp only [UN] at h
  split at h <;> first | (cases h; done) | skip
  rename_i v vs' h3 h4
  obtain rfl:=Option.some.inj h
  obtain ⟨cv,e1,r1,_⟩:=res_one hI h1 h3
  obtain ⟨cvs,e2,e3,e4,e5⟩:=Zrw hI h2 h4
  refine ⟨cv :: cvs,?_,by simp [e3],by simp [e4],fun j x hx=>?_⟩
  ·rw [List.mapM_cons]
   simp only [Sem.run_bind,e1,Result.andThen_ok,e2]
   rfl
  ·cases j with
   | zero=>obtain rfl:=Option.some.inj hx; exact ⟨cv,rfl,r1.nm⟩
   | succ j =>
    obtain ⟨u,hu,hr⟩:=e5 j x (by simpa using hx)
    exact ⟨u,by simpa using hu,hr⟩
theorem Zu9 (hI:Inv E s Γ a w){fn:Func}{rs:List Ze7}{v:AV}(hc:Zir P fn.results.toList=some rs)(h:Xc s rs=some v) :
  ∃ cv Γ',(results fn a.tmps).run P w=.ok cv w∧RW E.W0 Γ' w s.hp∧Frame E.Γ0 E.w0 Γ' w s.ef∧Rep Γ' w v cv∧OwnAt Γ' w .res v cv∧∀ b g,Γ' b=.own g→g < s.bs→E.Γ0 b=.own g:=by
 have many:∀ vs,UN s rs=some vs→v=.tup vs→rs.length≠1→∃ cv Γ',(results fn a.tmps).run P w=.ok cv w∧RW E.W0 Γ' w s.hp∧Frame E.Γ0 E.w0 Γ' w s.ef∧Rep Γ' w v cv∧OwnAt Γ' w .res v cv∧∀ b g,Γ' b=.own g→g < s.bs→E.Γ0 b=.own g:=by
  intro vs hvs hv hne
  obtain ⟨cvs,e2,e3,e4,e5⟩:=Zrw hI hc hvs
  have hr:=ZdD e2
  have hvl:vs.length=rs.length:=by
   clear hc e2 e3 e4 e5 hr hv hne h
   induction rs generalizing vs with
   | nil=>cases hvs; rfl
   | cons r rs ih =>
    simp only [UN] at hvs
    split at hvs <;> first | (cases hvs; done) | skip
    rename_i h1 h2
    obtain rfl:=Option.some.inj hvs
    simp [ih _ h2]
  subst hv
  refine ⟨.tuple cvs.toArray,Γ,?_,hI.rw,hI.fr,.tup vs _ (by simpa using e3) (fun j x hx=>?_),.of_ne (by simp),hI.back⟩
  ·rw [hr]
   cases cvs with
   | nil=>rfl
   | cons u cvs =>
    cases cvs with
    | nil=>simp at e3; omega
    | cons _ _=>rfl
  ·obtain ⟨u,hu,hr⟩:=e5 j x hx
   rw [Array.getD_eq_getD_getElem?,List.getElem?_toArray,hu]
   exact hr
 cases rs with
 | nil =>
  simp only [Xc] at h
  obtain ⟨vs,hvs,e⟩:=Option.map_eq_some_iff.1 h
  exact many vs hvs e.symm (by simp)
 | cons r rs =>
  cases rs with
  | cons r' rs =>
   simp only [Xc] at h
   obtain ⟨vs,hvs,e⟩:=Option.map_eq_some_iff.1 h
   exact many vs hvs e.symm (by simp)
  | nil =>
   simp only [Xc] at h
   cases hl:fn.results.toList with
   | nil=>rw [hl] at hc; cases hc
   | cons q qs =>
    rw [hl] at hc
    simp only [Zir] at hc
    split at hc <;> first | (cases hc; done) | skip
    rename_i ar l h1 h2
    obtain ⟨rfl,rfl⟩:=List.cons.inj (Option.some.inj hc)
    have hqs:qs=[]:=by
     cases qs with
     | nil=>rfl
     | cons _ _ =>
      simp only [Zir] at h2
      split at h2 <;> simp at h2
    subst hqs
    obtain ⟨cv,e1,r1,hown⟩:=res_one hI h1 h
    have hrun:=ZdD (fn := fn) (tmps := a.tmps) (P := P) (w := w) (vs := [cv]) (by
     rw [hl,List.mapM_cons]
     simp only [Sem.run_bind,e1,Result.andThen_ok]
     rfl)
    rcases hown with ⟨t,rfl,ht⟩ | hn
    ·obtain ⟨Γ',i1,r1,o1⟩:=hI.take t ht
     exact ⟨_,Γ',hrun,i1.rw,i1.fr,r1,o1,i1.back⟩
    ·exact ⟨_,Γ,hrun,hI.rw,hI.fr,r1,.of_ne hn,hI.back⟩
end
end Go.Proofs.YtgjcjbhhhlelnaaGreatDoor.Abs
end
section
namespace Go.Proofs.YtgjcjbhhhlelnaaGreatDoor.Abs
open Go Go.RowKit
def W9 (bs:Nat):Kind→Kind
 | .own g=>if g < bs then .own g else .imm
 | .list n (.cell g i)=>if g < bs then .list n (.cell g i) else .imm
 | k=>k
theorem Oq {bs o:Nat}{k:Kind}(h:QN o k):QN o (W9 bs k):=by
 cases k with
 | imm=>trivial
 | own g=>exact h.elim
 | list m l =>
  cases l <;> simp only [W9] <;> first | exact h | skip
  split
  ·exact h
  ·trivial
theorem Xk {bs g:Nat}{k:Kind}(h:W9 bs k=.own g):k=.own g∧g < bs:=by
 cases k with
 | imm=>cases h
 | own g' =>
  simp only [W9] at h
  split at h
  ·rename_i hl; cases h; exact ⟨rfl,hl⟩
  ·cases h
 | list m l =>
  cases l <;> simp only [W9] at h <;> first | (cases h; done) | skip
  split at h <;> cases h
theorem EU {α β:Type}{f:α→Option β}:∀ {l:List α} {r:List β},l.mapM f=some r→r.length=l.length∧∀ (j:Nat) (y:β),r[j]? = some y→∃ x,l[j]? = some x∧f x=some y
 | [],r,h=>by
  simp only [List.mapM_nil] at h
  obtain rfl:=Option.some.inj h
  exact ⟨rfl,fun j y hy=>by simp at hy⟩
 | x :: l,r,h=>by
  rw [List.mapM_cons] at h
  cases hx:f x with
  | none=>rw [hx] at h; cases h
  | some y =>
   cases hl:l.mapM f with
   | none=>rw [hx,hl] at h; cases h
   | some ys =>
    rw [hx,hl] at h
    obtain rfl:=Option.some.inj h
    obtain ⟨e1,e2⟩:=EU hl
    refine ⟨by simp [e1],fun j z hz=>?_⟩
    cases j with
    | zero=>obtain rfl:=Option.some.inj hz; exact ⟨x,rfl,hx⟩
    | succ j =>
     obtain ⟨x',h1,h2⟩:=e2 j z (by simpa using hz)
     exact ⟨x',by simpa using h1,h2⟩
section
variable {W0 w:World}{Γ Γ':ZB}{hp:List Zn}{bs:Nat}
theorem NM {x:AV}{v:Value}(hf:Yo Γ w Γ' w)(h:Rep Γ w x v)(hn:x.noId1=true):Rep Γ' w x.ro v:=(h.noId hf hn).ro
theorem OwnAt.fix {w':World}{l l':Loc}{x:AV}{v:Value}(hf:Yo Γ w Γ' w')(hb:∀ b n,Γ b=.list n l→Γ' b=.list n l'∧w'.heap[b]? = w.heap[b]?)(h:OwnAt Γ w l x v):OwnAt Γ' w' l' x v:=by
 intro k rows e
 rcases h k rows e with h | ⟨b,cap,e,cur,hv,hg,hh,h1,h2,h3,h4,h5⟩
 ·exact .inl h
 ·obtain ⟨g1,g2⟩:=hb b _ hg
  exact .inr ⟨b,cap,e,cur,hv,g1,g2.trans hh,h1,h2,h3,h4,fun i j r c a1 a2=>⟨(h5 i j r c a1 a2).1,(h5 i j r c a1 a2).2.noId hf (h5 i j r c a1 a2).1⟩⟩
theorem ZgE (hr:RW W0 Γ w hp):∀ (d:Nat) {v v':AV} {cv:Value},ZhT bs hp d v=some v'→Rep Γ w v cv→Rep (fun b=>W9 bs (Γ b)) w v' cv∧(∀ k r,v'≠.own k r)∧(v.one=true→v'.one=true):=by
 have hf:Yo Γ w (fun b=>W9 bs (Γ b)) w:=fun _ _ _ h1 h2=>⟨Oq h1,h2⟩
 have hown:∀ b g,Γ b=.own g→g < bs→W9 bs (Γ b)=.own g:=fun b g h hg=>by simp [h,W9,hg]
 intro d
 induction d with
 | zero =>
  intro v v' cv h hv
  cases v <;> simp only [ZhT] at h
  case arr g off len k =>
   split at h <;> first | (cases h; done) | skip
   rename_i hg
   obtain rfl:=Option.some.inj h
   cases hv with
   | arr _ _ _ _ cap b hb hc=>exact ⟨.arr _ _ _ _ cap b (hown b g hb hg) hc,by simp,fun h=>h⟩
  case ptr g o =>
   split at h <;> first | (cases h; done) | skip
   rename_i hg
   obtain rfl:=Option.some.inj h
   cases hv with
   | ptr _ _ b hb=>exact ⟨.ptr _ _ b (hown b g hb hg),by simp,fun h=>h⟩
  case map g =>
   split at h <;> first | (cases h; done) | skip
   rename_i hg
   obtain rfl:=Option.some.inj h
   cases hv with
   | map _ b hb=>exact ⟨.map _ b (hown b g hb hg),by simp,fun h=>h⟩
  case agg=>cases h
  case tup=>cases h
  case fn f a cs =>
   split at h <;> first | (cases h; done) | skip
   rename_i hg
   obtain rfl:=Option.some.inj h
   refine ⟨?_,by simp,fun h=>h⟩
   have:=hv.noId hf (by simpa [AV.noId1] using hg)
   obtain ⟨rfl,rfl⟩:a=[]∧cs=[]:=by simpa using hg
   exact this
  case undef=>cases h; cases hv; exact ⟨.undef,by simp [AV.ro],fun h=>h⟩
  all_goals
   obtain rfl:=Option.some.inj h
   exact ⟨NM hf hv rfl,fun _ _=>Vu,fun h=>by rw [Ae]; exact h⟩
 | succ d ih =>
  intro v v' cv h hv
  cases v <;> simp only [ZhT] at h
  case arr g off len k =>
   split at h
   ·rename_i hg
    obtain rfl:=Option.some.inj h
    cases hv with
    | arr _ _ _ _ cap b hb hc=>exact ⟨.arr _ _ _ _ cap b (hown b g hb hg) hc,by simp,fun h=>h⟩
   ·rename_i hg
    split at h <;> first | (cases h; done) | skip
    rename_i cs t hobj
    split at h <;> first | (cases h; done) | skip
    rename_i hfit
    obtain ⟨cs',h1,h2⟩:=Option.bind_eq_some_iff.1 h
    split at h2 <;> first | (cases h2; done) | skip
    rename_i hid
    obtain rfl:=Option.some.inj h2
    obtain ⟨m1,m2⟩:=EU h1
    cases hv with
    | arr _ _ _ _ cap b hb hc =>
     obtain ⟨b',C,o1,o2,o3,o4⟩:=hr.objs g _ hobj
     obtain rfl:=hr.inj b b' g hb o1
     have hlen:cs'.length=len * k:=by rw [m1]; simp; omega
     have hrow:∀ (i:Nat) (r:List AV),(chunk k len cs')[i]? = some r→i < len∧r.length=k∧∀ (j:Nat) (c:AV),r[j]? = some c→j < k∧cs'[i * k + j]? = some c:=by
      intro i r hi
      have hil:=Zr hi
      rw [VQ] at hil
      have he:=ZcI k len _ i r hi
      have hle:(i + 1) * k≤len * k:=Nat.mul_le_mul_right k hil
      rw [Nat.add_mul,Nat.one_mul] at hle
      refine ⟨hil,by rw [he]; simp; omega,fun j c hj=>?_⟩
      rw [he,List.getElem?_take] at hj
      split at hj
      ·rename_i hjk
       refine ⟨hjk,?_⟩
       rw [List.getElem?_drop] at hj
       exact hj
      ·cases hj
     have hcell:∀ (p:Nat) (c:AV),cs'[p]? = some c→off + p < C.size∧Rep (fun b=>W9 bs (Γ b)) w c (C.getD (off + p) Go.undef)∧c.noId1=true:=by
      intro p c hp
      obtain ⟨x,x1,x2⟩:=m2 p c hp
      have hpl:=Zr hp
      rw [List.getElem?_take,if_pos (by omega),List.getElem?_drop] at x1
      obtain ⟨_,q2,_⟩:=o4 _ x x1
      exact ⟨by omega,(ih x2 q2).1,List.all_eq_true.1 hid c (List.mem_of_getElem? hp)⟩
     refine ⟨?_,by simp,fun _=>rfl⟩
     have hl:(chunk k len cs').length=len:=VQ k len cs'
     have key:=Rep.lst (Γ := fun b=>W9 bs (Γ b)) (w := w) k (chunk k len cs') b off cap (fun i j=>C.getD (off + (i * k + j)) Go.undef) (by rw [hl]; exact hc) (fun r hr=>?_) (fun i j r c hi hj=>?_) (fun i j r c hi hj=>?_)
     ·rw [hl] at key; exact key
     ·obtain ⟨i,hi⟩:=List.mem_iff_getElem?.1 hr
      exact (hrow i r hi).2.1
     ·obtain ⟨_,_,h3⟩:=hrow i r hi
      obtain ⟨_,h4⟩:=h3 j c hj
      obtain ⟨q1,q2,q3⟩:=hcell _ c h4
      refine ⟨?_,?_,q3⟩
      ·rw [cell_of_row w b _ C t (0,0) o2]
       exact Wn q1
      ·show QN _ (W9 bs (Γ b))
       rw [hb]
       simp only [W9,if_neg hg]
       trivial
     ·obtain ⟨_,_,h3⟩:=hrow i r hi
      obtain ⟨_,h4⟩:=h3 j c hj
      exact (hcell _ c h4).2.1
  case ptr g o =>
   split at h <;> first | (cases h; done) | skip
   rename_i hg
   obtain rfl:=Option.some.inj h
   cases hv with
   | ptr _ _ b hb=>exact ⟨.ptr _ _ b (hown b g hb hg),by simp,fun h=>h⟩
  case map g =>
   split at h <;> first | (cases h; done) | skip
   rename_i hg
   obtain rfl:=Option.some.inj h
   cases hv with
   | map _ b hb=>exact ⟨.map _ b (hown b g hb hg),by simp,fun h=>h⟩
  case agg=>cases h
  case tup=>cases h
  case fn f a cs =>
   split at h <;> first | (cases h; done) | skip
   rename_i hg
   obtain rfl:=Option.some.inj h
   refine ⟨?_,by simp,fun h=>h⟩
   have:=hv.noId hf (by simpa [AV.noId1] using hg)
   obtain ⟨rfl,rfl⟩:a=[]∧cs=[]:=by simpa using hg
   exact this
  case undef=>cases h; cases hv; exact ⟨.undef,by simp [AV.ro],fun h=>h⟩
  all_goals
   obtain rfl:=Option.some.inj h
   exact ⟨NM hf hv rfl,fun _ _=>Vu,fun h=>by rw [Ae]; exact h⟩
theorem Ce (hr:RW W0 Γ w hp){v v':AV}{cv:Value}(h:ZfF bs hp v=some v')(hv:Rep Γ w v cv):Rep (fun b=>W9 bs (Γ b)) w v' cv∧∀ k r,v'≠.own k r:=by
 unfold ZfF at h
 split at h
 ·rename_i cs
  obtain ⟨cs',h1,rfl⟩:=Option.map_eq_some_iff.1 h
  obtain ⟨m1,m2⟩:=EU h1
  cases hv with
  | agg _ u hs k1 kn kr =>
   refine ⟨.agg cs' u (by rw [hs,m1]) (fun j c hc=>?_) (fun j k r hc=>?_) (fun j c hc=>?_),by simp⟩
   ·obtain ⟨x,x1,x2⟩:=m2 j c hc
    exact (ZgE hr 4 x2 (kr j x x1)).2.2 (k1 j x x1)
   ·obtain ⟨x,x1,x2⟩:=m2 j _ hc
    exact absurd rfl ((ZgE hr 4 x2 (kr j x x1)).2.1 k r)
   ·obtain ⟨x,x1,x2⟩:=m2 j c hc
    exact (ZgE hr 4 x2 (kr j x x1)).1
 ·obtain ⟨h1,h2,_⟩:=ZgE hr 4 h hv
  exact ⟨h1,h2⟩
theorem Zuo (hr:RW W0 Γ w hp){v v':AV}{cv:Value}(h:frz bs hp v=some v')(hv:Rep Γ w v cv)(ho:OwnAt Γ w .res v cv):Rep (fun b=>W9 bs (Γ b)) w v' cv∧OwnAt (fun b=>W9 bs (Γ b)) w .res v' cv:=by
 have hf:Yo Γ w (fun b=>W9 bs (Γ b)) w:=fun _ _ _ h1 h2=>⟨Oq h1,h2⟩
 unfold frz at h
 split at h
 ·rename_i vs
  obtain ⟨vs',h1,rfl⟩:=Option.map_eq_some_iff.1 h
  obtain ⟨m1,m2⟩:=EU h1
  cases hv with
  | tup _ u hs kr =>
   refine ⟨.tup vs' u (by rw [hs,m1]) fun j c hc=>?_,.of_ne (by simp)⟩
   obtain ⟨x,x1,x2⟩:=m2 j c hc
   exact (Ce hr x2 (kr j x x1)).1
 ·obtain rfl:=Option.some.inj h
  exact ⟨hv.noId hf rfl,ho.fix hf fun b n hb=>⟨by simp [hb,W9],rfl⟩⟩
 ·obtain ⟨h1,h2⟩:=Ce hr h hv
  exact ⟨h1,.of_ne h2⟩
theorem Zez {x:AV}{cv:Value}(hx:x.under1 bs=true)(hv:Rep Γ w x cv):Rep (fun b=>W9 bs (Γ b)) w x cv:=by
 have hf:Yo Γ w (fun b=>W9 bs (Γ b)) w:=fun _ _ _ h1 h2=>⟨Oq h1,h2⟩
 have hown:∀ b g,Γ b=.own g→g < bs→W9 bs (Γ b)=.own g:=fun b g h hg=>by simp [h,W9,hg]
 unfold AV.under1 at hx
 split at hx
 ·cases hv with
  | arr _ _ _ _ cap b hb hc=>exact .arr _ _ _ _ cap b (hown b _ hb (by simpa using hx)) hc
 ·cases hv with
  | ptr _ _ b hb=>exact .ptr _ _ b (hown b _ hb (by simpa using hx))
 ·cases hv with
  | map _ b hb=>exact .map _ b (hown b _ hb (by simpa using hx))
 ·exact hv.noId hf hx
theorem ZtZ {x:AV}{cv:Value}(hx:x.under bs=true)(hv:Rep Γ w x cv):Rep (fun b=>W9 bs (Γ b)) w x cv:=by
 unfold AV.under at hx
 split at hx
 ·simp only [Bool.and_eq_true,List.all_eq_true] at hx
  cases hv with
  | fn f a cs u v hs1 hr1 hs hr=>exact .fn _ _ _ u v hs1 (fun j c hc=>Zez (hx.1 c (List.mem_of_getElem? hc)) (hr1 j c hc)) hs (fun j c hc=>Zez (hx.2 c (List.mem_of_getElem? hc)) (hr j c hc))
 ·exact Zez hx hv
theorem ZcU {s:Zc}{Γ0:ZB}{w0:World}{hp0:List Zn}{v:AV}{cv:Value}{v':AV}{hp':List Zn}{e':Eff}(h0:RW W0 Γ0 w0 hp0)(hbs:s.bs=hp0.length)(hle:s.bs≤s.hp.length)(base:∀ b n g i,Γ0 b=.list n (.cell g i)→g < s.bs)
  (hr:RW W0 Γ w s.hp) (hfr:Frame Γ0 w0 Γ w s.ef) (hbk:∀ b g,Γ b=.own g→g < s.bs→Γ0 b=.own g) (hv:Rep Γ w v cv) (ho:OwnAt Γ w .res v cv) {keep:Bool} (h:(if keep then (v.nm,s.hp,s.ef) else finish v s hp0)=(v',hp',e')) :
  ∃ Γ',RW W0 Γ' w hp'∧Rep Γ' w v' cv∧OwnAt Γ' w .res v' cv∧Frame Γ0 w0 Γ' w e'∧hp0.length≤hp'.length∧∀ b g,Γ' b=.own g→g < hp0.length→Γ0 b=.own g:=by
 have hf:Yo Γ w (fun b=>W9 s.bs (Γ b)) w:=fun _ _ _ h1 h2=>⟨Oq h1,h2⟩
 have asis:(v.nm,s.hp,s.ef)=(v',hp',e')→∃ Γ',RW W0 Γ' w hp'∧Rep Γ' w v' cv∧OwnAt Γ' w .res v' cv∧Frame Γ0 w0 Γ' w e'∧hp0.length≤hp'.length∧∀ b g,Γ' b=.own g→g < hp0.length→Γ0 b=.own g:=by
  intro e
  cases e
  exact ⟨Γ,hr,hv.nm,.of_ne fun _ _=>Oz,hfr,by omega,fun b g hb hl=>hbk b g hb (by omega)⟩
 have base1:∀ b g,Γ0 b=.own g→g < s.bs:=fun b g hb=>by rw [hbs]; exact h0.lt b g hb
 have same0:∀ b,b < w0.heap.size→Kept s.ef (Γ0 b)→W9 s.bs (Γ b)=Γ0 b∧w.heap[b]? = w0.heap[b]?:=fun b hb hk=>by
  obtain ⟨e1,e2⟩:=hfr.keep b hb hk
  refine ⟨?_,e2⟩
  rw [e1]
  cases hg:Γ0 b with
  | imm=>rfl
  | own g=>simp [W9,base1 b g hg]
  | list n l =>
   cases l with
   | cell g i=>simp [W9,base b n g i hg]
   | _=>rfl
 have fr:Frame Γ0 w0 (fun b=>W9 s.bs (Γ b)) w s.ef :=
  ⟨hfr.os,hfr.tape,hfr.output,hfr.size,hfr.fix.trans hf,fun b g hb=>by simp [hfr.own b g hb,W9,base1 b g hb],same0⟩
 have inj':∀ b b' g,W9 s.bs (Γ b)=.own g→W9 s.bs (Γ b')=.own g→b=b':=fun b b' g h1 h2=>hr.inj b b' g (Xk h1).1 (Xk h2).1
 have imm':∀ b,Γ b=.imm→W9 s.bs (Γ b)=.imm:=fun b hb=>by rw [hb]; rfl
 split at h
 ·exact asis h
 unfold finish at h
 split at h
 case h_2=>exact asis h
 rename_i u hu
 obtain ⟨r1,r2⟩:=Zuo hr hu hv ho
 split at h
 ·rename_i he
  cases h
  rw [he] at fr
  refine ⟨_,⟨fun g o hg=>?_,inj',fun b hb=>imm' b (hr.fresh b hb),fun b g hb=>by rw [← hbs]; exact (Xk hb).2,hr.old,fun b hb=>imm' b (hr.oldImm b hb),fun g hg b hb=>h0.dead g hg b (hbk b g (Xk hb).1 (Xk hb).2)⟩,r1,r2,fr,Nat.le_refl _,fun b g hb hl=>hbk b g (Xk hb).1 (Xk hb).2⟩
  refine (h0.objs g o hg).step (X := fun b=>¬ Kept none (Γ0 b)) ⟨fr.os,fr.tape,fr.output,fr.size,fun b hb hx=>fr.keep b hb (Classical.not_not.1 hx),fr.fix,fr.own⟩ h0.fresh (fun b hx e=>hx ?_) (fun b n i hx e=>hx ?_)
  ·rw [e]; exact fun _ _ e=>by cases e
  ·rw [e]; exact fun _ _ e=>by cases e
 ·rename_i e he
  split at h
  ·rename_i hall
   cases h
   rw [he] at fr
   have hlen:(s.hp.take s.bs).length=s.bs:=by simp; omega
   refine ⟨_,⟨fun g o hg=>?_,inj',fun b hb=>imm' b (hr.fresh b hb),fun b g hb=>by rw [hlen]; exact (Xk hb).2,hr.old,fun b hb=>imm' b (hr.oldImm b hb),fun g hg b hb=>hr.dead g (by have hgl:=Zr hg; rw [hlen] at hgl; rw [List.getElem?_take,if_pos hgl] at hg; exact hg) b (Xk hb).1⟩,r1,r2,fr,by omega,fun b g hb hl=>hbk b g (Xk hb).1 (Xk hb).2⟩
   have hgl:=Zr hg
   rw [hlen] at hgl
   have hund:=List.all_eq_true.1 hall o (List.mem_of_getElem? hg)
   rw [List.getElem?_take,if_pos hgl] at hg
   have:=hr.objs g o hg
   cases o with
   | dead=>trivial
   | cells cs t =>
    obtain ⟨b,C,h1,h2,h3,h4⟩:=this
    refine ⟨b,C,by simp [h1,W9,hgl],h2,h3,fun i c hc=>?_⟩
    obtain ⟨a1,a2,a3⟩:=h4 i c hc
    exact ⟨a1,ZtZ (List.all_eq_true.1 hund c (List.mem_of_getElem? hc)) a2,a3.fix hf fun b n hb=>⟨by simp [hb,W9,hgl],rfl⟩⟩
   | map es =>
    obtain ⟨b,ms,clk,h1,h2,h3,h4⟩:=this
    exact ⟨b,ms,clk,by simp [h1,W9,hgl],h2,h3,h4⟩
   | iter l pos =>
    obtain ⟨b,h1,h2⟩:=this
    exact ⟨b,by simp [h1,W9,hgl],h2⟩
   | buf _ _ _ =>
    obtain ⟨b,C,h1,h2,h3⟩:=this
    exact ⟨b,C,by simp [h1,W9,hgl],h2,h3.mono fun b n i hb=>⟨by simp [hb,W9,hgl],rfl⟩⟩
  ·exact asis h
end
end Go.Proofs.YtgjcjbhhhlelnaaGreatDoor.Abs
end
section
namespace Go.Proofs.YtgjcjbhhhlelnaaGreatDoor.Abs
open Go Go.RowKit
def KC (call:FuncId→List AV→List Zn→Option (AV×List Zn×Eff))(f:FuncId)(args:List AV)(hp:List Zn):Option (AV×List Zn×Eff) :=
 match call f args hp with
 | some (v,hp',none)=>match frz hp.length hp' v with
  | some v'=>some (v',hp,none)
  | none=>none
 | _=>none
theorem Zp2 {call:FuncId→List AV→List Zn→Option (AV×List Zn×Eff)}:∀ f args hp v hp' e,KC call f args hp=some (v,hp',e)→hp'=hp∧e=none:=by
 intro f args hp v hp' e h
 unfold KC at h
 split at h <;> first | (cases h; done) | skip
 split at h <;> first | (cases h; done) | skip
 cases h
 exact ⟨rfl,rfl⟩
theorem ZcG {P:Program}{W0:World}{call:FuncId→List AV→List Zn→Option (AV×List Zn×Eff)}(hS:Yd P W0 call):Yd P W0 (KC call):=by
 intro f args hp v hp' e h Γ w xs hr ht hs hx
 unfold KC at h
 split at h <;> first | (cases h; done) | skip
 rename_i v0 hp0 hc
 split at h <;> first | (cases h; done) | skip
 rename_i v1 hf
 cases h
 refine (hS f args hp v0 hp0 none hc Γ w xs hr ht hs hx).mono fun cv w' ⟨Γ',r1,r2,r3,r4,r5⟩=>?_
 exact ZcU (s := ⟨[],hp0,none,hp.length⟩) hr rfl r5.1 (fun b n g i hb=>ht.cell b n g i hb) r1 r4 r5.2 r2 r3 (keep := false) (by simp only [finish,hf]; rfl)
def Jb:Kind→Kind
 | .own _=>.list 0 .outer
 | .list n (.cell _ _)=>.list n .outer
 | k=>k
def J9:Kind→Bool
 | .own _=>true
 | .list _ (.cell _ _)=>true
 | _=>false
theorem Zil {k:Kind}{o:Nat}(h:QN o k):QN o (Jb k):=by
 cases k with
 | imm=>trivial
 | own g=>exact h.elim
 | list n l=>cases l <;> exact h
theorem Zim {k:Kind}{g:Nat}:Jb k≠.own g:=by
 cases k with
 | imm=>simp [Jb]
 | own g=>simp [Jb]
 | list n l=>cases l <;> simp [Jb]
theorem ZnB {k:Kind}(h:J9 k=false):Jb k=k:=by
 cases k with
 | imm=>rfl
 | own g=>cases h
 | list n l=>cases l <;> first | rfl | cases h
theorem ZnA {k:Kind}(h:J9 k=true):Kept none (Jb k):=by
 cases k with
 | imm=>cases h
 | own g=>trivial
 | list n l=>cases l <;> first | trivial | cases h
theorem Zko {k:Kind}{o:Nat}(h:J9 k=true)(hf:QN o (Jb k)):QN o k:=by
 cases k with
 | imm=>cases h
 | own g=>exact absurd hf (Nat.not_lt_zero _)
 | list n l=>cases l <;> first | exact hf | cases h
theorem Rep.bare {Γ Γ':ZB}{w:World}{x:AV}{v:Value}(hf:Yo Γ w Γ' w)(h:Rep Γ w x v)(hb:x.bare=true):Rep Γ' w x v:=by
 cases h with
 | agg cells cv hs h1 hn hr =>
  refine .agg cells cv hs h1 hn fun j c hc=>(hr j c hc).noId hf ?_
  exact List.all_eq_true.1 hb c (List.mem_of_getElem? hc)
 | _=>exact Rep.noId hf (by constructor <;> assumption) hb
theorem Zin {P:Program}{W0:World}{call:FuncId→List AV→List Zn→Option (AV×List Zn×Eff)}(hS:Yd P W0 call):Yd P W0 (Yt call):=by
 intro f args hp v hp' e h Γ w xs hr ht hs hx
 have hc:args.all AV.bare=true∧KC call f args []=some (v,[],none)∧hp'=hp∧e=none:=by
  unfold Yt at h
  split at h <;> first | (cases h; done) | skip
  rename_i hb
  split at h <;> first | (cases h; done) | skip
  rename_i v0 hp0 hc
  split at h <;> first | (cases h; done) | skip
  rename_i v1 hf
  cases h
  refine ⟨hb,?_,rfl,rfl⟩
  unfold KC
  rw [hc]
  simp only [List.length_nil]
  rw [hf]
 obtain ⟨hb,hc,rfl,rfl⟩:=hc
 have f1:Yo Γ w (fun b=>Jb (Γ b)) w:=fun _ _ _ h1 h2=>⟨Zil h1,h2⟩
 have hr1:RW W0 (fun b=>Jb (Γ b)) w []:=⟨fun g o hg=>by simp at hg,fun b b' g hb=>absurd hb Zim,fun b hb=>by simp [hr.fresh b hb,Jb],fun b g hb=>absurd hb Zim,hr.old,fun b hb=>by simp [hr.oldImm b hb,Jb],fun g hg=>by simp at hg⟩
 have ht1:Tidy (fun b=>Jb (Γ b)) 0:=by
  refine ⟨fun b m h=>?_,fun b m j h=>?_,fun b m g i h=>?_⟩
  ·have:=ht.res b m
   cases hg:Γ b with
   | imm=>simp [hg,Jb] at h
   | own g=>simp [hg,Jb] at h
   | list n l=>cases l <;> simp [hg,Jb] at h this <;> omega
  ·have:=ht.arg b m j
   cases hg:Γ b with
   | imm=>simp [hg,Jb] at h
   | own g=>simp [hg,Jb] at h
   | list n l=>cases l <;> simp [hg,Jb] at h this <;> omega
  ·cases hg:Γ b with
   | imm=>simp [hg,Jb] at h
   | own g=>simp [hg,Jb] at h
   | list n l=>cases l <;> simp [hg,Jb] at h
 refine (ZcG hS f args [] v [] none hc (fun b=>Jb (Γ b)) w xs hr1 ht1 hs fun j x hj=>?_).mono fun cv w' ⟨Γ',r1,r2,r3,r4,r5⟩=>?_
 ·obtain ⟨q1,q2⟩:=hx j x hj
  have hbx:=List.all_eq_true.1 hb x (List.mem_of_getElem? hj)
  refine ⟨q1.bare f1 hbx,fun k rows e=>?_⟩
  rcases q2 k rows e with h | ⟨b,cap,e,cur,h1,h2,h3,h4,h5,h6,h7,h8⟩
  ·exact .inl h
  ·exact .inr ⟨b,cap,e,cur,h1,by simp [h2,Jb],h3,h4,h5,h6,h7,fun i j r c hi hj=>⟨(h8 i j r c hi hj).1,(h8 i j r c hi hj).2.noId f1 (h8 i j r c hi hj).1⟩⟩
 ·have lt:∀ b,Γ b≠.imm→b < w.heap.size:=fun b hb=>by
   rcases Nat.lt_or_ge b w.heap.size with h' | h'
   ·exact h'
   ·exact absurd (hr.fresh b h') hb
  have lost:∀ b,J9 (Γ b)=true→Γ' b=Jb (Γ b)∧w'.heap[b]? = w.heap[b]?:=fun b hb=>r4.keep b (lt b fun e=>by rw [e] at hb; cases hb) (ZnA hb)
  let Γ2:ZB:=fun b=>if J9 (Γ b)=true then Γ b else Γ' b
  have g1:∀ b,J9 (Γ b)=true→Γ2 b=Γ b:=fun b hb=>if_pos hb
  have g2:∀ b,¬ J9 (Γ b)=true→Γ2 b=Γ' b:=fun b hb=>if_neg hb
  have fix:Yo Γ w Γ2 w':=fun b o y h1 h2=>by
   obtain ⟨k1,k2⟩:=r4.fix b o y (Zil h1) h2
   refine ⟨?_,k2⟩
   unfold LD
   by_cases hb:J9 (Γ b)=true
   ·rw [g1 b hb]; exact h1
   ·rw [g2 b hb]; exact k1
  have own:YG Γ Γ2:=fun b g hb=>by rw [g1 b (by rw [hb]; rfl)]; exact hb
  have ownI:∀ b g,Γ2 b=.own g→Γ b=.own g:=fun b g hb=>by
   by_cases hl:J9 (Γ b)=true
   ·rw [g1 b hl] at hb; exact hb
   ·rw [g2 b hl] at hb; exact absurd (r1.lt b g hb) (Nat.not_lt_zero _)
  have fix2:Yo Γ' w' Γ2 w':=fun b o y h1 h2=>by
   refine ⟨?_,h2⟩
   unfold LD at h1 ⊢
   by_cases hb:J9 (Γ b)=true
   ·rw [g1 b hb]
    rw [(lost b hb).1] at h1
    exact Zko hb h1
   ·rw [g2 b hb]; exact h1
  have own2:YG Γ' Γ2:=fun b g hb=>absurd (r1.lt b g hb) (Nat.not_lt_zero _)
  have keepL:∀ b,J9 (Γ b)=true→Γ2 b=Γ b∧w'.heap[b]? = w.heap[b]?:=fun b hb=>⟨g1 b hb,(lost b hb).2⟩
  have imm2:∀ b,Γ' b=.imm→J9 (Γ b)=false→Γ2 b=.imm:=fun b h1 h2=>by rw [g2 b (by rw [h2]; simp)]; exact h1
  refine ⟨Γ2,⟨fun g o hg=>?_,fun b b' g h1 h2=>hr.inj b b' g (ownI b g h1) (ownI b' g h2),fun b hb=>?_,fun b g hb=>hr.lt b g (ownI b g hb),r1.old,fun b hb=>?_,fun g hg b hb=>hr.dead g hg b (ownI b g hb)⟩,r2.mono fix2 own2,r3.mono fix2 own2 fun b n hb=>⟨?_,rfl⟩,
   ⟨r4.os,r4.tape,r4.output,r4.size,fix,own,fun b hb hk=>?_⟩,Nat.le_refl _,fun b g hb _=>ownI b g hb⟩
  ·have hold:=hr.objs g o hg
   cases o with
   | dead=>trivial
   | cells cs t =>
    obtain ⟨b,C,h1,h2,h3,h4⟩:=hold
    obtain ⟨k1,k2⟩:=keepL b (by rw [h1]; rfl)
    refine ⟨b,C,k1.trans h1,k2.trans h2,h3,fun i c hc=>?_⟩
    obtain ⟨a1,a2,a3⟩:=h4 i c hc
    refine ⟨a1,a2.mono fix own,a3.mono fix own fun b n hb=>?_⟩
    obtain ⟨k1,k2⟩:=keepL b (by rw [hb]; rfl)
    exact ⟨k1.trans hb,k2⟩
   | map es =>
    obtain ⟨b,ms,clk,h1,h2,h3,h4⟩:=hold
    obtain ⟨k1,k2⟩:=keepL b (by rw [h1]; rfl)
    exact ⟨b,ms,clk,k1.trans h1,k2.trans h2,h3,h4⟩
   | iter l pos =>
    obtain ⟨b,h1,h2⟩:=hold
    obtain ⟨k1,k2⟩:=keepL b (by rw [h1]; rfl)
    exact ⟨b,k1.trans h1,k2.trans h2⟩
   | buf _ _ _ =>
    obtain ⟨b,C,h1,h2,h3⟩:=hold
    obtain ⟨k1,k2⟩:=keepL b (by rw [h1]; rfl)
    refine ⟨b,C,k1.trans h1,k2.trans h2,h3.mono fun b n i hb=>?_⟩
    obtain ⟨k1,k2⟩:=keepL b (by rw [hb]; rfl)
    exact ⟨k1.trans hb,k2⟩
  ·refine imm2 b (r1.fresh b hb) ?_
   rw [hr.fresh b (Nat.le_trans r4.size hb)]; rfl
  ·refine imm2 b (r1.oldImm b hb) ?_
   rw [hr.oldImm b hb]; rfl
  ·by_cases hl:J9 (Γ b)=true
   ·have:=(lost b hl).1
    rw [hb] at this
    cases hg:Γ b with
    | imm=>simp [hg,Jb] at this
    | own g=>simp [hg,Jb] at this
    | list n l=>cases l <;> simp [hg,Jb] at this <;> (rw [hg] at hl; cases hl)
   ·rw [g2 b hl]; exact hb
  ·by_cases hl:J9 (Γ b)=true
   ·exact keepL b hl
   ·have hsame:=ZnB (by simpa using hl:J9 (Γ b)=false)
    obtain ⟨k1,k2⟩:=r4.keep b hb (by show Kept none (Jb (Γ b)); rw [hsame]; exact hk)
    exact ⟨by rw [g2 b hl,k1]; exact hsame,k2⟩
def Zx7:AV→Bool
 | .own _ r=>r.all fun l=>l.all AV.flat1
 | v=>v.flat
def Zk2 (call:FuncId→List AV→List Zn→Option (AV×List Zn×Eff))(f:FuncId)(args:List AV)(hp:List Zn):Option (AV×List Zn×Eff) :=
 match args.mapM (frz 0 hp) with
 | some as=>match call f as [] with
  | some (v,hp',none)=>match frz 0 hp' v with
   | some v'=>if Zx7 v' then some (v',hp,none) else none
   | none=>none
  | _=>none
 | none=>none
theorem Zf9 {k:Kind}{g:Nat}:W9 0 k≠.own g:=fun h=>absurd (Xk h).2 (Nat.not_lt_zero _)
theorem ZcK {k:Kind}(h:J9 k=false):W9 0 k=k:=by
 cases k with
 | imm=>rfl
 | own g=>cases h
 | list n l=>cases l <;> first | rfl | cases h
theorem NF {k:Kind}(h:J9 k=true):W9 0 k=.imm:=by
 cases k with
 | imm=>cases h
 | own g=>rfl
 | list n l=>cases l <;> first | rfl | cases h
theorem ZsH {P:Program}{W0:World}{call:FuncId→List AV→List Zn→Option (AV×List Zn×Eff)}(hS:Yd P W0 call):Yd P W0 (Zk2 call):=by
 intro f args hp v hp' e h Γ w xs hr ht hs hx
 unfold Zk2 at h
 split at h <;> first | (cases h; done) | skip
 rename_i as hm
 have hc:KC call f as []=some (v,[],none)∧Zx7 v=true∧hp'=hp∧e=none:=by
  split at h <;> first | (cases h; done) | skip
  rename_i v0 hp0 hc
  split at h <;> first | (cases h; done) | skip
  rename_i v1 hf
  split at h <;> first | (cases h; done) | skip
  rename_i hfree
  cases h
  refine ⟨?_,hfree,rfl,rfl⟩
  unfold KC
  rw [hc]
  simp only [List.length_nil]
  rw [hf]
 clear h
 obtain ⟨hc,hfree,rfl,rfl⟩:=hc
 obtain ⟨m1,m2⟩:=EU hm
 have f1:Yo Γ w (fun b=>W9 0 (Γ b)) w:=fun _ _ _ h1 h2=>⟨Oq h1,h2⟩
 have hr1:RW W0 (fun b=>W9 0 (Γ b)) w []:=⟨fun g o hg=>by simp at hg,fun b b' g hb=>absurd hb Zf9,fun b hb=>by simp [hr.fresh b hb,W9],fun b g hb=>absurd hb Zf9,hr.old,fun b hb=>by simp [hr.oldImm b hb,W9],fun g hg=>by simp at hg⟩
 have keepL:∀ k m l,W9 0 k=.list m l→k=.list m l:=fun k m l h=>by
  cases hl:J9 k with
  | true=>rw [NF hl] at h; cases h
  | false=>rw [ZcK hl] at h; exact h
 have ht1:Tidy (fun b=>W9 0 (Γ b)) 0:=by
  refine ⟨fun b m h=>ht.res b m (keepL _ _ _ h),fun b m j h=>ht.arg b m j (keepL _ _ _ h),fun b m g i h=>?_⟩
  have:=keepL _ _ _ h
  rw [this] at h
  cases h
 refine (ZcG hS f as [] v [] none hc (fun b=>W9 0 (Γ b)) w xs hr1 ht1 (by rw [hs,m1]) fun j x hj=>?_).mono fun cv w' ⟨Γ',r1,r2,r3,r4,r5⟩=>?_
 ·obtain ⟨y,y1,y2⟩:=m2 j x hj
  obtain ⟨q1,q2⟩:=hx j y y1
  have other:ZfF 0 hp' y=some x→Rep (fun b=>W9 0 (Γ b)) w x (xs.getD j Go.undef)∧OwnAt (fun b=>W9 0 (Γ b)) w (.slot j) x (xs.getD j Go.undef):=fun h=>by
   obtain ⟨h1,h2⟩:=Ce hr h q1
   exact ⟨h1,.of_ne h2⟩
  cases y with
  | own k r =>
   have:x=.own k r:=(Option.some.inj y2).symm
   subst this
   exact ⟨q1.noId f1 rfl,q2.fix f1 fun b n hb=>⟨by simp [hb,W9],rfl⟩⟩
  | tup vs =>
   obtain ⟨h1,h2⟩:=Zuo hr y2 q1 (.of_ne (by simp))
   obtain ⟨vs',_,e⟩:=Option.map_eq_some_iff.1 (show (vs.mapM (ZfF 0 hp')).map AV.tup=some x from y2)
   subst e
   exact ⟨h1,.of_ne (by simp)⟩
  | _=>exact other y2
 ·have lt:∀ b,Γ b≠.imm→b < w.heap.size:=fun b hb=>by
   rcases Nat.lt_or_ge b w.heap.size with h' | h'
   ·exact h'
   ·exact absurd (hr.fresh b h') hb
  have lost:∀ b,J9 (Γ b)=true→Γ' b=.imm∧w'.heap[b]? = w.heap[b]?:=fun b hb=>by
   obtain ⟨k1,k2⟩:=r4.keep b (lt b fun e=>by rw [e] at hb; cases hb) (by show Kept none (W9 0 (Γ b)); rw [NF hb]; trivial)
   exact ⟨k1.trans (NF hb),k2⟩
  let Γ2:ZB:=fun b=>if J9 (Γ b)=true then Γ b else Γ' b
  have g1:∀ b,J9 (Γ b)=true→Γ2 b=Γ b:=fun b hb=>if_pos hb
  have g2:∀ b,¬ J9 (Γ b)=true→Γ2 b=Γ' b:=fun b hb=>if_neg hb
  have fix:Yo Γ w Γ2 w':=fun b o y h1 h2=>by
   obtain ⟨k1,k2⟩:=r4.fix b o y (Oq h1) h2
   refine ⟨?_,k2⟩
   unfold LD
   by_cases hb:J9 (Γ b)=true
   ·rw [g1 b hb]; exact h1
   ·rw [g2 b hb]; exact k1
  have own:YG Γ Γ2:=fun b g hb=>by rw [g1 b (by rw [hb]; rfl)]; exact hb
  have ownI:∀ b g,Γ2 b=.own g→Γ b=.own g:=fun b g hb=>by
   by_cases hl:J9 (Γ b)=true
   ·rw [g1 b hl] at hb; exact hb
   ·rw [g2 b hl] at hb; exact absurd (r1.lt b g hb) (Nat.not_lt_zero _)
  have keepO:∀ b,J9 (Γ b)=true→Γ2 b=Γ b∧w'.heap[b]? = w.heap[b]?:=fun b hb=>⟨g1 b hb,(lost b hb).2⟩
  have imm2:∀ b,Γ' b=.imm→J9 (Γ b)=false→Γ2 b=.imm:=fun b h1 h2=>by rw [g2 b (by rw [h2]; simp)]; exact h1
  have resOwn:OwnAt Γ2 w' .res v cv:=fun k rows e=>by
   subst e
   rcases r3 k rows rfl with h | ⟨b,cap,e,cur,h1,h2,h3,h4,h5,h6,h7,h8⟩
   ·exact .inl h
   ·refine .inr ⟨b,cap,e,cur,h1,?_,h3,h4,h5,h6,h7,fun i j r c hi hj=>⟨(h8 i j r c hi hj).1,Ov (h8 i j r c hi hj).2 ?_⟩⟩
    ·rw [g2 b fun hl=>by rw [(lost b hl).1] at h2; cases h2]; exact h2
    ·have:=List.all_eq_true.1 (show (rows.all fun l=>l.all AV.flat1)=true from hfree) r (List.mem_of_getElem? hi)
     exact List.all_eq_true.1 this c (List.mem_of_getElem? hj)
  have resRep:Rep Γ2 w' v cv:=by
   cases v with
   | own k rows=>exact resOwn.rep
   | _=>exact ZbF r2 hfree
  refine ⟨Γ2,⟨fun g o hg=>?_,fun b b' g h1 h2=>hr.inj b b' g (ownI b g h1) (ownI b' g h2),fun b hb=>?_,fun b g hb=>hr.lt b g (ownI b g hb),r1.old,fun b hb=>?_,fun g hg b hb=>hr.dead g hg b (ownI b g hb)⟩,resRep,resOwn,
   ⟨r4.os,r4.tape,r4.output,r4.size,fix,own,fun b hb hk=>?_⟩,Nat.le_refl _,fun b g hb _=>ownI b g hb⟩
  ·have hold:=hr.objs g o hg
   cases o with
   | dead=>trivial
   | cells cs t =>
    obtain ⟨b,C,h1,h2,h3,h4⟩:=hold
    obtain ⟨k1,k2⟩:=keepO b (by rw [h1]; rfl)
    refine ⟨b,C,k1.trans h1,k2.trans h2,h3,fun i c hc=>?_⟩
    obtain ⟨a1,a2,a3⟩:=h4 i c hc
    refine ⟨a1,a2.mono fix own,a3.mono fix own fun b n hb=>?_⟩
    obtain ⟨k1,k2⟩:=keepO b (by rw [hb]; rfl)
    exact ⟨k1.trans hb,k2⟩
   | map es =>
    obtain ⟨b,ms,clk,h1,h2,h3,h4⟩:=hold
    obtain ⟨k1,k2⟩:=keepO b (by rw [h1]; rfl)
    exact ⟨b,ms,clk,k1.trans h1,k2.trans h2,h3,h4⟩
   | iter l pos =>
    obtain ⟨b,h1,h2⟩:=hold
    obtain ⟨k1,k2⟩:=keepO b (by rw [h1]; rfl)
    exact ⟨b,k1.trans h1,k2.trans h2⟩
   | buf _ _ _ =>
    obtain ⟨b,C,h1,h2,h3⟩:=hold
    obtain ⟨k1,k2⟩:=keepO b (by rw [h1]; rfl)
    refine ⟨b,C,k1.trans h1,k2.trans h2,h3.mono fun b n i hb=>?_⟩
    obtain ⟨k1,k2⟩:=keepO b (by rw [hb]; rfl)
    exact ⟨k1.trans hb,k2⟩
  ·refine imm2 b (r1.fresh b hb) ?_
   rw [hr.fresh b (Nat.le_trans r4.size hb)]; rfl
  ·refine imm2 b (r1.oldImm b hb) ?_
   rw [hr.oldImm b hb]; rfl
  ·by_cases hl:J9 (Γ b)=true
   ·exact keepO b hl
   ·have hsame:=ZcK (by simpa using hl:J9 (Γ b)=false)
    obtain ⟨k1,k2⟩:=r4.keep b hb (by show Kept none (W9 0 (Γ b)); rw [hsame]; exact hk)
    exact ⟨by rw [g2 b hl,k1]; exact hsame,k2⟩
def ZkC (S:List Nat)(call:FuncId→List AV→List Zn→Option (AV×List Zn×Eff))(f:FuncId)(args:List AV)(hp:List Zn):Option (AV×List Zn×Eff) :=
 match S.elem f with
 | true=>Zk2 call f args hp
 | false=>call f args hp
theorem ZsX {P:Program}{W0:World}{call:FuncId→List AV→List Zn→Option (AV×List Zn×Eff)}(S:List Nat)(hS:Yd P W0 call):Yd P W0 (ZkC S call):=by
 intro f args hp v hp' e h
 unfold ZkC at h
 split at h
 ·exact ZsH hS f args hp v hp' e h
 ·exact hS f args hp v hp' e h
end Go.Proofs.YtgjcjbhhhlelnaaGreatDoor.Abs
end
section
namespace Go.Proofs.YtgjcjbhhhlelnaaGreatDoor.Abs
open Go Go.RowKit
section
variable {G:Nat→Option (List AV)}{call:FuncId→List AV→List Zn→Option (AV×List Zn×Eff)}
theorem ZpM {s s':Zc}{ao:AOp}{v:AV}(h:Zf G call s ao=some (v,s')):s'.bs=s.bs:=by
 cases ao <;> simp only [Zf] at h <;> (repeat' split at h) <;> first
  | (cases h; done)
  | (obtain ⟨_,rfl⟩:=YP h; rfl)
  | (cases h; rfl)
  | (obtain ⟨x,_,e⟩:=Option.map_eq_some_iff.1 h; cases e; rfl)
theorem Zu7 (s:Zc)(d:Option Nat)(v:AV):(s.put d v).bs=s.bs:=by cases d <;> rfl
theorem JK:∀ {l:List ZP} {s s':Zc},ZE G call l s=some s'→s'.bs=s.bs
 | [],s,s',h=>by cases h; rfl
 | o :: l,s,s',h=>by
  simp only [ZE] at h
  split at h <;> first | (cases h; done) | skip
  rename_i s1 h1
  rw [JK h]
  simp only [Zy] at h1
  split at h1 <;> first | (cases h1; done) | skip
  ·split at h1 <;> first | (cases h1; done) | skip
   rename_i v s2 h2
   obtain rfl:=Option.some.inj h1
   rw [Zu7,ZpM h2]
  ·obtain rfl:=Option.some.inj h1
   rw [Zu7]
theorem Zk6 {f:Zc→Option (IC×Zc)}(hf:∀ {s:Zc} {r:IC×Zc},f s=some r→r.2.bs=s.bs):∀ (n:Nat) {s:Zc} {r:IC×Zc},iter f n s=some r→r.2.bs=s.bs
 | 0,_,_,h=>by cases h
 | n + 1,s,r,h=>by
  simp only [iter] at h
  split at h
  ·rename_i s1 h1
   rw [Zk6 hf n h]
   exact hf h1
  ·exact hf h
theorem Zkw (L:Nat):∀ {c:We} {s:Zc} {r:IC×Zc},Zw G call L c s=some r→r.2.bs=s.bs:=by
 intro c
 induction c with
 | skip=>intro s r h; cases h; rfl
 | region draw ops =>
  intro s r h
  cases draw with
  | false =>
   simp only [Zw] at h
   obtain ⟨s1,h1,rfl⟩:=Option.map_eq_some_iff.1 h
   exact JK h1
  | true =>
   simp only [Zw] at h
   obtain ⟨s1,h1,rfl⟩:=Option.map_eq_some_iff.1 h
   exact JK h1
 | regionB ops =>
  intro s r h
  simp only [Zw] at h
  obtain ⟨s1,h1,rfl⟩:=Option.map_eq_some_iff.1 h
  exact JK h1
 | seq x y ihx ihy =>
  intro s r h
  simp only [Zw] at h
  split at h
  ·rename_i s1 h1
   rw [ihy h]; exact ihx h1
  ·exact ihx h
 | cond c x y ihx ihy =>
  intro s r h
  simp only [Zw] at h
  split at h <;> first | (cases h; done) | skip
  ·exact ihx h
  ·exact ihy h
 | block id c ih =>
  intro s r h
  simp only [Zw] at h
  split at h
  ·rename_i i s1 h1
   have:=ih h1
   split at h <;> (obtain rfl:=Option.some.inj h; exact this)
  ·exact ih h
 | loop c ih =>
  intro s r h
  simp only [Zw] at h
  exact Zk6 ih L h
 | scope c ih=>intro s r h; simp only [Zw] at h; exact ih h
 | exit id=>intro s r h; cases h; rfl
 | ret=>intro s r h; cases h; rfl
 | bad=>intro s r h; cases h
end
structure ZeA (P:Program)(W0:World)(C:Cfg):Prop where
 mixed:P.follows .mixedOrders=true
 globals:GOk C.G W0
 table:∀ f af,C.T f=some af→∃ fn takes,P.funcs[f]? = some fn∧(fn.name == "runtime.NumGoroutine")=false∧cFn P takes fn=some af
 oracle:Yd P W0 C.O
theorem EP {P:Program}{f:FuncId}{fn:Func}{c:Code}(hf:P.funcs[f]? = some fn)(hn:(fn.name == "runtime.NumGoroutine")=false)(hb:fn.body=some c)(xs:Array Value)(w:World):(callFunc f xs).run P w=.ok (.enter f xs) w:=by
 have hn':¬ fn.name = "runtime.NumGoroutine" := by simpa using hn
 simp [callFunc,program,hf,hn',hb,Sem.run]
theorem Td {P:Program}{W0:World}{C:Cfg}(h:ZeA P W0 C):∀ n,Yd P W0 (Z5 C n):=by
 intro n
 induction n with
 | zero=>intro f args hp v hp' e hc; cases hc
 | succ n ih =>
  intro f args hp v hp' e hc Γ w xs hr ht hs hx
  simp only [Z5] at hc
  split at hc
  case h_2=>exact h.oracle f args hp v hp' e hc Γ w xs hr ht hs hx
  rename_i af haf
  obtain ⟨fn,takes,hf,hname,hcf⟩:=h.table f af haf
  unfold cFn at hcf
  split at hcf <;> first | (cases hcf; done) | skip
  rename_i c rs hb hrs
  obtain ⟨ac,hac,rfl⟩:=Option.map_eq_some_iff.1 hcf
  split at hc
  ·cases hc
  ·rename_i x s hne hev
   split at hc <;> first | (cases hc; done) | skip
   rename_i u hu
   have hfin:=Option.some.inj hc
   refine ⟨EP hf hname hb xs w,?_⟩
   have hbs:s.bs=hp.length:=Zkw C.L hev
   have hI:Inv ⟨W0,Γ,w⟩ ⟨args ++ List.replicate (fn.ntmps - args.length) .undef,hp,none,hp.length⟩ Γ { tmps := xs ++ Array.replicate (fn.ntmps - xs.size) Go.undef,defers := [] } w:=by
    have get:∀ (t:Nat) (y:AV),(args ++ List.replicate (fn.ntmps - args.length) AV.undef)[t]? = some y→(args[t]? = some y∧(xs ++ Array.replicate (fn.ntmps - xs.size) Go.undef).getD t Go.undef=xs.getD t Go.undef)∨(y=.undef∧(xs ++ Array.replicate (fn.ntmps - xs.size) Go.undef).getD t Go.undef=Go.undef):=by
     intro t y hy
     rw [List.getElem?_append] at hy
     split at hy
     ·rename_i hlt
      refine .inl ⟨hy,?_⟩
      rw [Array.getD_eq_getD_getElem?,Array.getD_eq_getD_getElem?,Array.getElem?_append_left (by omega)]
     ·rename_i hge
      have hm:=List.mem_of_getElem? hy
      have:=List.eq_of_mem_replicate hm
      refine .inr ⟨this,?_⟩
      have hlt:=Zr hy
      simp only [List.length_replicate] at hlt
      rw [Array.getD_eq_getD_getElem?,Array.getElem?_append_right (by omega),Array.getElem?_replicate,if_pos (by omega)]
      rfl
    refine ⟨rfl,⟨by simp [hs],fun t y hy=>?_,fun t y hy=>?_⟩,hr,.refl _ _ _,fun b g hb=>hr.lt b g hb,fun b m g i hb=>ht.cell b m g i hb,Nat.le_refl _,fun _ _ hb _=>hb⟩
    ·rcases get t y hy with ⟨h1,h2⟩ | ⟨rfl,h2⟩
     ·rw [h2]; exact (hx t y h1).1
     ·rw [h2]; exact .undef
    ·rcases get t y hy with ⟨h1,h2⟩ | ⟨rfl,h2⟩
     ·rw [h2]; exact (hx t y h1).2
     ·exact .of_ne (by simp)
   have hw:=Zvf h.mixed h.globals ih (Zin ih) C.L hac hev hI
   refine calls_of_wp hf hb (Go.wp_mono hw fun en a' w' he=>?_)
   obtain ⟨k1,Γ',i1⟩:=he
   have fin:a'.defers=[]∧∃ cv,(results fn a'.tmps).run P w'=.ok cv w'∧∃ v',Ending.returned cv=.returned v'∧∃ Γ',RW W0 Γ' w' hp'∧Rep Γ' w' v v'∧OwnAt Γ' w' .res v v'∧Frame Γ w Γ' w' e∧hp.length≤hp'.length∧∀ b g,Γ' b=.own g→g < hp.length→Γ b=.own g:=by
    obtain ⟨cv,Γ2,q1,q2,q3,q4,q5,q6⟩:=Zu9 i1 hrs hu
    obtain ⟨Γ3,p1,p2,p3,p4,p5⟩:=ZcU hr hbs (by rw [hbs]; have:=i1.le; simpa [hbs] using this) (fun b m g i hb=>by rw [hbs]; exact ht.cell b m g i hb) q2 q3 q6 q4 q5 hfin
    exact ⟨i1.defers,cv,q1,cv,rfl,Γ3,p1,p2,p3,p4,p5⟩
   cases x with
   | exit i=>exact (hne i rfl).elim
   | normal=>cases en <;> first | exact k1.elim | exact fin
   | ret=>cases en <;> first | exact k1.elim | exact fin
  ·cases hc
end Go.Proofs.YtgjcjbhhhlelnaaGreatDoor.Abs
end
section
namespace Go.Proofs.YtgjcjbhhhlelnaaGreatDoor.Abs
open Go Go.RowKit
def still:ZB:=fun _=>.imm
theorem Zh4 (W:World):RW W still W [] :=
 ⟨fun g o hg=>by simp at hg,fun b b' g h=>(by cases h),fun _ _=>rfl,fun b g h=>(by cases h),⟨rfl,rfl,rfl,Nat.le_refl _,fun _ _=>rfl⟩,fun _ _=>rfl,fun g hg=>by simp at hg⟩
theorem Zaj:Tidy still 0:=⟨fun _ _ h=>(by cases h),fun _ _ _ h=>(by cases h),fun _ _ _ _ h=>(by cases h)⟩
theorem ZxU {P:Program}{W:World}{C:Cfg}(h:ZeA P W C){n:Nat}{f:FuncId}{avs:List AV}{hp:List Zn}{e:Eff}(hev:Z5 C n f avs []=some (.bool true,hp,e)){args:Array Value}
  (hs:args.size=avs.length) (hr:∀ (j:Nat) (x:AV),avs[j]? = some x→Rep still W x (args.getD j Go.undef)∧∀ k r,x≠.own k r) :
  Calls P f args W fun e W'=>e=.returned (.bool true)∧Below W.heap.size W W':=by
 obtain ⟨_,hw⟩:=Td h n f avs [] _ _ _ hev still W args (Zh4 W) Zaj hs fun j x hx=>⟨(hr j x hx).1,.of_ne (hr j x hx).2⟩
 refine hw.mono fun en W' ⟨cv,hv,Γ',r1,r2,_,r4,_⟩=>?_
 subst hv
 cases r2
 exact ⟨rfl,r4.os,r4.tape,r4.output,r4.size,fun b hb=>(r4.keep b hb trivial).2⟩
end Go.Proofs.YtgjcjbhhhlelnaaGreatDoor.Abs
end
section
namespace Go.Proofs.YtgjcjbhhhlelnaaGreatDoor.Abs
open Go Go.RowKit
def ZbB (P:Program)(W0:World)(f:FuncId)(args:List AV)(v:AV):Prop :=
 (∀ k r,v≠.own k r)∧∀ (Γ:ZB) (w:World) (xs:Array Value),Below W0.heap.size W0 w→(∀ b,w.heap.size≤b→Γ b=.imm)→xs.size=args.length→(∀ (j:Nat) (x:AV),args[j]? = some x→Rep Γ w x (xs.getD j Go.undef)) →
  ZuM P f xs w fun cv w'=>Below w.heap.size w w'∧Rep Γ w' v cv
theorem GZ {P:Program}{W0:World}{O:FuncId→List AV→Option AV}(h:∀ f args v,O f args=some v→ZbB P W0 f args v) :
  Yd P W0 fun f args hp=>(O f args).map fun v=>(v,hp,none):=by
 intro f args hp v hp' e ho Γ w xs hr _ hs hx
 obtain ⟨u,hu,e1⟩:=Option.map_eq_some_iff.1 ho
 cases e1
 obtain ⟨hown,hrun⟩:=h f args v hu
 refine (hrun Γ w xs hr.old hr.fresh hs fun j x hj=>(hx j x hj).1).mono fun cv w' ⟨hb,hv⟩=>?_
 have st:Step Γ w Γ w' fun _=>False:=⟨hb.os,hb.tape,hb.output,hb.size,fun b hbl _=>⟨rfl,hb.block b hbl⟩,fun b o v h1 h2=>⟨h1,(Om (hb.block b (lt_of_cell h2))).trans h2⟩,.refl _⟩
 obtain ⟨o1,o2⟩:=Oj hr.old hr.oldImm st fun _ hx=>hx.elim
 refine ⟨Γ,⟨fun g o hg=>(hr.objs g o hg).step st hr.fresh (fun _ hx=>hx.elim) (fun _ _ _ hx=>hx.elim),hr.inj,fun b hbl=>hr.fresh b (Nat.le_trans hb.size hbl),hr.lt,o1,o2,hr.dead⟩,hv,.of_ne hown,⟨hb.os,hb.tape,hb.output,hb.size,st.fix,.refl _,fun b hbl _=>⟨rfl,hb.block b hbl⟩⟩,Nat.le_refl _,fun _ _ hb _=>hb⟩
theorem Fv {P:Program}{f:FuncId}{fn:Func}{c:Code}{xs:Array Value}{w:World}{R:Value→World→Prop}(hf:P.funcs[f]? = some fn)(hn:(fn.name == "runtime.NumGoroutine")=false)(hb:fn.body=some c)
  (h:Calls P f xs w fun e w'=>∃ v,e=.returned v∧R v w'):ZuM P f xs w R:=⟨EP hf hn hb xs w,h⟩
end Go.Proofs.YtgjcjbhhhlelnaaGreatDoor.Abs
end
section
namespace Go.Proofs.YtgjcjbhhhlelnaaGreatDoor.Abs
open Go
inductive KV where
 | raw (v:AV)
 | cln (v:AV)
def KV.val:KV→AV
 | .raw v=>v
 | .cln v=>v
def KV.rd:KV→AV
 | .raw v=>v.ro
 | .cln v=>v
abbrev DL {α:Type}(b:Bool)(x y:α):α :=
 match b with
 | true=>x
 | false=>y
abbrev Env:=Nat→KV
def Env.set (e:Env)(t:Nat)(v:KV):Env:=fun u=>DL (Nat.beq u t) v (e u)
def Env.put (e:Env)(d:Option Nat)(v:KV):Env :=
 match d with
 | some d=>e.set d v
 | none=>e
abbrev KR:=Option (AV×List Zn×Eff)
abbrev DI:=Env→List Zn→Eff→KR
abbrev rdK {α:Type}(x:Option α)(k:α→KR):KR :=
 match x with
 | some v=>k v
 | none=>none
def Qj {α:Type}(x:Option α)(k:α→KR):KR :=
 match x with
 | some v=>k v
 | none=>none
def ZiQ {α β:Type}(x:Option (α×β))(k:α→β→KR):KR :=
 match x with
 | some (a,b)=>k a b
 | none=>none
def LP {α β γ:Type}(x:Option (α×β×γ))(k:α→β→γ→KR):KR :=
 match x with
 | some (a,b,c)=>k a b c
 | none=>none
def ifK (v:AV)(a b:KR):KR :=
 match v with
 | .bool true=>a
 | .bool false=>b
 | _=>none
def PM (want:Bool):AV→Option Bool
 | .bool b=>some (b == want)
 | .undef=>some false
 | _=>none
def PN (g:Option Bool)(x:KR)(hp:List Zn)(ef:Eff)(k:AV→List Zn→Eff→KR):KR :=
 match g with
 | some true=>LP x k
 | some false=>k .undef hp ef
 | none=>none
def Zur (g:Option Bool)(a b:KR):KR :=
 match g with
 | some true=>a
 | some false=>b
 | none=>none
def ZhU (c:AV)(want:Bool)(x:KR)(other:Option AV)(hp:List Zn)(ef:Eff)(k:AV→List Zn→Eff→KR):KR :=
 match c with
 | .bool b=>match b == want with
  | true=>LP x k
  | false=>Qj other fun v=>k v hp ef
 | _=>none
def ZvA {α:Type}(x:α)(k:α→KR):KR:=k x
def ZiN (bs:Nat)(ef:Eff)(g v:Nat):Eff:=if g < bs then Eff.or ef (some (g,v)) else ef
def Oi (bs:Nat)(ef:Eff):Eff→Eff
 | some (a,b)=>if a < bs then Eff.or ef (some (a,b)) else ef
 | none=>ef
def ZeP (c a b:AV):Option AV :=
 match c with
 | .bool true=>some a
 | .bool false=>some b
 | _=>none
def Zsd (n:Nat)(v:AV):Option (List AV):=if v.cells.length=n∧v.laid=true then some v.cells else none
def Z0Y (e:TypeId)(k:Nat)(vs:List AV)(hp:List Zn):Option (AV×List Zn) :=
 if vs.all (fun v=>v.cells.length == k && v.cells.all AV.noId1) then some (.own k (vs.map fun v=>v.cells.map AV.ro),hp)
 else if vs.all (fun v=>v.cells.length == k && v.laid) then some (.arr hp.length 0 vs.length k,hp ++ [.cells (vs.map AV.cells).flatten e]) else none
def ZxY (e:TypeId)(k:Nat)(vs:List AV)(hp:List Zn):Option (AV×List Zn) :=
 if vs.all (fun v=>v.cells.length == k && v.laid) then some (.arr hp.length 0 vs.length k,hp ++ [.cells (vs.map AV.cells).flatten e]) else none
def Z0X (bs:Nat)(p:AV)(hp:List Zn)(ef:Eff):Option (AV×List Zn×Eff) :=
 match p with
 | .ptr g o=>match hp[g]? with
  | some (.cells cs t)=>match cs[o]? with
   | some v=>some (v.up,hp.set g (.cells (cs.set o v.ro) t),ZiN bs ef g 0)
   | none=>none
  | _=>none
 | _=>none
def stV (bs n:Nat)(p v:AV)(hp:List Zn)(ef:Eff):Option (List Zn×Eff) :=
 match p with
 | .ptr g o=>match hp[g]? with
  | some (.cells cs t)=>if v.cells.length=n∧o + n≤cs.length∧v.laid=true then some (hp.set g (.cells (splice cs o v.cells) t),ZiN bs ef g 0) else none
  | _=>none
 | _=>none
def Z1c (bs:Nat)(p v:AV)(hp:List Zn)(ef:Eff):Option (List Zn×Eff) :=
 match p with
 | .ptr g o=>match hp[g]? with
  | some (.cells cs t)=>if v.one=true∧o < cs.length then some (hp.set g (.cells (cs.set o v) t),ZiN bs ef g 0) else none
  | _=>none
 | _=>none
def ZgT:AV→Option AV
 | .ref c=>some (.ref c)
 | .ptr g o=>some (.ptr g o)
 | .fn f a c=>some (.fn f a c)
 | _=>none
def ZsZ (e:TypeId)(zero:List AV)(n:AV)(hp:List Zn):Option (AV×List Zn) :=
 match n with
 | .int _ n=>if 0≤n∧n≤4294967296 then some (.arr hp.length 0 n.toNat zero.length,hp ++ [.cells (List.flatten (List.replicate n.toNat zero)) e]) else none
 | _=>none
def Zyg (bs:Nat)(sh:KSh)(m k v:AV)(hp:List Zn)(ef:Eff):Option (List Zn×Eff) :=
 match m with
 | .map g=>match hp[g]? with
  | some (.map es)=>if Ih sh k && v.flat1 then match update sh k v es with
    | some es'=>some (hp.set g (.map es'),ZiN bs ef g 0)
    | none=>none
   else none
  | _=>none
 | _=>none
def Zu8 (x:AV)(hp:List Zn):Option (AV×List Zn) :=
 match x with
 | .str b=>some (.ptr hp.length 0,hp ++ [.iter b 0])
 | _=>none
def Zyh (bs:Nat)(x:AV)(hp:List Zn)(ef:Eff):Option (AV×List Zn×Eff) :=
 match x with
 | .ptr g 0=>match hp[g]? with
  | some (.iter b pos)=>if pos < b.length then
    some (.tup [.bool true,.int .i64 pos,.int .i32 (Utf8.decode ⟨b.toArray⟩ pos).1],hp.set g (.iter b (pos + (Utf8.decode ⟨b.toArray⟩ pos).2)),ZiN bs ef g 0)
   else some (.tup [.bool false],hp,ef)
  | _=>none
 | _=>none
def Dn (x:AV)(i:Nat):Option AV :=
 match x with
 | .tup vs=>(vs[i]?).map AV.ro
 | _=>none
def Z0V (k bytes:Nat)(s x:AV)(hp:List Zn):Option AV :=
 match s with
 | .own k' r=>match rowsOf hp x with
  | some (k'',r')=>if k=k'∧k=k''∧r'.all (·.all AV.noId1)∧(r.length + r'.length) * bytes≤140737488355328 then some (.own k (r ++ r')) else none
  | none=>none
 | _=>none
def Zxn (bytes:Nat)(s x:AV):Option AV :=
 match s,x with
 | .own k r,.str l=>if k=1∧(r.length + l.length) * bytes≤140737488355328 then some (.own 1 (r ++ l.map byteRow)) else none
 | _,_=>none
def Zxm (k bytes:Nat)(x:AV)(hp:List Zn):Option AV :=
 match rowsOf hp x with
 | some (k'',r')=>if k=k''∧r'.all (·.all AV.noId1)∧r'.length * bytes≤140737488355328 then some (.own k r') else none
 | none=>none
def copyV (bs k:Nat)(d x:AV)(hp:List Zn)(ef:Eff):Option (AV×List Zn×Eff) :=
 match d with
 | .arr g off len k''=>match rowsOf hp x,hp[g]? with
  | some (k',r),some (.cells cs t)=>if k=k'∧k=k''∧off + Nat.min r.length len * k≤cs.length∧((r.take (Nat.min r.length len)).flatten.map AV.ro).all AV.one=true then
    some (.int .i64 (Nat.min r.length len:Nat),hp.set g (.cells (splice cs off ((r.take (Nat.min r.length len)).flatten.map AV.ro)) t),ZiN bs ef g 0) else none
  | _,_=>none
 | .lst _ []=>match rowsOf hp x with
  | some (k',_)=>if k=k' then some (.int .i64 0,hp,ef) else none
  | none=>none
 | _=>none
def Zye:List AV→Option AV
 | .int .i64 n :: l=>(minL n l).map fun n=>.int .i64 n
 | _=>none
def ZwX:List AV→Option AV
 | .int .i64 n :: l=>(maxL n l).map fun n=>.int .i64 n
 | _=>none
def Zxu (K:FuncId→List AV→List Zn→KR)(f:AV)(vs:List AV)(hp:List Zn):KR :=
 match f with
 | .fn f first caps=>K f (first.map AV.nm ++ vs ++ caps.map AV.nm) hp
 | _=>none
def JA:List Nat→Nat→Bool
 | [],_=>true
 | u :: l,t=>DL (Nat.beq u t) false (JA l t)
def rm (d:Nat):List Nat→List Nat
 | []=>[]
 | u :: l=>DL (Nat.beq u d) (rm d l) (u :: rm d l)
def rmO (d:Option Nat)(P:List Nat):List Nat :=
 match d with
 | some d=>rm d P
 | none=>P
def XH:AOp→Bool
 | .take _ | .stt .. | .app .. | .apps .. => true
 | .call _ args=>args.any fun
  | .inl _=>true
  | .inr _=>false
 | _=>false
def QU (N t:Nat)(want:Bool)(P:List Nat):List Nat→List ZP→Nat
 | _,[]=>0
 | ds,o :: l=>match o.guard,o.dst with
  | some (u,w),some d =>
   DL (((Nat.beq u t && (w == want)) || !JA ds u) && !Nat.beq d t && !JA P d && !XH o.op && Nat.blt d N) (QU N t want P (d :: ds) l + 1) 0
  | _,_=>0
def inA (t:Nat)(w:Bool):List (Nat×Bool)→Bool
 | []=>false
 | (u,v) :: l=>DL (Nat.beq u t && (v == w)) true (inA t w l)
section
variable (G:Nat→Option (List AV))(N bs:Nat)(P:List Nat)
def WP (e:Env):Ym→Option AV
 | .tmp t=>DL ((Nat.blt t N && JA P t)) (some (e t).rd) (none)
 | .const v=>some v
 | .glob g=>(G g).map .ref
def PP (e:Env):List Ym→Option (List AV)
 | []=>some []
 | x :: l=>match WP G N P e x with
  | some v=>match PP e l with
   | some vs=>some (v :: vs)
   | none=>none
  | none=>none
def ZbH (e:Env):Option Ym→Option (Option AV)
 | none=>some none
 | some x=>match WP G N P e x with
  | some v=>some (some v)
  | none=>none
def mvK (e:Env)(x:Ym)(k:KV→KR):KR :=
 match x with
 | .tmp t=>DL ((Nat.blt t N && JA P t)) (k (.cln (e t).rd)) none
 | .const v=>k (.raw v)
 | .glob g=>Qj (G g) fun c=>k (.cln (.ref c))
def Zgu:Env→List (Nat ⊕ Ym)→Option (List AV×Env)
 | e,[]=>some ([],e)
 | e,.inl t :: l=>DL ((Nat.blt t N && JA P t)) (match Zgu (e.set t (.cln (e t).rd)) l with
  | some (vs,e')=>some ((e t).val :: vs,e')
  | none=>none) none
 | e,.inr x :: l=>match WP G N P e x with
  | some v=>match Zgu e l with
   | some (vs,e')=>some (v :: vs,e')
   | none=>none
  | none=>none
variable (K:FuncId→List AV→List Zn→KR)
def opK (e:Env)(hp:List Zn)(ef:Eff)(op:AOp)(k:KV→Env→List Zn→Eff→KR):KR :=
 match op with
 | .bad=>none
 | .mv x=>mvK G N P e x fun v=>k v e hp ef
 | .take t=>DL ((Nat.blt t N && JA P t)) (k (e t) (e.set t (.cln (e t).rd)) hp ef) none
 | .pick c a b=>rdK (WP G N P e c) fun c=>rdK (WP G N P e a) fun a=>rdK (WP G N P e b) fun b=>Qj (ZeP c a b) fun v=>k (.raw v) e hp ef
 | .mk t cells=>k (.cln (.ptr hp.length 0)) e (hp ++ [.cells cells t]) ef
 | .box t n x=>rdK (WP G N P e x) fun v=>Qj (Zsd n v) fun cs=>k (.cln (.ptr hp.length 0)) e (hp ++ [.cells cs t]) ef
 | .build zero parts=>rdK (PP G N P e (parts.map (·.2.2))) fun vs=>Qj (fill zero ((parts.zip vs).map fun (p,v)=>(p.1,p.2.1,v.nm))) fun cs=>k (.cln (.agg cs)) e hp ef
 | .lit t n parts=>rdK (PP G N P e parts) fun vs=>ZiQ (Z0Y t n vs hp) fun v hp'=>k (.raw v) e hp' ef
 | .lita t n parts=>rdK (PP G N P e parts) fun vs=>ZiQ (ZxY t n vs hp) fun v hp'=>k (.raw v) e hp' ef
 | .ldc p=>rdK (WP G N P e p) fun p=>Qj (WW hp p) fun v=>k (.cln v) e hp ef
 | .lda n p=>rdK (WP G N P e p) fun p=>Qj (Vb hp n p) fun v=>k (.cln v) e hp ef
 | .ldt p=>rdK (WP G N P e p) fun p=>LP (Z0X bs p hp ef) fun v hp' ef'=>k (.raw v) e hp' ef'
 | .st n p x=>rdK (WP G N P e p) fun p=>rdK (WP G N P e x) fun v=>ZiQ (stV bs n p v hp ef) fun hp' ef'=>k (.cln .undef) e hp' ef'
 | .stt p t=>rdK (WP G N P e p) fun p=>DL ((Nat.blt t N && JA P t)) (ZiQ (Z1c bs p (e t).val hp ef) (fun hp' ef'=>k (.cln .undef) (e.set t (.cln (e t).rd)) hp' ef')) none
 | .nilchk x=>rdK (WP G N P e x) fun x=>Qj (ZgT x) fun v=>k (.cln v) e hp ef
 | .bin op sh x y=>rdK (WP G N P e x) fun a=>rdK (WP G N P e y) fun b=>Qj (ZK op sh a b) fun v=>k (.cln v) e hp ef
 | .un op x=>rdK (WP G N P e x) fun a=>Qj (Zal op a) fun v=>k (.cln v) e hp ef
 | .conv c x=>rdK (WP G N P e x) fun a=>Qj (Vf hp c a) fun v=>k (.cln v) e hp ef
 | .mkfn f first caps=>rdK (PP G N P e first) fun us=>rdK (PP G N P e caps) fun vs=>k (.cln (.fn f us vs)) e hp ef
 | .mkmap=>k (.cln (.map hp.length)) e (hp ++ [.map []]) ef
 | .mksl t zero n=>rdK (WP G N P e n) fun n=>ZiQ (ZsZ t zero n hp) fun v hp'=>k (.cln v) e hp' ef
 | .slice sh x lo hi=>rdK (WP G N P e x) fun x=>rdK (ZbH G N P e lo) fun lo=>rdK (ZbH G N P e hi) fun hi=>Qj (Vz sh x lo hi) fun v=>k (.cln v) e hp ef
 | .slice3 sh x hi mx=>rdK (WP G N P e x) fun x=>rdK (WP G N P e hi) fun hi=>rdK (WP G N P e mx) fun mx=>Qj (O9 sh x hi mx) fun v=>k (.cln v) e hp ef
 | .fa off x=>rdK (WP G N P e x) fun x=>Qj (DT off x) fun v=>k (.cln v) e hp ef
 | .fld off n agg x=>rdK (WP G N P e x) fun x=>Qj (PL off n agg x) fun v=>k (.cln v) e hp ef
 | .ia sh x i=>rdK (WP G N P e x) fun x=>rdK (WP G N P e i) fun i=>Qj (VX sh x i) fun v=>k (.cln v) e hp ef
 | .idx x i=>rdK (WP G N P e x) fun x=>rdK (WP G N P e i) fun i=>Qj (ZcY x i) fun v=>k (.cln v) e hp ef
 | .look sh zero x i ok=>rdK (WP G N P e x) fun x=>rdK (WP G N P e i) fun i=>Qj (Zdf hp sh zero x i ok) fun v=>k (.raw v) e hp ef
 | .mupd sh m i v=>rdK (WP G N P e m) fun m=>rdK (WP G N P e i) fun i=>rdK (WP G N P e v) fun v=>ZiQ (Zyg bs sh m i v hp ef) fun hp' ef'=>k (.cln .undef) e hp' ef'
 | .range x=>rdK (WP G N P e x) fun x=>ZiQ (Zu8 x hp) fun v hp'=>k (.cln v) e hp' ef
 | .next x=>rdK (WP G N P e x) fun x=>LP (Zyh bs x hp ef) fun v hp' ef'=>k (.cln v) e hp' ef'
 | .extract x i=>rdK (WP G N P e x) fun x=>Qj (Dn x i) fun v=>k (.cln v) e hp ef
 | .len sh x=>rdK (WP G N P e x) fun x=>Qj (Xl hp sh x) fun v=>k (.cln v) e hp ef
 | .app n bytes t x=>DL ((Nat.blt t N && JA P t)) (rdK (WP G N P e x) (fun x=>Qj (Z0V n bytes (e t).val x hp) fun v=>k (.raw v) (e.set t (.cln (e t).rd)) hp ef)) none
 | .apps bytes t x=>DL ((Nat.blt t N && JA P t)) (rdK (WP G N P e x) (fun x=>Qj (Zxn bytes (e t).val x) fun v=>k (.raw v) (e.set t (.cln (e t).rd)) hp ef)) none
 | .appn n bytes x=>rdK (WP G N P e x) fun x=>Qj (Zxm n bytes x hp) fun v=>k (.raw v) e hp ef
 | .copy n d x=>rdK (WP G N P e d) fun d=>rdK (WP G N P e x) fun x=>LP (copyV bs n d x hp ef) fun v hp' ef'=>k (.cln v) e hp' ef'
 | .min xs=>rdK (PP G N P e xs) fun vs=>Qj (Zye vs) fun v=>k (.cln v) e hp ef
 | .max xs=>rdK (PP G N P e xs) fun vs=>Qj (ZwX vs) fun v=>k (.cln v) e hp ef
 | .call f args=>rdK (WP G N P e f) fun f=>rdK (Zgu G N P e args) fun p=>LP (Zxu K f p.1 hp) fun v hp' ef'=>k (.raw v) p.2 hp' (Oi bs ef ef')
def Zwe (A:List (Nat×Bool))(o:ZP)(e:Env)(hp:List Zn)(ef:Eff)(k:DI):KR :=
 match o.guard with
 | none=>opK G N bs P K e hp ef o.op fun v e' hp' ef'=>k (e'.put o.dst v) hp' ef'
 | some (t,want)=>DL (inA t want A) (opK G N bs P K e hp ef o.op fun v e' hp' ef'=>k (e'.put o.dst v) hp' ef') (DL (Nat.blt t N && JA P t)
   (DL (XH o.op)
    (Zur (PM want (e t).val) (opK G N bs P K e hp ef o.op fun v e' hp' ef'=>k (e'.put o.dst v) hp' ef') (k (e.put o.dst (.cln .undef)) hp ef))
    (PN (PM want (e t).val) (opK G N bs P K e hp ef o.op fun v _ hp' ef'=>some (v.val,hp',ef')) hp ef fun v hp' ef'=>k (e.put o.dst (.raw v)) hp' ef'))
   none)
end
section
variable (G:Nat→Option (List AV))(N bs:Nat)(K:FuncId→List AV→List Zn→KR)
def Zqa (A:List (Nat×Bool))(P:List Nat)(ops:List ZP):Option (Nat×Bool×Nat×Option Nat×Ym×Ym×List ZP) :=
 match ops with
 | []=>none
 | o :: l=>match o.guard with
  | none=>none
  | some (t,want)=>DL (inA t want A) none
   (match (o :: l).drop (QU N t want P [] (o :: l)) with
   | ⟨d,.pick (.tmp u) a b,none⟩ :: rest=>DL (Nat.beq u t && Nat.blt t N && JA P t && Nat.blt 0 (QU N t want P [] (o :: l))) (some (t,want,QU N t want P [] (o :: l),d,a,b,rest)) none
   | ⟨d,.pick (.tmp u) a b,some (gt,gw)⟩ :: rest=>DL (inA gt gw A && Nat.beq u t && Nat.blt t N && JA P t && Nat.blt 0 (QU N t want P [] (o :: l))) (some (t,want,QU N t want P [] (o :: l),d,a,b,rest)) none
   | _=>none)
def ZpO:Nat→List (Nat×Bool)→List Nat→List ZP→List Nat
 | 0,_,P,_=>P
 | _ + 1,_,P,[]=>P
 | n + 1,A,P,o :: l=>match Zqa N A P (o :: l) with
  | some (_,_,_,d,_,_,rest)=>ZpO n A (rmO d P) rest
  | none=>ZpO n A (rmO o.dst P) l
def ZmZ:Nat→List (Nat×Bool)→List Nat→List ZP→DI→DI
 | _,_,_,[],k=>k
 | 0,_,_,_ :: _,_=>fun _ _ _=>none
 | n + 1,A,P,o :: l,k=>match Zqa N A P (o :: l) with
  | some (t,want,m,d,a,b,rest)=>fun e hp ef=>ZhU (e t).val want
    (ZmZ n ((t,want) :: A) P ((o :: l).take m) (fun e' hp' ef'=>rdK (WP G N (ZpO N n ((t,want) :: A) P ((o :: l).take m)) e' (DL want a b)) fun v=>some (v,hp',ef')) e hp ef)
    (WP G N P e (DL want b a)) hp ef fun v hp' ef'=>ZmZ n A (rmO d P) rest k (e.put d (.raw v)) hp' ef'
  | none=>fun e hp ef=>Zwe G N bs P K A o e hp ef (ZmZ n A (rmO o.dst P) l k)
def ZsU (id:Nat):List (Nat×DI)→DI
 | []=>fun _ _ _=>none
 | (i,k) :: l=>DL (Nat.beq i id) (k) (ZsU id l)
def Zby (F:DI→DI):Nat→DI
 | 0=>fun _ _ _=>none
 | n + 1=>F (Zby F n)
variable (P:List Nat)(L:Nat)
def Q4:We→DI→DI→List (Nat×DI)→DI
 | .skip,n,_,_=>n
 | .region false ops,n,_,_=>ZmZ G N bs K ops.length [] P ops n
 | .region true ops,n,_,_=>ZmZ G N bs (Qu K) ops.length [] P ops n
 | .regionB ops,n,_,_=>ZmZ G N bs (Yt K) ops.length [] P ops n
 | .seq a b,n,r,xs=>Q4 a (Q4 b n r xs) r xs
 | .cond c a b,n,r,xs=>fun e hp ef=>rdK (WP G N P e c) fun v=>ifK v (Q4 a n r xs e hp ef) (Q4 b n r xs e hp ef)
 | .block id c,n,r,xs=>Q4 c n r ((id,n) :: xs)
 | .loop c,_,r,xs=>Zby (fun n'=>Q4 c n' r xs) L
 | .scope c,n,r,xs=>Q4 c n r xs
 | .exit id,_,_,xs=>ZsU id xs
 | .ret,_,r,_=>r
 | .bad,_,_,_=>fun _ _ _=>none
end
def Zz4 (e:Env)(N:Nat)(P:List Nat)(hp:List Zn):Ze7→Option AV
 | .tmp t=>DL ((Nat.blt t N && JA P t)) (some (e t).val) (none)
 | .one t=>DL ((Nat.blt t N && JA P t)) (WW hp (e t).val) (none)
 | .agg t n=>DL ((Nat.blt t N && JA P t)) (Vb hp n (e t).val) (none)
def ZtK (e:Env)(N:Nat)(P:List Nat)(hp:List Zn):List Ze7→(List AV→KR)→KR
 | [],k=>k []
 | r :: l,k=>rdK (Zz4 e N P hp r) fun v=>ZtK e N P hp l fun vs=>k (v.nm :: vs)
def ZlF (e:Env)(N:Nat)(P:List Nat)(hp:List Zn):List Ze7→(AV→KR)→KR
 | [r],k=>rdK (Zz4 e N P hp r) k
 | rs,k=>ZtK e N P hp rs fun vs=>k (.tup vs)
def Zbu (keep:Bool)(hp0:List Zn)(v:AV)(hp:List Zn)(ef:Eff):AV×List Zn×Eff :=
 bif keep then (v.nm,hp,ef) else finish v ⟨[],hp,ef,hp0.length⟩ hp0
def Ar (P:List Nat)(fn:AFn)(hp0:List Zn):DI:=fun e hp ef=>ZlF e fn.ntmps P hp fn.results fun v=>some (Zbu fn.keep hp0 v hp ef)
def Zsa:List AV→Env
 | []=>fun _=>.raw .undef
 | v :: l=>fun t=>match t with
  | 0=>.raw v
  | t + 1=>Zsa l t
def fnK (G:Nat→Option (List AV))(K:FuncId→List AV→List Zn→KR)(P:List Nat)(L:Nat)(fn:AFn)(args:List AV)(hp:List Zn):KR :=
 Q4 G fn.ntmps hp.length K P L fn.code (Ar P fn hp) (Ar P fn hp) [] (Zsa args) hp none
end Go.Proofs.YtgjcjbhhhlelnaaGreatDoor.Abs
end
section
namespace Go.Proofs.YtgjcjbhhhlelnaaGreatDoor.Abs
open Go
theorem Yq {α:Type}{x:Option α}{k:α→KR}{r:AV×List Zn×Eff}(h:Qj x k=some r):∃ v,x=some v∧k v=some r:=by
 cases x with
 | none=>cases h
 | some v=>exact ⟨v,rfl,h⟩
theorem GI {α β:Type}{x:Option (α×β)}{k:α→β→KR}{r:AV×List Zn×Eff}(h:ZiQ x k=some r):∃ a b,x=some (a,b)∧k a b=some r:=by
 cases x with
 | none=>cases h
 | some v=>exact ⟨v.1,v.2,rfl,h⟩
theorem RJ {α β γ:Type}{x:Option (α×β×γ)}{k:α→β→γ→KR}{r:AV×List Zn×Eff}(h:LP x k=some r):∃ a b c,x=some (a,b,c)∧k a b c=some r:=by
 cases x with
 | none=>cases h
 | some v=>exact ⟨v.1,v.2.1,v.2.2,rfl,h⟩
theorem EK {α:Type}(x y:α):DL true x y=x:=rfl
theorem Dh {α:Type}(x y:α):DL false x y=y:=rfl
theorem Z7 {α:Type}{x:Option α}{k:α→KR}{r:AV×List Zn×Eff}(h:rdK x k=some r):∃ v,x=some v∧k v=some r:=by
 cases x with
 | none=>cases h
 | some v=>exact ⟨v,rfl,h⟩
theorem Jc {α:Type}{b:Bool}{x:Option α}{r:α}(h:DL b x none=some r):b=true∧x=some r:=by
 cases b with
 | false=>cases h
 | true=>exact ⟨rfl,h⟩
def Zkf (v:KV):Prop:=v.val.ro=v.rd
theorem RH (v:AV):Zkf (.raw v):=rfl
theorem Kt {v:AV}(h:v.ro=v):Zkf (.cln v):=h
theorem Zj5 (v:AV):v.ro.ro=v.ro:=by cases v <;> rfl
theorem ZxS {v:KV}(h:Zkf v):Zkf (.cln v.rd):=by
 show v.rd.ro=v.rd
 rw [← h,Zj5]
theorem GH:∀ {P:List Nat} {t:Nat},JA P t=true↔t ∉ P
 | [],t=>by simp [JA]
 | u :: l,t=>by
  simp only [JA,List.mem_cons,not_or]
  cases hb:Nat.beq u t with
  | true =>
   have:=Nat.eq_of_beq_eq_true hb
   subst this
   simp
  | false =>
   have:t≠u:=fun h=>by subst h; rw [Nat.beq_refl] at hb; cases hb
   simp [this,← GH]
theorem ZmS:∀ {P:List Nat} {d t:Nat},t ∈ rm d P↔t ∈ P∧t≠d
 | [],d,t=>by simp [rm]
 | u :: l,d,t=>by
  simp only [rm]
  cases hb:Nat.beq u d with
  | true =>
   have:=Nat.eq_of_beq_eq_true hb
   subst this
   simp only [ZmS,List.mem_cons]
   constructor
   ·rintro ⟨a,b⟩; exact ⟨.inr a,b⟩
   ·rintro ⟨a | a,b⟩
    ·exact absurd a b
    ·exact ⟨a,b⟩
  | false =>
   have:u≠d:=fun h=>by subst h; rw [Nat.beq_refl] at hb; cases hb
   simp only [List.mem_cons,ZmS]
   constructor
   ·rintro (a | ⟨a,b⟩)
    ·subst a; exact ⟨.inl rfl,this⟩
    ·exact ⟨.inr a,b⟩
   ·rintro ⟨a | a,b⟩
    ·exact .inl a
    ·exact .inr ⟨a,b⟩
structure WS (N:Nat)(P:List Nat)(e:Env)(sl:List AV):Prop where
 len:sl.length=N
 val:∀ t,t < N→t ∉ P→sl[t]? = some (e t).val
 ok:∀ t,Zkf (e t)
theorem WS.mono {N:Nat}{P P':List Nat}{e:Env}{sl:List AV}(h:WS N P e sl)(hp:∀ t,t ∈ P→t ∈ P'):WS N P' e sl:=⟨h.len,fun t ht hn=>h.val t ht fun hm=>hn (hp t hm),h.ok⟩
theorem WS.set {N:Nat}{P:List Nat}{e:Env}{sl:List AV}(h:WS N P e sl)(d:Nat){v:KV}(hv:Zkf v):WS N (rm d P) (e.set d v) (sl.set d v.val):=by
 refine ⟨by rw [List.length_set]; exact h.len,fun t ht hn=>?_,fun t=>?_⟩
 ·rw [List.getElem?_set]
  by_cases e1:d=t
  ·subst e1
   simp [Env.set,h.len,ht]
  ·have:Nat.beq t d=false:=by cases hb:Nat.beq t d with | false=>rfl | true=>exact absurd (Nat.eq_of_beq_eq_true hb).symm e1
   simp [e1,Env.set,this,h.val t ht fun hm=>hn (ZmS.2 ⟨hm,fun h=>e1 h.symm⟩)]
 ·show Zkf (DL (Nat.beq t d) v (e t))
  cases Nat.beq t d
  ·exact h.ok t
  ·exact hv
theorem WS.put {N:Nat}{P:List Nat}{e:Env}{sl:List AV}(h:WS N P e sl)(d:Option Nat){v:KV}(hv:Zkf v){hp:List Zn}{ef:Eff}{bs:Nat}:WS N (rmO d P) (e.put d v) (Zc.put ⟨sl,hp,ef,bs⟩ d v.val).sl:=by
 cases d with
 | none=>exact h
 | some d=>exact h.set d hv
theorem WS.let_ {N:Nat}{P:List Nat}{e:Env}{sl:List AV}(h:WS N P e sl)(t:Nat):WS N P (e.set t (.cln (e t).rd)) (sl.modify t AV.ro):=by
 refine ⟨by rw [List.length_modify]; exact h.len,fun u hu hn=>?_,fun u=>?_⟩
 ·rw [List.getElem?_modify]
  by_cases e1:t=u
  ·subst e1
   simp only [if_true,h.val t hu hn,Env.set,Nat.beq_refl,KV.val]
   have:=h.ok t
   simp only [Zkf] at this
   simp only [KV.val] at this
   rw [Option.map_eq_map,Option.map_some,← this]
  ·have:Nat.beq u t=false:=by cases hb:Nat.beq u t with | false=>rfl | true=>exact absurd (Nat.eq_of_beq_eq_true hb).symm e1
   simp [e1,Env.set,this,h.val u hu hn]
 ·show Zkf (DL (Nat.beq u t) (.cln (e t).rd) (e u))
  cases Nat.beq u t
  ·exact h.ok u
  ·exact ZxS (h.ok t)
section
variable {G:Nat→Option (List AV)}{N:Nat}{P:List Nat}{e:Env}{sl:List AV}
theorem ZiI {t N:Nat}{P:List Nat}(h:(Nat.blt t N && JA P t)=true):t < N∧t ∉ P:=by
 rw [Bool.and_eq_true] at h
 exact ⟨Nat.le_of_ble_eq_true h.1,GH.1 h.2⟩
theorem WS.get (h:WS N P e sl){t:Nat}(ht:(Nat.blt t N && JA P t)=true):sl[t]? = some (e t).val:=h.val t (ZiI ht).1 (ZiI ht).2
theorem WS.read (h:WS N P e sl){t:Nat}(ht:(Nat.blt t N && JA P t)=true):(sl[t]?).map AV.ro=some (e t).rd:=by
 rw [h.get ht,Option.map_some,h.ok t]
theorem WS.opnd (h:WS N P e sl){x:Ym}{v:AV}(hx:WP G N P e x=some v):Abs.opnd G sl x=some v:=by
 cases x with
 | tmp t =>
  obtain ⟨h1,h2⟩:=Jc (show DL (Nat.blt t N && JA P t) (some (e t).rd) none=some v from hx)
  cases h2
  exact h.read h1
 | const v=>exact hx
 | glob g=>exact hx
theorem WS.opnds (h:WS N P e sl):∀ {xs:List Ym} {vs:List AV},PP G N P e xs=some vs→Abs.opnds G sl xs=some vs
 | [],vs,hx=>hx
 | x :: l,vs,hx=>by
  simp only [PP] at hx
  split at hx
  ·rename_i v hv
   split at hx
   ·rename_i us hus
    cases hx
    simp only [Abs.opnds,h.opnd hv,h.opnds hus,Option.map_some]
   ·cases hx
  ·cases hx
theorem WS.optOpnd (h:WS N P e sl){x:Option Ym}{v:Option AV}(hx:ZbH G N P e x=some v):Abs.optOpnd G sl x=some v:=by
 cases x with
 | none=>exact hx
 | some x =>
  simp only [ZbH] at hx
  split at hx
  ·rename_i u hu
   cases hx
   simp only [Abs.optOpnd,h.opnd hu,Option.map_some]
  ·cases hx
theorem WS.mvK (h:WS N P e sl){x:Ym}{k:KV→KR}{r:AV×List Zn×Eff}(hx:mvK G N P e x k=some r):∃ v,Abs.opnd G sl x=some v.val∧Zkf v∧k v=some r:=by
 cases x with
 | tmp t =>
  obtain ⟨h1,h2⟩:=Jc (show DL (Nat.blt t N && JA P t) (k (KV.cln (e t).rd)) none=some r from hx)
  exact ⟨KV.cln (e t).rd,h.read h1,ZxS (h.ok t),h2⟩
 | const v=>exact ⟨_,rfl,RH v,hx⟩
 | glob g =>
  obtain ⟨c,h1,h2⟩:=Yq (show Qj (G g) (fun c=>k (.cln (.ref c)))=some r from hx)
  exact ⟨KV.cln (.ref c),by simp only [Abs.opnd,h1,Option.map_some]; rfl,rfl,h2⟩
theorem WS.args:∀ {as:List (Nat ⊕ Ym)} {e e':Env} {sl:List AV} {vs:List AV},WS N P e sl→Zgu G N P e as=some (vs,e')→∃ sl',WY G sl as=some (vs,sl')∧WS N P e' sl'
 | [],e,e',sl,vs,h,ha=>by
  cases ha
  exact ⟨sl,rfl,h⟩
 | .inl t :: l,e,e',sl,vs,h,ha=>by
  simp only [Zgu] at ha
  obtain ⟨h1,h2⟩:=Jc ha
  split at h2
  ·rename_i us e1 hus
   cases h2
   obtain ⟨sl',a1,a2⟩:=WS.args (h.let_ t) hus
   refine ⟨sl',?_,a2⟩
   simp only [WY,h.get h1,a1,Option.map_some]
  ·cases h2
 | .inr x :: l,e,e',sl,vs,h,ha=>by
  simp only [Zgu] at ha
  split at ha
  ·rename_i v hv
   split at ha
   ·rename_i us e1 hus
    cases ha
    obtain ⟨sl',a1,a2⟩:=WS.args h hus
    refine ⟨sl',?_,a2⟩
    simp only [WY,h.opnd hv,a1,Option.map_some]
   ·cases ha
  ·cases ha
end
theorem ZtN {op:BinOp}{x y:List UInt8}{v:AV}(h:ZhL op x y=some v):v.ro=v:=by
 cases op <;> simp only [ZhL] at h <;> first | (cases h; done) | (cases h; rfl) | (split at h <;> cases h; rfl)
theorem Zrz {op:BinOp}{k:IntKind}{x y:Int}{v:AV}(h:Kr op k x y=some v):v.ro=v:=by
 cases op <;> simp only [Kr] at h <;> first | (cases h; done) | (cases h; rfl) | (split at h <;> cases h; rfl)
theorem ZlG {op:BinOp}{k:IntKind}{x y:Int}{v:AV}(h:AB op k x y=some v):v.ro=v:=by
 simp only [AB] at h
 split at h
 ·cases h
 ·cases op <;> simp only at h <;> first | (cases h; done) | (cases h; rfl)
theorem Zry {op:BinOp}{sh:Zml}{x y v:AV}(h:ZK op sh x y=some v):v.ro=v:=by
 unfold ZK at h
 split at h
 ·split at h
  ·split at h
   ·exact ZlG h
   ·split at h
    ·exact Zrz h
    ·cases h
  ·exact ZtN h
  ·cases h
 ·split at h
  ·obtain ⟨b,_,rfl⟩:=Option.map_eq_some_iff.1 h; rfl
  ·obtain ⟨b,_,rfl⟩:=Option.map_eq_some_iff.1 h; rfl
  ·cases h
theorem ZtO {op:UnOp}{x v:AV}(h:Zal op x=some v):v.ro=v:=by
 unfold Zal at h
 split at h <;> cases h <;> rfl
theorem ZoC {hp:List Zn}{c:Conv}{x v:AV}(h:Vf hp c x=some v):v.ro=v:=by
 unfold Vf at h
 split at h
 ·cases h; rfl
 ·cases h; rfl
 ·cases h; rfl
 ·split at h
  ·obtain ⟨b,_,rfl⟩:=Option.map_eq_some_iff.1 h; rfl
  ·cases h
 ·cases h
theorem Zzb {hp:List Zn}{x v:AV}(h:WW hp x=some v):v.ro=v:=by
 unfold WW at h
 split at h
 ·cases h; exact Zj5 _
 ·split at h
  ·obtain ⟨b,_,rfl⟩:=Option.map_eq_some_iff.1 h; exact Zj5 _
  ·cases h
 ·cases h
theorem Zza {hp:List Zn}{n:Nat}{x v:AV}(h:Vb hp n x=some v):v.ro=v:=by
 unfold Vb at h
 split at h
 ·split at h <;> cases h; rfl
 ·split at h
  ·split at h <;> cases h; rfl
  ·cases h
 ·cases h
theorem Zr0 {x v:AV}(h:ZgT x=some v):v.ro=v:=by
 unfold ZgT at h
 split at h <;> cases h <;> rfl
theorem Zr1 {sh:Shape}{x v hi mx:AV}(h:O9 sh x hi mx=some v):v.ro=v:=by
 unfold O9 at h
 split at h <;> first | (cases h; done) | skip
 ·split at h <;> cases h; rfl
 ·split at h <;> cases h; split <;> rfl
 ·split at h <;> cases h; split <;> rfl
theorem ZtM {sh:Shape}{x v:AV}{lo hi:Option AV}(h:Vz sh x lo hi=some v):v.ro=v:=by
 unfold Vz at h
 split at h
 ·split at h
  ·split at h <;> cases h; rfl
  ·cases h
 ·split at h
  ·split at h
   ·split at h <;> cases h; rfl
   ·cases h
  ·cases h
 ·split at h
  ·split at h
   ·split at h
    ·split at h <;> cases h <;> rfl
    ·cases h
   ·cases h
  ·cases h
 ·split at h
  ·split at h
   ·split at h <;> cases h <;> rfl
   ·cases h
  ·cases h
 ·cases h
theorem Z0F {off:Nat}{x v:AV}(h:DT off x=some v):v.ro=v:=by
 unfold DT at h
 split at h <;> cases h <;> rfl
theorem ZyW {off n:Nat}{a:Bool}{x v:AV}(h:PL off n a x=some v):v.ro=v:=by
 unfold PL at h
 split at h
 ·split at h
  ·split at h
   ·cases h; rfl
   ·obtain ⟨b,_,rfl⟩:=Option.map_eq_some_iff.1 h; exact Zj5 _
  ·cases h
 ·cases h
theorem Z0H {sh:Shape}{x i v:AV}(h:VX sh x i=some v):v.ro=v:=by
 unfold VX at h
 split at h
 ·split at h
  ·obtain ⟨b,_,rfl⟩:=Option.map_eq_some_iff.1 h; rfl
  ·cases h
 all_goals first | (cases h; done) | (split at h <;> cases h; rfl)
theorem ZyY {x i v:AV}(h:ZcY x i=some v):v.ro=v:=by
 unfold ZcY at h
 split at h
 ·split at h
  ·obtain ⟨b,_,rfl⟩:=Option.map_eq_some_iff.1 h; rfl
  ·cases h
 ·cases h
theorem ZoD {x:AV}{i:Nat}{v:AV}(h:Dn x i=some v):v.ro=v:=by
 unfold Dn at h
 split at h
 ·obtain ⟨b,_,rfl⟩:=Option.map_eq_some_iff.1 h; exact Zj5 _
 ·cases h
theorem Zzc {hp:List Zn}{sh:Zkg}{x v:AV}(h:Xl hp sh x=some v):v.ro=v:=by
 unfold Xl at h
 split at h
 ·cases h; rfl
 ·cases h; rfl
 ·cases h; rfl
 ·cases h; rfl
 ·split at h <;> cases h; rfl
 ·cases h
theorem Zzg {xs:List AV}{v:AV}(h:Zye xs=some v):v.ro=v:=by
 unfold Zye at h
 split at h
 ·obtain ⟨b,_,rfl⟩:=Option.map_eq_some_iff.1 h; rfl
 ·cases h
theorem Zzf {xs:List AV}{v:AV}(h:ZwX xs=some v):v.ro=v:=by
 unfold ZwX at h
 split at h
 ·obtain ⟨b,_,rfl⟩:=Option.map_eq_some_iff.1 h; rfl
 ·cases h
end Go.Proofs.YtgjcjbhhhlelnaaGreatDoor.Abs
end
section
namespace Go.Proofs.YtgjcjbhhhlelnaaGreatDoor.Abs
open Go
section
variable {G:Nat→Option (List AV)}{N bs:Nat}{P:List Nat}{K:FuncId→List AV→List Zn→KR}
def Zxk (G:Nat→Option (List AV))(N bs:Nat)(P:List Nat)(K:FuncId→List AV→List Zn→KR)(sl:List AV)(hp:List Zn)(ef:Eff)(op:AOp)(k:KV→Env→List Zn→Eff→KR)(r:AV×List Zn×Eff):Prop :=
 ∃ (v:KV) (e':Env) (sl':List AV) (hp':List Zn) (ef':Eff),Zf G K ⟨sl,hp,ef,bs⟩ op=some (v.val,⟨sl',hp',ef',bs⟩)∧WS N P e' sl'∧Zkf v∧k v e' hp' ef'=some r
theorem CP (sl:List AV)(hp:List Zn)(ef:Eff)(bs g v:Nat):Zc.note ⟨sl,hp,ef,bs⟩ g v=ZiN bs ef g v:=rfl
theorem ZrZ (sl:List AV)(hp:List Zn)(ef:Eff)(bs:Nat)(e:Eff):Zc.after ⟨sl,hp,ef,bs⟩ e=Oi bs ef e:=by
 cases e with
 | none=>rfl
 | some p=>rfl
theorem Zy2 {e:Env}{sl:List AV}(he:WS N P e sl){hp:List Zn}{ef:Eff}{op:AOp}{k:KV→Env→List Zn→Eff→KR}{r:AV×List Zn×Eff}(h:opK G N bs P K e hp ef op k=some r):Zxk G N bs P K sl hp ef op k r:=by
 cases op <;> simp only [opK] at h
 case bad=>cases h
 case mv x =>
  obtain ⟨v,a1,a2,h2⟩:=he.mvK h
  exact ⟨v,e,sl,hp,ef,by simp only [Zf,a1,Option.map_some],he,a2,h2⟩
 case take t =>
  obtain ⟨h1,h2⟩:=Jc h
  refine ⟨e t,_,sl.modify t AV.ro,hp,ef,?_,he.let_ t,he.ok t,h2⟩
  simp only [Zf,he.get h1,Zc.let_]
 case pick c a b =>
  obtain ⟨c',h1,h⟩:=Z7 h
  obtain ⟨a',h2,h⟩:=Z7 h
  obtain ⟨b',h3,h⟩:=Z7 h
  obtain ⟨v,h4,h⟩:=Yq h
  refine ⟨_,e,sl,hp,ef,?_,he,RH _,h⟩
  unfold ZeP at h4
  split at h4 <;> cases h4
  ·simp only [Zf,he.opnd h1,he.opnd h2,Option.map_some,KV.val]
  ·simp only [Zf,he.opnd h1,he.opnd h3,Option.map_some,KV.val]
 case mk t cells=>exact ⟨_,e,sl,_,ef,rfl,he,(by rfl),h⟩
 case box t n x =>
  obtain ⟨v,h1,h⟩:=Z7 h
  obtain ⟨cs,h2,h⟩:=Yq h
  unfold Zsd at h2
  split at h2 <;> cases h2
  rename_i hc
  refine ⟨_,e,sl,_,ef,?_,he,(by rfl),h⟩
  simp only [Zf,he.opnd h1,hc,and_self,if_true,KV.val]
 case build zero parts =>
  obtain ⟨vs,h1,h⟩:=Z7 h
  obtain ⟨cs,h2,h⟩:=Yq h
  refine ⟨_,e,sl,hp,ef,?_,he,(by rfl),h⟩
  simp only [Zf,he.opnds h1,h2,Option.map_some,KV.val]
 case lit t n parts =>
  obtain ⟨vs,h1,h⟩:=Z7 h
  obtain ⟨v,hp',h2,h⟩:=GI h
  refine ⟨_,e,sl,hp',ef,?_,he,RH _,h⟩
  unfold Z0Y at h2
  split at h2
  ·rename_i hc
   cases h2
   simp only [Zf,he.opnds h1,hc,if_true,KV.val]
  ·rename_i hc
   split at h2
   ·rename_i hc'
    cases h2
    simp only [Zf,he.opnds h1,hc,hc',if_true,KV.val]
    rfl
   ·cases h2
 case lita t n parts =>
  obtain ⟨vs,h1,h⟩:=Z7 h
  obtain ⟨v,hp',h2,h⟩:=GI h
  refine ⟨_,e,sl,hp',ef,?_,he,RH _,h⟩
  unfold ZxY at h2
  split at h2
  ·rename_i hc
   cases h2
   simp only [Zf,he.opnds h1,hc,if_true,KV.val]
  ·cases h2
 case ldc p =>
  obtain ⟨v,h1,h⟩:=Z7 h
  obtain ⟨u,h2,h⟩:=Yq h
  exact ⟨_,e,sl,hp,ef,by simp only [Zf,he.opnd h1,h2,Option.map_some,KV.val],he,Kt (Zzb h2),h⟩
 case lda n p =>
  obtain ⟨v,h1,h⟩:=Z7 h
  obtain ⟨u,h2,h⟩:=Yq h
  exact ⟨_,e,sl,hp,ef,by simp only [Zf,he.opnd h1,h2,Option.map_some,KV.val],he,Kt (Zza h2),h⟩
 case ldt p =>
  obtain ⟨v,h1,h⟩:=Z7 h
  obtain ⟨u,hp',ef',h2,h⟩:=RJ h
  refine ⟨_,e,sl,hp',ef',?_,he,RH _,h⟩
  unfold Z0X at h2
  split at h2
  ·split at h2
   ·rename_i hg
    split at h2
    ·rename_i hc
     cases h2
     simp only [Zf,he.opnd h1,hg,hc,CP,KV.val]
    ·cases h2
   ·cases h2
  ·cases h2
 case st n p x =>
  obtain ⟨v,h1,h⟩:=Z7 h
  obtain ⟨u,h2,h⟩:=Z7 h
  obtain ⟨hp',ef',h3,h⟩:=GI h
  refine ⟨_,e,sl,hp',ef',?_,he,(by rfl),h⟩
  unfold stV at h3
  split at h3
  ·split at h3
   ·rename_i hg
    split at h3
    ·rename_i hc
     cases h3
     simp only [Zf,he.opnd h1,he.opnd h2,hg,hc,CP,KV.val,and_self,if_true]
    ·cases h3
   ·cases h3
  ·cases h3
 case stt p t =>
  obtain ⟨v,h1,h⟩:=Z7 h
  obtain ⟨h2,h⟩:=Jc h
  obtain ⟨hp',ef',h3,h⟩:=GI h
  refine ⟨_,_,sl.modify t AV.ro,hp',ef',?_,he.let_ t,(by rfl),h⟩
  unfold Z1c at h3
  split at h3
  ·split at h3
   ·rename_i hg
    split at h3
    ·rename_i hc
     cases h3
     simp only [Zf,he.opnd h1,he.get h2,hg,CP,Zc.let_]
     rw [if_pos hc]
     rfl
    ·cases h3
   ·cases h3
  ·cases h3
 case nilchk x =>
  obtain ⟨v,h1,h⟩:=Z7 h
  obtain ⟨u,h2,h⟩:=Yq h
  refine ⟨_,e,sl,hp,ef,?_,he,Kt (Zr0 h2),h⟩
  unfold ZgT at h2
  split at h2 <;> cases h2 <;> simp only [Zf,he.opnd h1,KV.val]
 case bin op sh x y =>
  obtain ⟨v,h1,h⟩:=Z7 h
  obtain ⟨u,h2,h⟩:=Z7 h
  obtain ⟨w,h3,h⟩:=Yq h
  exact ⟨_,e,sl,hp,ef,by simp only [Zf,he.opnd h1,he.opnd h2,h3,Option.map_some,KV.val],he,Kt (Zry h3),h⟩
 case un op x =>
  obtain ⟨v,h1,h⟩:=Z7 h
  obtain ⟨u,h2,h⟩:=Yq h
  exact ⟨_,e,sl,hp,ef,by simp only [Zf,he.opnd h1,h2,Option.map_some,KV.val],he,Kt (ZtO h2),h⟩
 case conv c x =>
  obtain ⟨v,h1,h⟩:=Z7 h
  obtain ⟨u,h2,h⟩:=Yq h
  exact ⟨_,e,sl,hp,ef,by simp only [Zf,he.opnd h1,h2,Option.map_some,KV.val],he,Kt (ZoC h2),h⟩
 case mkfn f first caps =>
  obtain ⟨v,h1,h⟩:=Z7 h
  obtain ⟨u,h2,h⟩:=Z7 h
  exact ⟨_,e,sl,hp,ef,by simp only [Zf,he.opnds h1,he.opnds h2,KV.val],he,(by rfl),h⟩
 case mkmap=>exact ⟨_,e,sl,_,ef,rfl,he,(by rfl),h⟩
 case mksl t zero n =>
  obtain ⟨v,h1,h⟩:=Z7 h
  obtain ⟨u,hp',h2,h⟩:=GI h
  unfold ZsZ at h2
  split at h2
  ·split at h2
   ·rename_i hc
    cases h2
    exact ⟨_,e,sl,_,ef,by simp only [Zf,he.opnd h1,hc,and_self,if_true,KV.val],he,(by rfl),h⟩
   ·cases h2
  ·cases h2
 case slice sh x lo hi =>
  obtain ⟨v,h1,h⟩:=Z7 h
  obtain ⟨u1,h2,h⟩:=Z7 h
  obtain ⟨u2,h3,h⟩:=Z7 h
  obtain ⟨u,h4,h⟩:=Yq h
  exact ⟨_,e,sl,hp,ef,by simp only [Zf,he.opnd h1,he.optOpnd h2,he.optOpnd h3,h4,Option.map_some,KV.val],he,Kt (ZtM h4),h⟩
 case slice3 sh x hi mx =>
  obtain ⟨v,h1,h⟩:=Z7 h
  obtain ⟨u1,h2,h⟩:=Z7 h
  obtain ⟨u2,h3,h⟩:=Z7 h
  obtain ⟨u,h4,h⟩:=Yq h
  exact ⟨_,e,sl,hp,ef,by simp only [Zf,he.opnd h1,he.opnd h2,he.opnd h3,h4,Option.map_some,KV.val],he,Kt (Zr1 h4),h⟩
 case fa off x =>
  obtain ⟨v,h1,h⟩:=Z7 h
  obtain ⟨u,h2,h⟩:=Yq h
  exact ⟨_,e,sl,hp,ef,by simp only [Zf,he.opnd h1,h2,Option.map_some,KV.val],he,Kt (Z0F h2),h⟩
 case fld off n agg x =>
  obtain ⟨v,h1,h⟩:=Z7 h
  obtain ⟨u,h2,h⟩:=Yq h
  exact ⟨_,e,sl,hp,ef,by simp only [Zf,he.opnd h1,h2,Option.map_some,KV.val],he,Kt (ZyW h2),h⟩
 case ia sh x i =>
  obtain ⟨v,h1,h⟩:=Z7 h
  obtain ⟨u,h2,h⟩:=Z7 h
  obtain ⟨w,h3,h⟩:=Yq h
  exact ⟨_,e,sl,hp,ef,by simp only [Zf,he.opnd h1,he.opnd h2,h3,Option.map_some,KV.val],he,Kt (Z0H h3),h⟩
 case idx x i =>
  obtain ⟨v,h1,h⟩:=Z7 h
  obtain ⟨u,h2,h⟩:=Z7 h
  obtain ⟨w,h3,h⟩:=Yq h
  exact ⟨_,e,sl,hp,ef,by simp only [Zf,he.opnd h1,he.opnd h2,h3,Option.map_some,KV.val],he,Kt (ZyY h3),h⟩
 case look sh zero x i ok =>
  obtain ⟨v,h1,h⟩:=Z7 h
  obtain ⟨u,h2,h⟩:=Z7 h
  obtain ⟨w,h3,h⟩:=Yq h
  exact ⟨_,e,sl,hp,ef,by simp only [Zf,he.opnd h1,he.opnd h2,h3,Option.map_some,KV.val],he,RH _,h⟩
 case mupd sh m i x =>
  obtain ⟨v,h1,h⟩:=Z7 h
  obtain ⟨u,h2,h⟩:=Z7 h
  obtain ⟨w,h3,h⟩:=Z7 h
  obtain ⟨hp',ef',h4,h⟩:=GI h
  refine ⟨_,e,sl,hp',ef',?_,he,(by rfl),h⟩
  unfold Zyg at h4
  split at h4
  ·split at h4
   ·rename_i hg
    split at h4
    ·rename_i hc
     split at h4
     ·rename_i hu
      cases h4
      simp only [Zf,he.opnd h1,he.opnd h2,he.opnd h3,hg,hc,hu,CP,KV.val,if_true]
     ·cases h4
    ·cases h4
   ·cases h4
  ·cases h4
 case range x =>
  obtain ⟨v,h1,h⟩:=Z7 h
  obtain ⟨u,hp',h2,h⟩:=GI h
  unfold Zu8 at h2
  split at h2 <;> cases h2
  exact ⟨_,e,sl,_,ef,by simp only [Zf,he.opnd h1,KV.val],he,(by rfl),h⟩
 case next x =>
  obtain ⟨v,h1,h⟩:=Z7 h
  obtain ⟨u,hp',ef',h2,h⟩:=RJ h
  unfold Zyh at h2
  split at h2
  ·split at h2
   ·rename_i hg
    split at h2
    ·rename_i hc
     cases h2
     exact ⟨_,e,sl,_,_,by simp only [Zf,he.opnd h1,hg,hc,if_true,CP,KV.val],he,(by rfl),h⟩
    ·rename_i hc
     cases h2
     exact ⟨_,e,sl,_,_,by simp only [Zf,he.opnd h1,hg,hc,if_false,KV.val],he,(by rfl),h⟩
   ·cases h2
  ·cases h2
 case extract x i =>
  obtain ⟨v,h1,h⟩:=Z7 h
  obtain ⟨u,h2,h⟩:=Yq h
  refine ⟨_,e,sl,hp,ef,?_,he,Kt (ZoD h2),h⟩
  unfold Dn at h2
  split at h2
  ·rename_i vs
   obtain ⟨b,hb,rfl⟩:=Option.map_eq_some_iff.1 h2
   simp only [Zf,he.opnd h1,hb,Option.map_some,KV.val]
  ·cases h2
 case len sh x =>
  obtain ⟨v,h1,h⟩:=Z7 h
  obtain ⟨u,h2,h⟩:=Yq h
  exact ⟨_,e,sl,hp,ef,by simp only [Zf,he.opnd h1,h2,Option.map_some,KV.val],he,Kt (Zzc h2),h⟩
 case app n bytes t x =>
  obtain ⟨h1,h⟩:=Jc h
  obtain ⟨v,h2,h⟩:=Z7 h
  obtain ⟨u,h3,h⟩:=Yq h
  refine ⟨_,_,sl.modify t AV.ro,hp,ef,?_,he.let_ t,RH _,h⟩
  have hv:=he.get h1
  unfold Z0V at h3
  split at h3
  ·rename_i k' r0 hs
   split at h3
   ·rename_i k'' r' hr
    split at h3
    ·rename_i hc
     cases h3
     rw [hs] at hv
     simp only [Zf,hv,he.opnd h2,hr,KV.val,Zc.let_]
     rw [if_pos hc]
    ·cases h3
   ·cases h3
  ·cases h3
 case apps bytes t x =>
  obtain ⟨h1,h⟩:=Jc h
  obtain ⟨v,h2,h⟩:=Z7 h
  obtain ⟨u,h3,h⟩:=Yq h
  refine ⟨_,_,sl.modify t AV.ro,hp,ef,?_,he.let_ t,RH _,h⟩
  have hv:=he.get h1
  unfold Zxn at h3
  split at h3
  ·rename_i k' r0 l hs
   split at h3
   ·rename_i hc
    cases h3
    rw [hs] at hv
    simp only [Zf,hv,he.opnd h2,KV.val,Zc.let_]
    rw [if_pos hc]
   ·cases h3
  ·cases h3
 case appn n bytes x =>
  obtain ⟨v,h2,h⟩:=Z7 h
  obtain ⟨u,h3,h⟩:=Yq h
  refine ⟨_,_,sl,hp,ef,?_,he,RH _,h⟩
  unfold Zxm at h3
  split at h3
  ·rename_i k'' r' hr
   split at h3
   ·rename_i hc
    cases h3
    simp only [Zf,he.opnd h2,hr,KV.val]
    rw [if_pos hc]
   ·cases h3
  ·cases h3
 case copy n d x =>
  obtain ⟨v,h1,h⟩:=Z7 h
  obtain ⟨u,h2,h⟩:=Z7 h
  obtain ⟨w,hp',ef',h3,h⟩:=RJ h
  refine ⟨_,e,sl,hp',ef',?_,he,?_,h⟩
  ·unfold copyV at h3
   split at h3
   ·split at h3
    ·rename_i hr hg
     split at h3
     ·rename_i hc
      cases h3
      simp only [Zf,he.opnd h1,he.opnd h2,hr,hg,CP,KV.val]
      rw [if_pos hc]
     ·cases h3
    ·cases h3
   ·split at h3
    ·rename_i hr
     split at h3
     ·rename_i hc
      cases h3
      simp only [Zf,he.opnd h1,he.opnd h2,hr,KV.val]
      rw [if_pos hc]
     ·cases h3
    ·cases h3
   ·cases h3
  ·unfold copyV at h3
   split at h3
   ·split at h3
    ·split at h3 <;> cases h3; rfl
    ·cases h3
   ·split at h3
    ·split at h3 <;> cases h3; rfl
    ·cases h3
   ·cases h3
 case min xs =>
  obtain ⟨v,h1,h⟩:=Z7 h
  obtain ⟨u,h2,h⟩:=Yq h
  refine ⟨_,e,sl,hp,ef,?_,he,Kt (Zzg h2),h⟩
  unfold Zye at h2
  split at h2
  ·obtain ⟨b,hb,rfl⟩:=Option.map_eq_some_iff.1 h2
   simp only [Zf,he.opnds h1,hb,Option.map_some,KV.val]
  ·cases h2
 case max xs =>
  obtain ⟨v,h1,h⟩:=Z7 h
  obtain ⟨u,h2,h⟩:=Yq h
  refine ⟨_,e,sl,hp,ef,?_,he,Kt (Zzf h2),h⟩
  unfold ZwX at h2
  split at h2
  ·obtain ⟨b,hb,rfl⟩:=Option.map_eq_some_iff.1 h2
   simp only [Zf,he.opnds h1,hb,Option.map_some,KV.val]
  ·cases h2
 case call f args =>
  obtain ⟨fv,h1,h⟩:=Z7 h
  obtain ⟨⟨vs,e'⟩,h2,h⟩:=Z7 h
  obtain ⟨v,hp',ef',h3,h4⟩:=RJ h
  obtain ⟨sl',a1,a2⟩:=he.args h2
  clear h
  unfold Zxu at h3
  split at h3
  ·refine ⟨_,e',sl',hp',_,?_,a2,RH _,h4⟩
   simp only [Zf,he.opnd h1,a1,h3,ZrZ,KV.val]
  ·cases h3
theorem ZcX {want:Bool}{v:AV}{sl:List AV}{t:Nat}{s:Zc}(hs:s.sl=sl)(h:sl[t]? = some v):Yr s (some (t,want))=PM want v:=by
 simp only [Yr,hs,h]
 cases v <;> rfl
def ZrX (N bs:Nat)(P:List Nat)(x:Option Zc)(k:DI)(r:AV×List Zn×Eff):Prop :=
 ∃ (e':Env) (sl':List AV) (hp':List Zn) (ef':Eff),x=some ⟨sl',hp',ef',bs⟩∧WS N P e' sl'∧k e' hp' ef'=some r
theorem put_eq (sl:List AV)(hp:List Zn)(ef:Eff)(bs:Nat)(d:Option Nat)(v:AV):Zc.put ⟨sl,hp,ef,bs⟩ d v=⟨(Zc.put ⟨sl,hp,ef,bs⟩ d v).sl,hp,ef,bs⟩:=by cases d <;> rfl
theorem Zrr {e:Env}{hp:List Zn}{ef:Eff}{op:AOp}(hq:XH op=false){k:KV→Env→List Zn→Eff→KR} :
  opK G N bs P K e hp ef op k=opK G N bs P K e hp ef op fun v _ hp' ef'=>k v e hp' ef':=by
 cases op <;> first | rfl | (cases hq; done) | skip
 case call f args =>
  have:∀ (as:List (Nat ⊕ Ym)) (e:Env) (vs:List AV) (e':Env),(as.any fun | .inl _=>true | .inr _=>false)=false→Zgu G N P e as=some (vs,e')→e'=e:=by
   intro as
   induction as with
   | nil=>intro e vs e' _ h; cases h; rfl
   | cons a l ih =>
    intro e vs e' hn h
    cases a with
    | inl t=>simp at hn
    | inr x =>
     simp only [Zgu] at h
     split at h
     ·split at h
      ·rename_i us e1 hus
       cases h
       exact ih e us e' (by simpa using hn) hus
      ·cases h
     ·cases h
  simp only [opK]
  congr 1
  funext f
  cases ha:Zgu G N P e args with
  | none=>rfl
  | some p =>
   obtain ⟨vs,e'⟩:=p
   cases this args e vs e' hq ha
   rfl
theorem Zfx:∀ {as:List (Nat ⊕ Ym)} {sl sl':List AV} {vs:List AV},(as.any fun | .inl _=>true | .inr _=>false)=false→WY G sl as=some (vs,sl')→sl'=sl
 | [],sl,sl',vs,_,h=>by cases h; rfl
 | .inl t :: l,sl,sl',vs,hn,h=>by simp at hn
 | .inr x :: l,sl,sl',vs,hn,h=>by
  simp only [WY] at h
  split at h
  ·obtain ⟨p,hp,e⟩:=Option.map_eq_some_iff.1 h
   cases e
   exact Zfx (by simpa using hn) hp
  ·cases h
theorem Zyd {α:Type}{s s':Zc}{x:Option α}{f:α→AV}{v:AV}(h:x.map (fun a=>(f a,s))=some (v,s')):s'.sl=s.sl:=by
 obtain ⟨w,_,e⟩:=Option.map_eq_some_iff.1 h
 exact (congrArg (fun p=>p.2.sl) e).symm
theorem ZwD {s s':Zc}{v w:AV}(h:some (w,s)=some (v,s')):s'.sl=s.sl:=(congrArg (fun p=>p.2.sl) (Option.some.inj h)).symm
theorem ZtS {s s' s1:Zc}{v w:AV}(h:some (w,s1)=some (v,s'))(h1:s1.sl=s.sl):s'.sl=s.sl:=by
 rw [← h1]; exact (congrArg (fun p=>p.2.sl) (Option.some.inj h)).symm
theorem ZvK {s s':Zc}{v:AV}(h:(none:Option (AV×Zc))=some (v,s')):s'.sl=s.sl:=nomatch h
theorem Zi1 {call:FuncId→List AV→List Zn→KR}{s s':Zc}{op:AOp}{v:AV}(hq:XH op=false)(h:Zf G call s op=some (v,s')):s'.sl=s.sl:=by
 cases op
 case take t=>cases hq
 case stt p t=>cases hq
 case app k b t x=>cases hq
 case apps b t x=>cases hq
 case call f args =>
  simp only [Zf] at h
  split at h
  ·rename_i hf ha
   split at h
   ·have:=ZwD h
    rw [this]
    exact Zfx hq ha
   ·exact absurd h (by simp)
  ·exact absurd h (by simp)
 all_goals
  simp only [Zf] at h
  repeat'
   first
   | exact Zyd h
   | exact ZvK h
   | exact ZtS h rfl
   | split at h
theorem ZiR {α:Type}(x:Option α)(f:α→KR)(k:AV→List Zn→Eff→KR):LP (Qj x f) k=Qj x fun a=>LP (f a) k:=by cases x <;> rfl
theorem Ztw {α:Type}(x:Option α)(f:α→KR)(k:AV→List Zn→Eff→KR):LP (rdK x f) k=rdK x fun a=>LP (f a) k:=by cases x <;> rfl
theorem ZqQ {α β:Type}(x:Option (α×β))(f:α→β→KR)(k:AV→List Zn→Eff→KR):LP (ZiQ x f) k=ZiQ x fun a b=>LP (f a b) k:=by cases x <;> rfl
theorem ZqR {α β γ:Type}(x:Option (α×β×γ))(f:α→β→γ→KR)(k:AV→List Zn→Eff→KR):LP (LP x f) k=LP x fun a b c=>LP (f a b c) k:=by cases x <;> rfl
theorem Znb (b:Bool)(x y:KR)(k:AV→List Zn→Eff→KR):LP (DL b x y) k=DL b (LP x k) (LP y k):=by cases b <;> rfl
theorem ZfO (v:AV)(hp:List Zn)(ef:Eff)(k:AV→List Zn→Eff→KR):LP (some (v,hp,ef)) k=k v hp ef:=rfl
theorem ZfN (k:AV→List Zn→Eff→KR):LP none k=none:=rfl
theorem ZqK {e:Env}{hp:List Zn}{ef:Eff}{op:AOp}{k:KV→Env→List Zn→Eff→KR} :
  LP (opK G N bs P K e hp ef op fun v _ hp' ef'=>some (v.val,hp',ef')) (fun v hp' ef'=>k (.raw v) e hp' ef')=opK G N bs P K e hp ef op (fun v _ hp' ef'=>k (.raw v.val) e hp' ef'):=by
 cases op
 case mv x=>cases x <;> simp only [opK,mvK,ZiR,Znb,ZfO,ZfN]
 all_goals simp only [opK,ZiR,Ztw,ZqQ,ZqR,Znb,ZfO,ZfN]
def Held (A:List (Nat×Bool))(sl:List AV):Prop:=∀ p ∈ A,sl[p.1]? = some (.bool p.2)
def Calm (A:List (Nat×Bool))(ops:List ZP):Prop:=A≠[]→∀ o ∈ ops,XH o.op=false∧∀ p ∈ A,o.dst≠some p.1
theorem Zk4:∀ {A:List (Nat×Bool)} {t:Nat} {w:Bool},inA t w A=true→(t,w) ∈ A
 | [],t,w,h=>by cases h
 | (u,v) :: l,t,w,h=>by
  simp only [inA] at h
  cases hb:(Nat.beq u t && (v == w)) with
  | true =>
   rw [Bool.and_eq_true] at hb
   have:=Nat.eq_of_beq_eq_true hb.1
   have hv:v=w:=by simpa using hb.2
   subst this; subst hv
   exact .head _
  | false=>rw [hb] at h; exact .tail _ (Zk4 h)
theorem Held.put {A:List (Nat×Bool)}{sl:List AV}(h:Held A sl){hp:List Zn}{ef:Eff}{bs:Nat}{d:Option Nat}(hd:∀ p ∈ A,d≠some p.1)(v:AV):Held A (Zc.put ⟨sl,hp,ef,bs⟩ d v).sl:=by
 cases d with
 | none=>exact h
 | some d =>
  intro p hp
  show (sl.set d v)[p.1]? = _
  rw [List.getElem?_set,if_neg (fun e=>hd p hp (by rw [e]))]
  exact h p hp
theorem Ztr {A:List (Nat×Bool)}{o:ZP}{e:Env}{sl:List AV}(he:WS N P e sl)(hA:Held A sl)(hc:Calm A [o]){hp:List Zn}{ef:Eff}{k:DI}{r:AV×List Zn×Eff}(h:Zwe G N bs P K A o e hp ef k=some r) :
  ∃ (e':Env) (sl':List AV) (hp':List Zn) (ef':Eff),Zy G K o ⟨sl,hp,ef,bs⟩=some ⟨sl',hp',ef',bs⟩∧WS N (rmO o.dst P) e' sl'∧Held A sl'∧k e' hp' ef'=some r:=by
 unfold Zwe at h
 have run:∀ {k':KV→Env→List Zn→Eff→KR} (hk:∀ v e' hp' ef',k' v e' hp' ef'=some r→∃ v',v'.val=v.val∧(Zkf v→Zkf v')∧k (e'.put o.dst v') hp' ef'=some r) (_:opK G N bs P K e hp ef o.op k'=some r) (_:Yr ⟨sl,hp,ef,bs⟩ o.guard=some true),
   ∃ (e':Env) (sl':List AV) (hp':List Zn) (ef':Eff),Zy G K o ⟨sl,hp,ef,bs⟩=some ⟨sl',hp',ef',bs⟩∧WS N (rmO o.dst P) e' sl'∧Held A sl'∧k e' hp' ef'=some r:=by
  intro k' hk h hw
  obtain ⟨v,e',sl',hp',ef',h1,h2,h3,h4⟩:=Zy2 he h
  obtain ⟨v',a1,a2,a3⟩:=hk _ _ _ _ h4
  refine ⟨e'.put o.dst v',(Zc.put ⟨sl',hp',ef',bs⟩ o.dst v'.val).sl,hp',ef',?_,h2.put o.dst (a2 h3),?_,a3⟩
  ·simp only [Zy,hw,h1,a1]
   rw [put_eq]
  ·by_cases hn:A=[]
   ·subst hn; intro p hp; cases hp
   ·obtain ⟨c1,c2⟩:=hc hn o (.head _)
    have:sl'=sl:=Zi1 (s := ⟨sl,hp,ef,bs⟩) (s':=⟨sl',hp',ef',bs⟩) c1 h1
    subst this
    exact hA.put c2 _
 have skip:∀ (v:KV) (_:Zkf v) (_:v.val=.undef) (_:k (e.put o.dst v) hp ef=some r) (_:Yr ⟨sl,hp,ef,bs⟩ o.guard=some false),
   ∃ (e':Env) (sl':List AV) (hp':List Zn) (ef':Eff),Zy G K o ⟨sl,hp,ef,bs⟩=some ⟨sl',hp',ef',bs⟩∧WS N (rmO o.dst P) e' sl'∧Held A sl'∧k e' hp' ef'=some r:=by
  intro v hv hu h hw
  refine ⟨e.put o.dst v,(Zc.put ⟨sl,hp,ef,bs⟩ o.dst v.val).sl,hp,ef,?_,he.put o.dst hv,?_,h⟩
  ·simp only [Zy,hw,hu]
   rw [put_eq]
  ·by_cases hn:A=[]
   ·subst hn; intro p hp; cases hp
   ·exact hA.put (hc hn o (.head _)).2 _
 split at h
 ·rename_i hg
  exact run (fun v e' hp' ef' hk=>⟨v,rfl,fun a=>a,hk⟩) h (by rw [hg]; rfl)
 ·rename_i t want hg
  cases hi:inA t want A with
  | true =>
   rw [hi,EK] at h
   refine run (fun v e' hp' ef' hk=>⟨v,rfl,fun a=>a,hk⟩) h ?_
   rw [hg,ZcX rfl (hA _ (Zk4 hi))]
   simp [PM]
  | false =>
   rw [hi,Dh] at h
   obtain ⟨h1,h⟩:=Jc h
   have hw:Yr ⟨sl,hp,ef,bs⟩ o.guard=PM want (e t).val:=by rw [hg]; exact ZcX rfl (he.get h1)
   cases ht:XH o.op with
   | true =>
    rw [ht,EK] at h
    unfold Zur at h
    split at h
    ·rename_i hb
     exact run (fun v e' hp' ef' hk=>⟨v,rfl,fun a=>a,hk⟩) h (hw.trans hb)
    ·rename_i hb
     exact skip (.cln .undef) rfl rfl h (hw.trans hb)
    ·cases h
   | false =>
    rw [ht,Dh] at h
    unfold PN at h
    split at h
    ·rename_i hb
     have h':=ZqK (k := fun v e' hp' ef'=>k (e'.put o.dst v) hp' ef') ▸ h
     rw [← Zrr ht (k := fun v e' hp' ef'=>k (e'.put o.dst (.raw v.val)) hp' ef')] at h'
     exact run (fun v e' hp' ef' hk=>⟨.raw v.val,rfl,fun _=>rfl,hk⟩) h' (hw.trans hb)
    ·rename_i hb
     exact skip (.raw .undef) rfl rfl h (hw.trans hb)
    ·cases h
theorem PK {call:FuncId→List AV→List Zn→KR}:∀ (a b:List ZP) (s:Zc),ZE G call (a ++ b) s=(ZE G call a s).bind (ZE G call b)
 | [],b,s=>rfl
 | o :: l,b,s=>by
  simp only [List.cons_append,ZE]
  cases Zy G call o s with
  | none=>rfl
  | some s'=>exact PK l b s'
theorem ZiA {call:FuncId→List AV→List Zn→KR}{t:Nat}{want:Bool}{P:List Nat}:∀ (ops:List ZP) (ds:List Nat) (sl:List AV) (hp:List Zn) (ef:Eff),sl[t]? = some (.bool (!want))→(∀ d ∈ ds,sl[d]? = some .undef)→sl.length=N →
  ∃ sl',ZE G call (ops.take (QU N t want P ds ops)) ⟨sl,hp,ef,bs⟩=some ⟨sl',hp,ef,bs⟩∧sl'.length=sl.length∧∀ j,j ∉ P→sl'[j]? = sl[j]?
 | [],ds,sl,hp,ef,_,_,_=>⟨sl,rfl,rfl,fun _ _=>rfl⟩
 | o :: l,ds,sl,hp,ef,h1,h2,h3=>by
  have stay:QU N t want P ds (o :: l)=0→∃ sl',ZE G call ((o :: l).take (QU N t want P ds (o :: l))) ⟨sl,hp,ef,bs⟩=some ⟨sl',hp,ef,bs⟩∧sl'.length=sl.length∧∀ j,j ∉ P→sl'[j]? = sl[j]?:=by
   intro h0
   rw [h0]
   exact ⟨sl,rfl,rfl,fun _ _=>rfl⟩
  cases hg:o.guard with
  | none=>exact stay (by simp only [QU,hg])
  | some uw =>
   obtain ⟨u,w⟩:=uw
   cases hd:o.dst with
   | none=>exact stay (by simp only [QU,hg,hd])
   | some d =>
    cases hb:(((Nat.beq u t && (w == want)) || !JA ds u) && !Nat.beq d t && !JA P d && !XH o.op && Nat.blt d N) with
    | false=>exact stay (by simp only [QU,hg,hd,hb])
    | true =>
     have hl:QU N t want P ds (o :: l)=QU N t want P (d :: ds) l + 1:=by simp only [QU,hg,hd,hb]
     rw [hl,List.take_succ_cons]
     simp only [Bool.and_eq_true,Bool.or_eq_true,Bool.not_eq_true'] at hb
     obtain ⟨⟨⟨⟨b1,b2⟩,b3⟩,b4⟩,b5⟩:=hb
     have hdt:d≠t:=fun e=>by subst e; rw [Nat.beq_refl] at b2; cases b2
     have hdP:d ∈ P:=Classical.byContradiction fun hn=>by rw [GH.2 hn] at b3; cases b3
     have hw:Yr ⟨sl,hp,ef,bs⟩ (some (u,w))=some false:=by
      rcases b1 with ⟨c1,c2⟩ | c1
      ·have:=Nat.eq_of_beq_eq_true c1
       have hw:w=want:=by simpa using c2
       subst this; subst hw
       simp [Yr,h1]
      ·have:u ∈ ds:=Classical.byContradiction fun hn=>by rw [GH.2 hn] at c1; cases c1
       simp [Yr,h2 u this]
     obtain ⟨sl',a1,a2,a3⟩:=ZiA l (d :: ds) (sl.set d .undef) hp ef (by rw [List.getElem?_set,if_neg hdt]; exact h1)
      (fun x hx=>by
       rw [List.getElem?_set]
       by_cases e:d=x
       ·subst e; simp [h3,show d < N from Nat.le_of_ble_eq_true b5]
       ·rw [if_neg e]
        rcases List.mem_cons.1 hx with e' | hx
        ·exact absurd e'.symm e
        ·exact h2 x hx)
      (by rw [List.length_set]; exact h3)
     refine ⟨sl',?_,by rw [a2,List.length_set],fun j hj=>?_⟩
     ·simp only [ZE,Zy,hg,hw,hd]
      exact a1
     ·rw [a3 j hj,List.getElem?_set,if_neg (fun (e:d=j)=>hj (e ▸ hdP))]
theorem ZfG {t:Nat}{want:Bool}{P:List Nat}:∀ (ops:List ZP) (ds:List Nat),∀ o ∈ ops.take (QU N t want P ds ops),XH o.op=false∧o.dst≠some t∧∀ d,o.dst=some d→d ∈ P
 | [],ds,o,ho=>by cases ho
 | o :: l,ds,o',ho=>by
  cases hg:o.guard with
  | none=>rw [show QU N t want P ds (o :: l)=0 by simp only [QU,hg]] at ho; cases ho
  | some uw =>
   obtain ⟨u,w⟩:=uw
   cases hd:o.dst with
   | none=>rw [show QU N t want P ds (o :: l)=0 by simp only [QU,hg,hd]] at ho; cases ho
   | some d =>
    cases hb:(((Nat.beq u t && (w == want)) || !JA ds u) && !Nat.beq d t && !JA P d && !XH o.op && Nat.blt d N) with
    | false=>rw [show QU N t want P ds (o :: l)=0 by simp only [QU,hg,hd,hb]] at ho; cases ho
    | true =>
     rw [show QU N t want P ds (o :: l)=QU N t want P (d :: ds) l + 1 by simp only [QU,hg,hd,hb],List.take_succ_cons] at ho
     simp only [Bool.and_eq_true,Bool.or_eq_true,Bool.not_eq_true'] at hb
     obtain ⟨⟨⟨⟨b1,b2⟩,b3⟩,b4⟩,b5⟩:=hb
     rcases List.mem_cons.1 ho with e | ho
     ·subst e
      refine ⟨b4,fun e=>?_,fun x hx=>?_⟩
      ·rw [hd] at e; cases e; rw [Nat.beq_refl] at b2; cases b2
      ·rw [hd] at hx; cases hx
       exact Classical.byContradiction fun hn=>by rw [GH.2 hn] at b3; cases b3
     ·exact ZfG l (d :: ds) o' ho
theorem ZkO {call:FuncId→List AV→List Zn→KR}{P:List Nat}:∀ (ops:List ZP) (s s':Zc),(∀ o ∈ ops,XH o.op=false∧∀ d,o.dst=some d→d ∈ P)→ZE G call ops s=some s'→s'.sl.length=s.sl.length∧∀ j,j ∉ P→s'.sl[j]? = s.sl[j]?
 | [],s,s',_,h=>by cases h; exact ⟨rfl,fun _ _=>rfl⟩
 | o :: l,s,s',hc,h=>by
  simp only [ZE] at h
  split at h
  ·rename_i s1 h1
   obtain ⟨a1,a2⟩:=ZkO l s1 s' (fun o ho=>hc o (.tail _ ho)) h
   have one:s1.sl.length=s.sl.length∧∀ j,j ∉ P→s1.sl[j]? = s.sl[j]?:=by
    obtain ⟨c1,c2⟩:=hc o (.head _)
    have putOff:∀ (s2:Zc) (v:AV),s2.sl=s.sl→(s2.put o.dst v).sl.length=s.sl.length∧∀ j,j ∉ P→(s2.put o.dst v).sl[j]? = s.sl[j]?:=by
     intro s2 v h2
     cases hd:o.dst with
     | none=>exact ⟨congrArg _ h2,fun _ _=>by show s2.sl[_]? = _; rw [h2]⟩
     | some d=>exact ⟨by show (s2.sl.set d v).length=_; rw [List.length_set,h2],fun j hj=>by show (s2.sl.set d v)[j]? = _; rw [List.getElem?_set,if_neg (fun (e:d=j)=>hj (e ▸ c2 d hd)),h2]⟩
    unfold Zy at h1
    split at h1
    ·split at h1
     ·rename_i hev
      have e1:=Zi1 c1 hev
      cases h1
      exact putOff _ _ e1
     ·cases h1
    ·cases h1
     exact putOff s _ rfl
    ·cases h1
   exact ⟨a1.trans one.1,fun j hj=>(a2 j hj).trans (one.2 j hj)⟩
  ·cases h
theorem Zs9 {A:List (Nat×Bool)}{P:List Nat}{ops:List ZP}{t:Nat}{want:Bool}{m:Nat}{d:Option Nat}{a b:Ym}{rest:List ZP}(h:Zqa N A P ops=some (t,want,m,d,a,b,rest)) :
  m=QU N t want P [] ops∧t < N∧t ∉ P∧∃ g,ops.drop m=⟨d,.pick (.tmp t) a b,g⟩ :: rest∧(g=none∨∃ p ∈ A,g=some p):=by
 unfold Zqa at h
 split at h
 ·cases h
 ·rename_i o l
  split at h
  ·cases h
  ·rename_i t' want' hg
   cases hi:inA t' want' A with
   | true=>rw [hi,EK] at h; cases h
   | false =>
    rw [hi,Dh] at h
    split at h
    ·rename_i d' u a' b' rest' hd
     obtain ⟨h1,h2⟩:=Jc h
     simp only [Bool.and_eq_true] at h1
     obtain ⟨⟨⟨c1,c2⟩,c3⟩,c4⟩:=h1
     cases h2
     have:=Nat.eq_of_beq_eq_true c1
     subst this
     exact ⟨rfl,Nat.le_of_ble_eq_true c2,GH.1 c3,none,hd,.inl rfl⟩
    ·rename_i d' u a' b' gt gw rest' hd
     obtain ⟨h1,h2⟩:=Jc h
     simp only [Bool.and_eq_true] at h1
     obtain ⟨⟨⟨⟨c0,c1⟩,c2⟩,c3⟩,c4⟩:=h1
     cases h2
     have:=Nat.eq_of_beq_eq_true c1
     subst this
     exact ⟨rfl,Nat.le_of_ble_eq_true c2,GH.1 c3,some (gt,gw),hd,.inr ⟨_,Zk4 c0,rfl⟩⟩
    ·cases h
theorem ZuT:∀ (c w:Bool),(c == w)=false→c=!w:=by decide
theorem Zhb:∀ (n:Nat) {A:List (Nat×Bool)} {P:List Nat} {ops:List ZP} {e:Env} {sl:List AV} (_:WS N P e sl) (_:Held A sl) (_:Calm A ops) {hp:List Zn} {ef:Eff} {k:DI} {r:AV×List Zn×Eff},ZmZ G N bs K n A P ops k e hp ef=some r →
  ∃ (e':Env) (sl':List AV) (hp':List Zn) (ef':Eff),ZE G K ops ⟨sl,hp,ef,bs⟩=some ⟨sl',hp',ef',bs⟩∧WS N (ZpO N n A P ops) e' sl'∧Held A sl'∧k e' hp' ef'=some r
 | 0,A,P,[],e,sl,he,hA,_,hp,ef,k,r,h=>⟨e,sl,hp,ef,rfl,he,hA,by simpa [ZmZ] using h⟩
 | n + 1,A,P,[],e,sl,he,hA,_,hp,ef,k,r,h=>⟨e,sl,hp,ef,rfl,he,hA,by simpa [ZmZ] using h⟩
 | 0,A,P,o :: l,e,sl,he,hA,_,hp,ef,k,r,h=>by simp [ZmZ] at h
 | n + 1,A,P,o :: l,e,sl,he,hA,hc,hp,ef,k,r,h=>by
  cases hg:Zqa N A P (o :: l) with
  | some gg =>
   obtain ⟨t,want,m,d,a,b,rest⟩:=gg
   simp only [ZmZ,hg] at h
   simp only [ZpO,hg]
   obtain ⟨hm,htN,htP,g,hdrop,hgd⟩:=Zs9 hg
   have hsplit:o :: l=(o :: l).take m ++ ⟨d,.pick (.tmp t) a b,g⟩ :: rest:=by rw [← hdrop,List.take_append_drop]
   have hcalm:∀ o' ∈ (o :: l).take m,XH o'.op=false∧o'.dst≠some t∧∀ x,o'.dst=some x→x ∈ P:=by rw [hm]; exact ZfG _ _
   have hcA:A≠[]→∀ p ∈ A,d≠some p.1:=fun hne p hp=>(hc hne ⟨d,.pick (.tmp t) a b,g⟩ (by rw [hsplit]; exact List.mem_append_right _ (.head _))).2 p hp
   have ht:sl[t]? = some (e t).val:=he.val t htN htP
   have behind:∀ (sl1:List AV) (hp1:List Zn) (ef1:Eff) (c:Bool) (v:AV),ZE G K ((o :: l).take m) ⟨sl,hp,ef,bs⟩=some ⟨sl1,hp1,ef1,bs⟩→sl1.length=sl.length→(∀ j,j ∉ P→sl1[j]? = sl[j]?)→Held A sl1→sl1[t]? = some (.bool c) →
     opnd G sl1 (if c then a else b)=some v→ZmZ G N bs K n A (rmO d P) rest k (e.put d (.raw v)) hp1 ef1=some r →
     ∃ (e':Env) (sl':List AV) (hp':List Zn) (ef':Eff),ZE G K (o :: l) ⟨sl,hp,ef,bs⟩=some ⟨sl',hp',ef',bs⟩∧WS N (ZpO N n A (rmO d P) rest) e' sl'∧Held A sl'∧k e' hp' ef'=some r:=by
    intro sl1 hp1 ef1 c v h1 hlen hoff hA1 hc1 hv hk
    have he1:WS N P e sl1:=⟨hlen.trans he.len,fun j hj hn=>(hoff j hn).trans (he.val j hj hn),he.ok⟩
    have hput:=he1.put d (v := .raw v) (RH v) (hp := hp1) (ef := ef1) (bs := bs)
    have hA2:Held A (Zc.put ⟨sl1,hp1,ef1,bs⟩ d v).sl:=by
     by_cases hne:A=[]
     ·subst hne; intro p hp; cases hp
     ·exact hA1.put (hcA hne) v
    obtain ⟨e',sl',hp',ef',b1,b2,b3,b4⟩:=Zhb n hput hA2 (fun hne o' ho'=>hc hne o' (by rw [hsplit]; exact List.mem_append_right _ (.tail _ ho'))) hk
    refine ⟨e',sl',hp',ef',?_,b2,b3,b4⟩
    rw [hsplit,PK,h1]
    show ZE G K (⟨d,.pick (.tmp t) a b,g⟩ :: rest) ⟨sl1,hp1,ef1,bs⟩=_
    have hw:Yr ⟨sl1,hp1,ef1,bs⟩ g=some true:=by
     rcases hgd with e0 | ⟨p,hp,e0⟩
     ·subst e0; rfl
     ·subst e0
      obtain ⟨p1,p2⟩:=p
      rw [ZcX rfl (hA1 _ hp)]
      simp [PM]
    have hop:Zf G K ⟨sl1,hp1,ef1,bs⟩ (.pick (.tmp t) a b)=some (v,⟨sl1,hp1,ef1,bs⟩):=by
     have:opnd G sl1 (.tmp t)=some (.bool c):=by simp only [Abs.opnd,hc1,Option.map_some]; rfl
     cases c with
     | true=>simp only [if_true] at hv; simp only [Zf,this,hv,Option.map_some]
     | false=>simp only [Bool.false_eq_true,if_false] at hv; simp only [Zf,this,hv,Option.map_some]
    simp only [ZE,Zy,hw,hop]
    rw [put_eq]
    exact b1
   unfold ZhU at h
   split at h
   ·rename_i c hcv
    rw [hcv] at ht
    split at h
    ·rename_i hcw
     have hcw:c=want:=by simpa using hcw
     subst hcw
     obtain ⟨v,hp1,ef1,h1,h2⟩:=RJ h
     have hA':Held ((t,c) :: A) sl:=by
      intro p hp
      rcases List.mem_cons.1 hp with e0 | hp
      ·subst e0; exact ht
      ·exact hA p hp
     have hc':Calm ((t,c) :: A) ((o :: l).take m):=by
      intro _ o' ho'
      obtain ⟨q1,q2,q3⟩:=hcalm o' ho'
      refine ⟨q1,fun p hp=>?_⟩
      rcases List.mem_cons.1 hp with e0 | hp
      ·subst e0; exact q2
      ·exact (hc (by intro h0; subst h0; cases hp) o' (by rw [hsplit]; exact List.mem_append_left _ ho')).2 p hp
     obtain ⟨e1,sl1,hp2,ef2,b1,b2,b3,b4⟩:=Zhb n he hA' hc' h1
     obtain ⟨v',g1,g2⟩:=Z7 b4
     cases g2
     obtain ⟨o1,o2⟩:=ZkO (P := P) _ _ _ (fun o' ho'=>⟨(hcalm o' ho').1,(hcalm o' ho').2.2⟩) b1
     refine behind sl1 _ _ c _ b1 o1 o2 (fun p hp=>b3 p (.tail _ hp)) (b3 _ (.head _)) ?_ h2
     have:=b2.opnd g1
     cases c <;> exact this
    ·rename_i hcw
     have hcw:c=!want:=ZuT _ _ hcw
     subst hcw
     obtain ⟨v,h1,h2⟩:=Yq h
     obtain ⟨sl1,b1,b2,b3⟩:=ZiA (G := G) (N := N) (bs := bs) (call := K) (P := P) (t := t) (want := want) (o :: l) [] sl hp ef ht (fun _ hx=>by cases hx) he.len
     rw [← hm] at b1
     have he1:WS N P e sl1:=⟨b2.trans he.len,fun j hj hn=>(b3 j hn).trans (he.val j hj hn),he.ok⟩
     have hA1:Held A sl1:=by
      by_cases hne:A=[]
      ·subst hne; intro p hp; cases hp
      ·have hall:∀ o' ∈ (o :: l).take m,∀ p ∈ A,o'.dst≠some p.1:=fun o' ho' p hp=>(hc hne o' (by rw [hsplit]; exact List.mem_append_left _ ho')).2 p hp
       intro p hp
       have:=ZkO (G := G) (call := K) (P := ((o :: l).take m).filterMap (·.dst)) _ _ _ (fun o' ho'=>⟨(hcalm o' ho').1,fun x hx=>List.mem_filterMap.2 ⟨o',ho',hx⟩⟩) b1
       rw [this.2 p.1 (fun hmem=>by obtain ⟨o',ho',hx⟩:=List.mem_filterMap.1 hmem; exact hall o' ho' p hp hx)]
       exact hA p hp
     refine behind sl1 _ _ (!want) _ b1 b2 b3 hA1 (by rw [b3 t htP]; exact ht) ?_ h2
     have:=he1.opnd h1
     cases want <;> exact this
   ·cases h
  | none =>
   simp only [ZmZ,hg] at h
   simp only [ZpO,hg]
   obtain ⟨e1,sl1,hp1,ef1,h1,h2,h3,h4⟩:=Ztr he hA (fun hne o' ho'=>hc hne o' (by rcases List.mem_cons.1 ho' with e0 | e0; (subst e0; exact .head _); cases e0)) h
   obtain ⟨e2,sl2,hp2,ef2,g1,g2,g3,g4⟩:=Zhb n h2 h3 (fun hne o' ho'=>hc hne o' (.tail _ ho')) h4
   exact ⟨e2,sl2,hp2,ef2,by simp only [ZE,h1,g1],g2,g3,g4⟩
theorem Zq7 {P:List Nat}{d:Option Nat}{t:Nat}(h:t ∈ rmO d P):t ∈ P:=by
 cases d with
 | none=>exact h
 | some d=>exact (ZmS.1 h).1
theorem ZgP:∀ (n:Nat) {A:List (Nat×Bool)} {P:List Nat} {ops:List ZP} {t:Nat},t ∈ ZpO N n A P ops→t ∈ P
 | 0,A,P,ops,t,h=>by simpa [ZpO] using h
 | n + 1,A,P,[],t,h=>by simpa [ZpO] using h
 | n + 1,A,P,o :: l,t,h=>by
  unfold ZpO at h
  split at h
  ·exact Zq7 (ZgP n h)
  ·exact Zq7 (ZgP n h)
theorem Zha {P:List Nat}{ops:List ZP}{e:Env}{sl:List AV}(he:WS N P e sl){hp:List Zn}{ef:Eff}{k:DI}{r:AV×List Zn×Eff}(h:ZmZ G N bs K ops.length [] P ops k e hp ef=some r) :
  ZrX N bs P (ZE G K ops ⟨sl,hp,ef,bs⟩) k r:=by
 obtain ⟨e',sl',hp',ef',h1,h2,_,h4⟩:=Zhb ops.length he (fun p hp=>by cases hp) (fun hne=>absurd rfl hne) h
 exact ⟨e',sl',hp',ef',h1,h2.mono fun t ht=>ZgP _ ht,h4⟩
def Goes (N bs:Nat)(P:List Nat)(x:Option (IC×Zc))(n rt:DI)(xs:List (Nat×DI))(r:AV×List Zn×Eff):Prop :=
 ∃ (ex:IC) (e':Env) (sl':List AV) (hp':List Zn) (ef':Eff),x=some (ex,⟨sl',hp',ef',bs⟩)∧WS N P e' sl'∧match ex with
  | .normal=>n e' hp' ef'=some r
  | .ret=>rt e' hp' ef'=some r
  | .exit i=>ZsU i xs e' hp' ef'=some r
variable {L:Nat}
theorem EO (a b:We)(n r:DI)(xs:List (Nat×DI)):Q4 G N bs K P L (.seq a b) n r xs=Q4 G N bs K P L a (Q4 G N bs K P L b n r xs) r xs:=rfl
theorem OV (id:Nat)(c:We)(n r:DI)(xs:List (Nat×DI)):Q4 G N bs K P L (.block id c) n r xs=Q4 G N bs K P L c n r ((id,n) :: xs):=rfl
theorem OW (c:We)(n r:DI)(xs:List (Nat×DI)):Q4 G N bs K P L (.scope c) n r xs=Q4 G N bs K P L c n r xs:=rfl
theorem Dk (c:Ym)(a b:We)(n r:DI)(xs:List (Nat×DI)):Q4 G N bs K P L (.cond c a b) n r xs=fun e hp ef=>rdK (WP G N P e c) fun v=>ifK v (Q4 G N bs K P L a n r xs e hp ef) (Q4 G N bs K P L b n r xs e hp ef):=rfl
theorem Ib:∀ (c:We) {n rt:DI} {xs:List (Nat×DI)} {e:Env} {sl:List AV} (_:WS N P e sl) {hp:List Zn} {ef:Eff} {r:AV×List Zn×Eff},Q4 G N bs K P L c n rt xs e hp ef=some r →
  Goes N bs P (Zw G K L c ⟨sl,hp,ef,bs⟩) n rt xs r
 | .skip,n,rt,xs,e,sl,he,hp,ef,r,h=>⟨.normal,e,sl,hp,ef,rfl,he,h⟩
 | .region false ops,n,rt,xs,e,sl,he,hp,ef,r,h=>by
  obtain ⟨e',sl',hp',ef',h1,h2,h3⟩:=Zha he h
  exact ⟨.normal,e',sl',hp',ef',by simp only [Zw,h1,Option.map_some],h2,h3⟩
 | .region true ops,n,rt,xs,e,sl,he,hp,ef,r,h=>by
  obtain ⟨e',sl',hp',ef',h1,h2,h3⟩:=Zha he h
  exact ⟨.normal,e',sl',hp',ef',by simp only [Zw,h1,Option.map_some],h2,h3⟩
 | .regionB ops,n,rt,xs,e,sl,he,hp,ef,r,h=>by
  obtain ⟨e',sl',hp',ef',h1,h2,h3⟩:=Zha he h
  exact ⟨.normal,e',sl',hp',ef',by simp only [Zw,h1,Option.map_some],h2,h3⟩
 | .seq a b,n,rt,xs,e,sl,he,hp,ef,r,h=>by
  obtain ⟨ex,e',sl',hp',ef',h1,h2,h3⟩:=Ib a he h
  cases ex with
  | normal =>
   obtain ⟨ex,e2,sl2,hp2,ef2,g1,g2,g3⟩:=Ib b h2 h3
   exact ⟨ex,e2,sl2,hp2,ef2,by simp only [Zw,h1,g1],g2,g3⟩
  | ret=>exact ⟨.ret,e',sl',hp',ef',by simp only [Zw,h1],h2,h3⟩
  | exit i=>exact ⟨.exit i,e',sl',hp',ef',by simp only [Zw,h1],h2,h3⟩
 | .cond c a b,n,rt,xs,e,sl,he,hp,ef,r,h=>by
  obtain ⟨v,h1,h2⟩:=Z7 (show rdK (WP G N P e c) (fun v=>ifK v (Q4 G N bs K P L a n rt xs e hp ef) (Q4 G N bs K P L b n rt xs e hp ef))=some r from h)
  unfold ifK at h2
  split at h2
  ·obtain ⟨ex,e',sl',hp',ef',g1,g2,g3⟩:=Ib a he h2
   exact ⟨ex,e',sl',hp',ef',by simp only [Zw,he.opnd h1,g1],g2,g3⟩
  ·obtain ⟨ex,e',sl',hp',ef',g1,g2,g3⟩:=Ib b he h2
   exact ⟨ex,e',sl',hp',ef',by simp only [Zw,he.opnd h1,g1],g2,g3⟩
  ·cases h2
 | .block id c,n,rt,xs,e,sl,he,hp,ef,r,h=>by
  obtain ⟨ex,e',sl',hp',ef',h1,h2,h3⟩:=Ib c he h
  cases ex with
  | normal=>exact ⟨.normal,e',sl',hp',ef',by simp only [Zw,h1],h2,h3⟩
  | ret=>exact ⟨.ret,e',sl',hp',ef',by simp only [Zw,h1],h2,h3⟩
  | exit i =>
   simp only [ZsU] at h3
   by_cases hi:i=id
   ·subst hi
    rw [Nat.beq_refl,EK] at h3
    exact ⟨.normal,e',sl',hp',ef',by simp only [Zw,h1,if_true],h2,h3⟩
   ·have:Nat.beq id i=false:=by cases hb:Nat.beq id i with | false=>rfl | true=>exact absurd (Nat.eq_of_beq_eq_true hb).symm hi
    rw [this,Dh] at h3
    exact ⟨.exit i,e',sl',hp',ef',by simp only [Zw,h1,if_neg hi],h2,h3⟩
 | .loop c,n,rt,xs,e,sl,he,hp,ef,r,h=>by
  have go:∀ (m:Nat) {e:Env} {sl:List AV} (_:WS N P e sl) {hp:List Zn} {ef:Eff},Zby (fun n'=>Q4 G N bs K P L c n' rt xs) m e hp ef=some r →
    Goes N bs P (iter (Zw G K L c) m ⟨sl,hp,ef,bs⟩) n rt xs r:=by
   intro m
   induction m with
   | zero=>intro e sl he hp ef h; cases h
   | succ m ih =>
    intro e sl he hp ef h
    obtain ⟨ex,e',sl',hp',ef',h1,h2,h3⟩:=Ib c he (show Q4 G N bs K P L c (Zby (fun n'=>Q4 G N bs K P L c n' rt xs) m) rt xs e hp ef=some r from h)
    cases ex with
    | normal =>
     obtain ⟨ex,e2,sl2,hp2,ef2,g1,g2,g3⟩:=ih h2 h3
     exact ⟨ex,e2,sl2,hp2,ef2,by simp only [iter,h1,g1],g2,g3⟩
    | ret=>exact ⟨.ret,e',sl',hp',ef',by simp only [iter,h1],h2,h3⟩
    | exit i=>exact ⟨.exit i,e',sl',hp',ef',by simp only [iter,h1],h2,h3⟩
  exact go L he h
 | .scope c,n,rt,xs,e,sl,he,hp,ef,r,h=>Ib c he h
 | .exit id,n,rt,xs,e,sl,he,hp,ef,r,h=>⟨.exit id,e,sl,hp,ef,rfl,he,h⟩
 | .ret,n,rt,xs,e,sl,he,hp,ef,r,h=>⟨.ret,e,sl,hp,ef,rfl,he,h⟩
 | .bad,n,rt,xs,e,sl,he,hp,ef,r,h=>by cases h
end
theorem Zrv {e:Env}{N:Nat}{P:List Nat}{sl:List AV}(he:WS N P e sl){hp:List Zn}{ef:Eff}{bs:Nat}{r:Ze7}{v:AV}(h:Zz4 e N P hp r=some v):Lj ⟨sl,hp,ef,bs⟩ r=some v:=by
 cases r <;> simp only [Zz4] at h <;> obtain ⟨h1,h2⟩:=Jc h
 ·cases h2; exact he.get h1
 ·simp only [Lj,he.get h1,h2]
 ·simp only [Lj,he.get h1,h2]
theorem Znu {e:Env}{N:Nat}{P:List Nat}{sl:List AV}(he:WS N P e sl){hp:List Zn}{ef:Eff}{bs:Nat}:∀ {rs:List Ze7} {k:List AV→KR} {q:AV×List Zn×Eff},ZtK e N P hp rs k=some q→∃ vs,UN ⟨sl,hp,ef,bs⟩ rs=some vs∧k vs=some q
 | [],k,q,h=>⟨[],rfl,h⟩
 | r :: l,k,q,h=>by
  simp only [ZtK] at h
  obtain ⟨v,hv,h⟩:=Z7 h
  obtain ⟨vs,hvs,h⟩:=Znu (ef := ef) (bs := bs) he h
  exact ⟨v.nm :: vs,by simp only [UN,Zrv he hv,hvs],h⟩
theorem ZoA {e:Env}{N:Nat}{P:List Nat}{sl:List AV}(he:WS N P e sl){hp:List Zn}{ef:Eff}{bs:Nat}{rs:List Ze7}{k:AV→KR}{q:AV×List Zn×Eff}(h:ZlF e N P hp rs k=some q):∃ v,Xc ⟨sl,hp,ef,bs⟩ rs=some v∧k v=some q:=by
 unfold ZlF at h
 split at h
 ·obtain ⟨v,hv,h⟩:=Z7 h
  exact ⟨v,Zrv he hv,h⟩
 ·rename_i hne
  obtain ⟨vs,hvs,h⟩:=Znu (ef := ef) (bs := bs) he h
  refine ⟨_,?_,h⟩
  unfold Xc
  split
  ·exact absurd rfl (hne _)
  ·rw [hvs]; rfl
theorem Zgt:∀ (args:List AV) (t:Nat),Zsa args t=.raw (args.getD t .undef)
 | [],t=>by simp [Zsa]
 | v :: l,0=>rfl
 | v :: l,t + 1=>by
  show Zsa l t=_
  rw [Zgt l t]
  rfl
theorem ZuN {args:List AV}{N:Nat}{P:List Nat}(h:args.length≤N):WS N P (Zsa args) (args ++ List.replicate (N - args.length) .undef):=by
 refine ⟨by simp; omega,fun t ht _=>?_,fun t=>by rw [Zgt]; rfl⟩
 rw [Zgt,List.getD_eq_getElem?_getD]
 by_cases h1:t < args.length
 ·rw [List.getElem?_append_left h1]; simp [h1,KV.val]
 ·rw [List.getElem?_append_right (by omega),List.getElem?_replicate]
  simp [show t - args.length < N - args.length by omega,show args[t]? = none from List.getElem?_eq_none (by omega),KV.val]
theorem ZmF {C:Cfg}{P:List Nat}{f:FuncId}{fn:AFn}(hT:C.T f=some fn){n:Nat}{args:List AV}{hp:List Zn}{r:AV×List Zn×Eff}(hl:args.length≤fn.ntmps)(h:fnK C.G (Z5 C n) P C.L fn args hp=some r) :
  Z5 C (n + 1) f args hp=some r:=by
 obtain ⟨ex,e',sl',hp',ef',h1,h2,h3⟩:=Ib fn.code (ZuN hl) h
 have hret:∀ (_:Ar P fn hp e' hp' ef'=some r),∃ v,Xc ⟨sl',hp',ef',hp.length⟩ fn.results=some v∧(if fn.keep then (v.nm,hp',ef') else finish v ⟨sl',hp',ef',hp.length⟩ hp)=r:=by
  intro h
  obtain ⟨v,a1,a2⟩:=ZoA h2 h
  refine ⟨v,a1,?_⟩
  cases a2
  unfold Zbu
  cases fn.keep <;> rfl
 rw [Z5]
 simp only [hT,h1]
 cases ex with
 | normal =>
  obtain ⟨v,a1,a2⟩:=hret h3
  simp only [a1,a2]
 | ret =>
  obtain ⟨v,a1,a2⟩:=hret h3
  simp only [a1,a2]
 | exit i=>cases h3
end Go.Proofs.YtgjcjbhhhlelnaaGreatDoor.Abs
end
section
namespace Go.Proofs.YtgjcjbhhhlelnaaGreatDoor.Abs
open Go
theorem Zy7 {α:Type}(v:α)(k:α→KR):Qj (some v) k=k v:=rfl
theorem Zy5 {α β:Type}(a:α)(b:β)(k:α→β→KR):ZiQ (some (a,b)) k=k a b:=rfl
theorem Zy6 {α β γ:Type}(a:α)(b:β)(c:γ)(k:α→β→γ→KR):LP (some (a,b,c)) k=k a b c:=rfl
theorem Z0g (b:Bool)(x y:KR):ifK (.bool b) x y=if b=true then x else y:=by cases b <;> rfl
theorem ZsB (x:KR)(hp:List Zn)(ef:Eff)(k:AV→List Zn→Eff→KR):PN (some true) x hp ef k=LP x k:=rfl
theorem ZsA (x:KR)(hp:List Zn)(ef:Eff)(k:AV→List Zn→Eff→KR):PN (some false) x hp ef k=k .undef hp ef:=rfl
theorem Zqc (b:Bool):PM true (.bool b)=some b:=by cases b <;> rfl
theorem Zqb (b:Bool):PM false (.bool b)=some (!b):=by cases b <;> rfl
theorem Zwz (a b:AV):ZeP (.bool true) a b=some a:=rfl
theorem Zwy (a b:AV):ZeP (.bool false) a b=some b:=rfl
theorem ZxW {α:Type}(x:α)(k:α→KR):ZvA x k=k x:=rfl
theorem Zw8 (b:Bool):AV.ro (.bool b)=.bool b:=rfl
theorem ZyZ (k:IntKind)(n:Int):AV.ro (.int k n)=.int k n:=rfl
theorem Zzk (s:List UInt8):AV.ro (.str s)=.str s:=rfl
theorem Zzd (k:Nat)(r:List (List AV)):AV.ro (.lst k r)=.lst k r:=rfl
theorem Zzh (k:Nat)(r:List (List AV)):AV.ro (.own k r)=.lst k r:=rfl
theorem ZyV (c:List AV):AV.ro (.agg c)=.agg c:=rfl
theorem Zzl (c:List AV):AV.ro (.tup c)=.tup c:=rfl
theorem Zzi (g o:Nat):AV.ro (.ptr g o)=.ptr g o:=rfl
theorem Zze (g:Nat):AV.ro (.map g)=.map g:=rfl
theorem Zzj (c:List AV):AV.ro (.ref c)=.ref c:=rfl
theorem Z0G (f:FuncId)(a c:List AV):AV.ro (.fn f a c)=.fn f a c:=rfl
theorem ZtP:AV.ro .undef=.undef:=rfl
theorem ZvH (b:Bool):AV.nm (.bool b)=.bool b:=rfl
theorem Zyj (k:IntKind)(n:Int):AV.nm (.int k n)=.int k n:=rfl
theorem Zyn (s:List UInt8):AV.nm (.str s)=.str s:=rfl
theorem Zyk (k:Nat)(r:List (List AV)):AV.nm (.lst k r)=.lst k r:=rfl
theorem ZqA (k:Nat)(r:List (List AV)):AV.nm (.own k r)=.lst k r:=rfl
theorem Zyi (c:List AV):AV.nm (.agg c)=.agg (c.map AV.ro):=rfl
theorem Zym (g o:Nat):AV.nm (.ptr g o)=.ptr g o:=rfl
theorem Zyl (g:Nat):AV.nm (.map g)=.map g:=rfl
theorem Z0x (f:FuncId)(a c:List AV):AV.nm (.fn f a c)=.fn f a c:=rfl
theorem Zxo (op:BinOp)(a b:List UInt8):ZK op .prim (.str a) (.str b)=ZhL op a b:=rfl
theorem ZzE (k:IntKind)(a b:Int):ZK .add .prim (.int k a) (.int k b)=some (.int k (k.wrap (a + b))):=by simp [ZK,JL,Kr]
theorem ZzK (k:IntKind)(a b:Int):ZK .sub .prim (.int k a) (.int k b)=some (.int k (k.wrap (a - b))):=by simp [ZK,JL,Kr]
theorem ZzH (k:IntKind)(a b:Int):ZK .mul .prim (.int k a) (.int k b)=some (.int k (k.wrap (a * b))):=by simp [ZK,JL,Kr]
theorem Z1g (k:IntKind)(a b:Int):ZK .eql .prim (.int k a) (.int k b)=some (.bool (decide (a=b))):=by
 simp only [ZK,JL,Kr,Bool.false_eq_true,if_false,if_true]; congr 2
theorem Z1l (k:IntKind)(a b:Int):ZK .neq .prim (.int k a) (.int k b)=some (.bool (decide (a≠b))):=by
 simp only [ZK,JL,Kr,Bool.false_eq_true,if_false,if_true]
 by_cases h:a=b <;> simp [h]
theorem Z1k (k:IntKind)(a b:Int):ZK .lss .prim (.int k a) (.int k b)=some (.bool (decide (a < b))):=by simp [ZK,JL,Kr]
theorem Z1j (k:IntKind)(a b:Int):ZK .leq .prim (.int k a) (.int k b)=some (.bool (decide (a≤b))):=by simp [ZK,JL,Kr]
theorem Z1i (k:IntKind)(a b:Int):ZK .gtr .prim (.int k a) (.int k b)=some (.bool (decide (b < a))):=by simp [ZK,JL,Kr]
theorem Z1h (k:IntKind)(a b:Int):ZK .geq .prim (.int k a) (.int k b)=some (.bool (decide (b≤a))):=by simp [ZK,JL,Kr]
theorem Z1t (a b:List UInt8):ZK .eql .prim (.str a) (.str b)=some (.bool (decide (a=b))):=by
 rw [Zxo,ZhL]; congr 2
 by_cases h:a=b <;> simp [h]
theorem Z1u (a b:List UInt8):ZK .neq .prim (.str a) (.str b)=some (.bool (decide (a≠b))):=by
 rw [Zxo,ZhL]; congr 2
 by_cases h:a=b <;> simp [h]
theorem Z0N (b:Bool):Zal .not (.bool b)=some (.bool (!b)):=rfl
theorem Z0M (k:IntKind)(n:Int):Zal .neg (.int k n)=some (.int k (k.wrap (0 - n))):=rfl
theorem Z0r (hp:List Zn)(s:List UInt8):Xl hp .str (.str s)=some (.int .i64 s.length):=rfl
theorem Z0m (hp:List Zn)(k:Nat)(r:List (List AV)):Xl hp .slice (.lst k r)=some (.int .i64 r.length):=rfl
theorem ZzP (hp:List Zn)(k k':IntKind)(n:Int):Vf hp (.int k) (.int k' n)=some (.int k (k.wrap n)):=rfl
theorem Z0R (l:List AV)(i:Nat):Dn (.tup l) i=(l[i]?).map AV.ro:=rfl
theorem Zn7 (bs:Nat)(ef:Eff):Oi bs ef none=ef:=rfl
theorem Zsw (hp0:List Zn)(b:Bool)(hp:List Zn):Zbu false hp0 (.bool b) hp none=(.bool b,hp0,none):=rfl
theorem Zvo (hp0:List Zn)(k:IntKind)(n:Int)(hp:List Zn):Zbu false hp0 (.int k n) hp none=(.int k n,hp0,none):=rfl
theorem Zvr (hp0:List Zn)(s:List UInt8)(hp:List Zn):Zbu false hp0 (.str s) hp none=(.str s,hp0,none):=rfl
theorem Zvp (hp0:List Zn)(k:Nat)(r:List (List AV))(hp:List Zn):Zbu false hp0 (.lst k r) hp none=(.lst k r,hp0,none):=rfl
theorem Zvq (hp0:List Zn)(k:Nat)(r:List (List AV))(hp:List Zn):Zbu false hp0 (.own k r) hp none=(.own k r,hp0,none):=rfl
theorem Zs4 (bs:Nat)(hp:List Zn)(k:IntKind)(n:Int):ZfF bs hp (.int k n)=some (.int k n):=rfl
theorem Zs6 (bs:Nat)(hp:List Zn)(s:List UInt8):ZfF bs hp (.str s)=some (.str s):=rfl
theorem ZpT (bs:Nat)(hp:List Zn)(b:Bool):ZfF bs hp (.bool b)=some (.bool b):=rfl
theorem Zs5 (bs:Nat)(hp:List Zn)(k:Nat)(r:List (List AV)):ZfF bs hp (.lst k r)=some (.lst k r):=rfl
theorem Ii (h:List Zn)(x:Zn):(h ++ [x])[h.length]? = some x:=by simp
theorem ZsT (h:List Zn)(x y:Zn):(h ++ [x]).set h.length y=h ++ [y]:=by simp
theorem Z07 (ks:List CK)(k:IntKind)(x y:Int)(l m:List AV):Yl (.int :: ks) (.int k x :: l) (.int k y :: m)=if x=y then Yl ks l m else some false:=by
 by_cases h:x=y
 ·subst h; simp [Yl,WA]
 ·have:(x == y)=false:=by simpa using h
  simp [Yl,WA,h,this]
theorem Z09 (ks:List CK)(x y:List UInt8)(l m:List AV):Yl (.str :: ks) (.str x :: l) (.str y :: m)=if x=y then Yl ks l m else some false:=by
 by_cases h:x=y
 ·subst h; simp [Yl,WA]
 ·have:(x == y)=false:=by simpa using h
  simp [Yl,WA,h,this]
theorem ZyT (ks:List CK)(x y:Bool)(l m:List AV):Yl (.bool :: ks) (.bool x :: l) (.bool y :: m)=if x=y then Yl ks l m else some false:=by
 cases x <;> cases y <;> simp [Yl,WA]
theorem Z08:Yl [] [] []=some true:=rfl
theorem Z1s (p:Prop)[Decidable p](b:Bool):(if p then some b else some false)=some (decide p && b):=by by_cases h:p <;> simp [h]
theorem ZzG (ks:List CK)(a b:List AV):ZK .eql (.struct ks) (.agg a) (.agg b)=(Yl ks a b).map .bool:=rfl
theorem ZzJ (ks:List CK)(a b:List AV):ZK .neq (.struct ks) (.agg a) (.agg b)=(Yl ks a b).map fun b=>.bool (!b):=rfl
theorem ZzF (a b:Bool):ZK .eql .bool (.bool a) (.bool b)=some (.bool (a == b)):=rfl
theorem ZzI (a b:Bool):ZK .neq .bool (.bool a) (.bool b)=some (.bool (!(a == b))):=rfl
def gif (b:Bool)(v:AV):AV:=if b=true then v else .undef
theorem ZzU (v:AV):gif true v=v:=rfl
theorem Zk0 (b:Bool)(v:AV)(hp:List Zn)(ef:Eff)(k:AV→List Zn→Eff→KR):PN (some b) (some (v,hp,ef)) hp ef k=k (gif b v) hp ef:=by cases b <;> rfl
theorem ZyX (b:Bool)(v:AV):AV.ro (gif b v)=gif b (AV.ro v):=by cases b <;> rfl
theorem Zt9 (b c:Bool):ZeP (.bool b) (gif b (.bool c)) (.bool false)=some (.bool (b && c)):=by cases b <;> rfl
theorem ZtA (b c:Bool):ZeP (.bool b) (.bool true) (gif (!b) (.bool c))=some (.bool (b || c)):=by cases b <;> rfl
theorem Zvw (b c:Bool)(hp:List Zn)(ef:Eff)(k:AV→List Zn→Eff→KR):ZhU (.bool b) true (some (.bool c,hp,ef)) (some (.bool false)) hp ef k=k (.bool (b && c)) hp ef:=by cases b <;> rfl
theorem ZxB (b c:Bool)(hp:List Zn)(ef:Eff)(k:AV→List Zn→Eff→KR):ZhU (.bool b) false (some (.bool c,hp,ef)) (some (.bool true)) hp ef k=k (.bool (b || c)) hp ef:=by cases b <;> rfl
theorem ZxD (x:KR)(o:Option AV)(hp:List Zn)(ef:Eff)(k:AV→List Zn→Eff→KR):ZhU (.bool true) true x o hp ef k=LP x k:=rfl
theorem ZxA (x:KR)(v:AV)(hp:List Zn)(ef:Eff)(k:AV→List Zn→Eff→KR):ZhU (.bool false) true x (some v) hp ef k=k v hp ef:=rfl
theorem ZxC (x:KR)(v:AV)(hp:List Zn)(ef:Eff)(k:AV→List Zn→Eff→KR):ZhU (.bool true) false x (some v) hp ef k=k v hp ef:=rfl
theorem Zx9 (x:KR)(o:Option AV)(hp:List Zn)(ef:Eff)(k:AV→List Zn→Eff→KR):ZhU (.bool false) false x o hp ef k=LP x k:=rfl
@[congr] theorem ZwS {c c':AV}{w:Bool}{x x':KR}{o:Option AV}{hp:List Zn}{ef:Eff}{k:AV→List Zn→Eff→KR}(hc:c=c')(hx:x=x'):ZhU c w x o hp ef k=ZhU c' w x' o hp ef k:=by rw [hc,hx]
@[congr] theorem Zuq {b b':Bool}{x x':KR}{hp:List Zn}{ef:Eff}{k:AV→List Zn→Eff→KR}(hb:b=b')(hx:b'=true→x=x'):PN (some b) x hp ef k=PN (some b') x' hp ef k:=by
 subst hb
 cases b with
 | false=>rfl
 | true=>rw [hx rfl]
@[congr] theorem Zxb {α:Type}{x x':Option α}{k:α→KR}(h:x=x'):Qj x k=Qj x' k:=by rw [h]
@[congr] theorem ZwZ {α β:Type}{x x':Option (α×β)}{k:α→β→KR}(h:x=x'):ZiQ x k=ZiQ x' k:=by rw [h]
@[congr] theorem Zxa {α β γ:Type}{x x':Option (α×β×γ)}{k:α→β→γ→KR}(h:x=x'):LP x k=LP x' k:=by rw [h]
@[congr] theorem ZwW {α:Type}{x x':α}{k:α→KR}(h:x=x'):ZvA x k=ZvA x' k:=by rw [h]
@[congr] theorem ZxP {x x':AV}{a b:KR}(h:x=x'):ifK x a b=ifK x' a b:=by rw [h]
theorem ZtT (bs n:Nat)(h:List Zn)(cs:List AV)(t:TypeId)(o:Nat)(v:AV)(ef:Eff)(h1:v.cells.length=n)(h2:o + n≤cs.length)(h3:v.laid=true)(h4:bs≤h.length) :
  stV bs n (.ptr h.length o) v (h ++ [.cells cs t]) ef=some (h ++ [.cells (splice cs o v.cells) t],ef):=by
 simp only [stV,Ii,h1,h2,h3,and_self,if_true,ZsT,ZiN]
 rw [if_neg (by omega)]
theorem Zqx {hp:List Zn}{g:Nat}{cs:List AV}{t:TypeId}(h:hp[g]? = some (.cells cs t))(o:Nat):WW hp (.ptr g o)=(cs[o]?).map AV.ro:=by
 simp only [WW,h]
theorem Zqu {hp:List Zn}{g:Nat}{cs:List AV}{t:TypeId}(h:hp[g]? = some (.cells cs t))(n o:Nat)(h1:o + n≤cs.length):Vb hp n (.ptr g o)=some (.agg (((cs.drop o).take n).map AV.ro)):=by
 simp only [Vb,h,h1,if_true]
theorem i64_in {x:Int}(h1:-9223372036854775808≤x)(h2:x≤9223372036854775807):IntKind.i64.wrap x=x:=IntWalk.i64_in x ⟨h1,h2⟩
theorem D6 (n:Nat)(h:n < 4611686018427387904):IntKind.i64.wrap ((n:Int) + 1)=((n + 1:Nat):Int):=by rw [i64_in (by omega) (by omega)]; omega
theorem Zv8 (hp:List Zn)(c:AV)(l:List AV):WW hp (.ref (c :: l))=some c.ro:=rfl
theorem Zx4 (o:Nat)(c:List AV):DT o (.ref c)=some (.ref (c.drop o)):=rfl
theorem Zx3 (o g p:Nat):DT o (.ptr g p)=some (.ptr g (p + o)):=rfl
theorem ZuW (n:Nat)(c:List AV)(h:c.length=n):Zsd n (.agg c)=some c:=by simp [Zsd,AV.cells,AV.laid,h]
end Go.Proofs.YtgjcjbhhhlelnaaGreatDoor.Abs
end
end
