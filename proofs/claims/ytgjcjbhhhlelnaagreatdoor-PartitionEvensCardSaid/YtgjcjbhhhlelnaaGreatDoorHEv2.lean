import Derived.Test.YtgjcjbhhhlelnaaGreatDoorHEv1
set_option linter.all false
section
section
namespace Go.Proofs.YtgjcjbhhhlelnaaGreatDoor.Abs
open Go Go.RowKit
section
variable {P:Program}{G:Nat→Option (List AV)}{call:FuncId→List AV→List Zl→Option (AV×List Zl×Eff)}{E:Entry}{s s':Zb}{Γ:Z9}{a:Act}{w:World}{hand:Nat→Bool}{draw:Bool}
def Ends (E:Entry)(r:Ii×Zb)(e:Exit)(a:Act)(w:World):Prop :=
 (match r.1,e with
  | .normal,.normal=>True
  | .exit i,.exit j=>i=j
  | .ret,.ret=>True
  | _,_=>False)∧∃ Γ,Inv E r.2 Γ a w
theorem Ends.normal {s:Zb}{Γ:Z9}{a:Act}{w:World}(h:Inv E s Γ a w):Ends E (.normal,s) .normal a w:=⟨trivial,Γ,h⟩
theorem ZiJ {c:Code}{f:Zb→Option (Ii×Zb)}(ih:∀ {s:Zb} {r:Ii×Zb} {Γ:Z9} {a:Act} {w:World},f s=some r→Inv E s Γ a w→c.wp P (Ends E r) a w) :
  ∀ (n:Nat) {s:Zb} {r:Ii×Zb} {Γ:Z9} {a:Act} {w:World},iter f n s=some r→Inv E s Γ a w→Code.rounds P c (Ends E r) n a w
 | 0,_,_,_,_,_,h,_=>by cases h
 | n + 1,s,r,Γ,a,w,h,hI=>by
  rw [rounds_succ]
  simp only [iter] at h
  split at h
  ·rename_i s1 h1
   refine Go.wp_mono (ih h1 hI) fun e a' w' he=>?_
   obtain ⟨k1,Γ',i1⟩:=he
   cases e <;> first | exact k1.elim | skip
   exact ZiJ ih n h i1
  ·rename_i hne
   refine Go.wp_mono (ih h hI) fun e a' w' he=>?_
   cases e <;> first | exact he | skip
   obtain ⟨k1,_⟩:=he
   obtain ⟨x,s1⟩:=r
   cases x <;> first | exact k1.elim | skip
   exact absurd h (hne s1)
theorem Ztf (hm:P.follows .mixedOrders=true)(hG:GOk G E.W0)(hS:Yc P E.W0 call)(hB:Yc P E.W0 (Yr call)){takes:FuncId→List Nat}{res:List Nat}(L:Nat):∀ {c:Code} {ac:Wn} {s:Zb} {r:Ii×Zb} {Γ:Z9} {a:Act} {w:World},
  BJ P takes res c=some ac→Zv G call L ac s=some r→Inv E s Γ a w→c.wp P (Ends E r) a w:=by
 intro c
 induction c with
 | skip =>
  intro ac s r Γ a w hc h hI
  cases hc; cases h
  exact Go.wp_skip (.normal hI)
 | region id ops draw =>
  intro ac s r Γ a w hc h hI
  cases draw with
  | false =>
   simp only [BJ] at hc
   obtain ⟨aops,h1,rfl⟩:=Option.map_eq_some_iff.1 hc
   simp only [Zv] at h
   obtain ⟨s1,h2,rfl⟩:=Option.map_eq_some_iff.1 h
   refine wp_region ?_
   rw [List.range_eq_range']
   have:=Zlg hG hS (Q := Ends E (.normal,s1)) 0 (l := ops.toList) (by simp) h1 h2 hI fun Γ a w h=>.normal h
   simpa using this
  | true =>
   simp only [BJ] at hc
   split at hc <;> first | (cases hc; done) | skip
   rename_i aops bops h1 h1'
   split at hc
   ·rename_i hq
    simp only [Bool.and_eq_true] at hq
    cases hc
    generalize PI ops ops.size=n at *
    simp only [Zv] at h
    have hl:ops.size=bops.length:=by simpa using (XA h1').1
    have hnle:n≤ops.size:=by
     have:=hq.2
     simp only [Zr6,Bool.and_eq_true,decide_eq_true_eq] at this
     exact this.1.1.2
    cases h2:ZC G (Qk call) (bops.take n) s with
    | none=>rw [h2] at h; simp at h
    | some s1 =>
     rw [h2] at h
     simp only [Option.map_some] at h
     obtain ⟨s2,h3,rfl⟩:=Option.map_eq_some_iff.1 h
     refine wp_region_any hm ?_
     have hb:Behind w { w with drawn:=w.drawn + 1 }:=⟨rfl,rfl,rfl,Nat.le_refl _,fun _ _=>rfl⟩
     have hrep:∀ i,i < ops.size→(Array.replicate ops.size false).getD i true=false:=fun i hi=>by simp [hi]
     have hr:WM n (Array.replicate ops.size false)=List.range n:=by
      unfold WM
      refine List.filter_eq_self.2 fun i hi=>?_
      simp only [List.mem_range] at hi
      rw [hrep i (by omega)]; rfl
     have hr2:Oa n ops.size (Array.replicate ops.size false)=(List.range ops.size).drop n:=by
      unfold Oa
      rw [show (List.range ops.size)=List.range n ++ (List.range ops.size).drop n from by
       rw [show List.range n=(List.range ops.size).take n from by rw [List.take_range,Nat.min_eq_left hnle],List.take_append_drop]]
      rw [List.filter_append,List.filter_eq_nil_iff.2 (fun i hi=>by
       simp only [List.mem_range] at hi
       have:¬ n≤i:=by omega
       simp [this]),List.nil_append]
      rw [List.drop_append_of_le_length (by simp),show (List.range n).drop n=[] from by simp,List.nil_append]
      refine List.filter_eq_self.2 fun i hi=>?_
      obtain ⟨k,hk⟩:=List.mem_iff_getElem?.1 hi
      rw [List.getElem?_drop] at hk
      have hlt:=(List.getElem?_eq_some_iff.1 hk).1
      rw [List.getElem?_range (by simpa using hlt)] at hk
      cases hk
      simp only [List.length_range] at hlt
      rw [hrep _ hlt]; simp
     have hmap:(List.range ops.size).map (fun i=>bops.getD i ⟨none,.bad,none⟩)=bops:=by
      rw [hl]
      refine List.ext_getElem? fun i=>?_
      rw [List.getElem?_map]
      by_cases hi:i < bops.length
      ·rw [List.getElem?_range hi,Option.map_some,List.getD_eq_getElem?_getD,List.getElem?_eq_getElem hi]; rfl
      ·rw [List.getElem?_eq_none (by simpa using hi),List.getElem?_eq_none (by omega)]; rfl
     refine Zui hG hS (n := n) (Q := Ends E (.normal,s2)) h1' hq.2 (fun Γ a w h=>.normal h) ops.size (s1 := s1) (by simp) (.start ops _) (by rw [hr,hr2]; simp; omega) ?_ ?_ (hb.inv hI)
     ·rw [hr,show List.range n=(List.range ops.size).take n from by rw [List.take_range,Nat.min_eq_left hnle],List.map_take,hmap]; exact h2
     ·rw [hr2,List.map_drop,hmap]; exact h3
   split at hc
   ·rename_i hd
    rw [Bool.and_eq_true] at hd
    cases hc
    simp only [Zv] at h
    obtain ⟨s1,h2,rfl⟩:=Option.map_eq_some_iff.1 h
    refine wp_region_any hm ?_
    have hb:Behind w { w with drawn:=w.drawn + 1 }:=⟨rfl,rfl,rfl,Nat.le_refl _,fun _ _=>rfl⟩
    exact Zfy hG hB (Q := Ends E (.normal,s1)) h1' hd.2 (fun Γ a w h=>.normal h) h2 (hb.inv hI)
   split at hc
   ·rename_i hq
    simp only [Bool.and_eq_true] at hq
    cases hc
    simp only [Zv] at h
    obtain ⟨s1,h2,rfl⟩:=Option.map_eq_some_iff.1 h
    refine wp_region_quiet (C := Behind w) hm hq.1 ⟨rfl,rfl,rfl,Nat.le_refl _,fun _ _=>rfl⟩ ?_
    exact Zcn hG hS h1 hq.2 h2 hI fun Γ a w h=>.normal h
   ·split at hc
    ·rename_i hd
     cases hc
     simp only [Zv] at h
     obtain ⟨s1,h2,rfl⟩:=Option.map_eq_some_iff.1 h
     refine wp_region_any hm ?_
     have hb:Behind w { w with drawn:=w.drawn + 1 }:=⟨rfl,rfl,rfl,Nat.le_refl _,fun _ _=>rfl⟩
     have hr:WM ops.size (Array.replicate ops.size false)=List.range ops.size:=by
      unfold WM
      refine List.filter_eq_self.2 fun i hi=>?_
      simp only [List.mem_range] at hi
      simp [hi]
     have hmap:(List.range ops.size).map (fun i=>bops.getD i ⟨none,.bad,none⟩)=bops:=by
      have hl:ops.size=bops.length:=by simpa using (XA h1').1
      rw [hl]
      refine List.ext_getElem? fun i=>?_
      rw [List.getElem?_map]
      by_cases hi:i < bops.length
      ·rw [List.getElem?_range hi,Option.map_some,List.getD_eq_getElem?_getD,List.getElem?_eq_getElem hi]; rfl
      ·rw [List.getElem?_eq_none (by simpa using hi),List.getElem?_eq_none (by omega)]; rfl
     exact Zuh hG hS (Q := Ends E (.normal,s1)) h1' hd (fun Γ a w h=>.normal h) ops.size (by simp) (.start ops _) (by rw [hr]; simp) (by rw [hr,hmap]; exact h2) (hb.inv hI)
    ·split at hc
     ·rename_i hd
      cases hc
      simp only [Zv] at h
      obtain ⟨s1,h2,rfl⟩:=Option.map_eq_some_iff.1 h
      refine wp_region_any hm ?_
      have hb:Behind w { w with drawn:=w.drawn + 1 }:=⟨rfl,rfl,rfl,Nat.le_refl _,fun _ _=>rfl⟩
      exact Zfy hG hB (Q := Ends E (.normal,s1)) h1' hd (fun Γ a w h=>.normal h) h2 (hb.inv hI)
     ·cases hc; cases h
 | seq x y ihx ihy =>
  intro ac s r Γ a w hc h hI
  simp only [BJ] at hc
  split at hc <;> first | (cases hc; done) | skip
  rename_i ax ay hx hy
  obtain rfl:=Option.some.inj hc
  simp only [Zv] at h
  refine Go.wp_seq ?_
  split at h
  ·rename_i s1 h1
   refine Go.wp_mono (ihx hx h1 hI) fun e a' w' he=>?_
   obtain ⟨k1,Γ',i1⟩:=he
   cases e <;> first | exact k1.elim | skip
   exact ihy hy h i1
  ·rename_i hne
   refine Go.wp_mono (ihx hx h hI) fun e a' w' he=>?_
   cases e <;> first | exact he | skip
   obtain ⟨k1,_⟩:=he
   obtain ⟨q,s1⟩:=r
   cases q <;> first | exact k1.elim | skip
   exact absurd h (hne s1)
 | cond c x y ihx ihy =>
  intro ac s r Γ a w hc h hI
  simp only [BJ] at hc
  split at hc <;> first | (cases hc; done) | skip
  rename_i c' ax ay hcc hx hy
  obtain rfl:=Option.some.inj hc
  simp only [Zv] at h
  split at h <;> first | (cases h; done) | skip
  ·rename_i hb
   have k:=(Zp hG hI hcc hb).1
   generalize hq:a.eval c=q at k
   cases k
   exact Go.wp_cond_true hq (ihx hx h hI)
  ·rename_i hb
   have k:=(Zp hG hI hcc hb).1
   generalize hq:a.eval c=q at k
   cases k
   exact Go.wp_cond_false hq (ihy hy h hI)
 | block id c ih =>
  intro ac s r Γ a w hc h hI
  simp only [BJ] at hc
  obtain ⟨ax,hx,rfl⟩:=Option.map_eq_some_iff.1 hc
  simp only [Zv] at h
  refine Go.wp_block ?_
  split at h
  ·rename_i i s1 h1
   split at h
   ·rename_i hi
    obtain rfl:=Option.some.inj h
    refine Go.wp_mono (ih hx h1 hI) fun e a' w' he=>?_
    obtain ⟨k1,Γ',i1⟩:=he
    cases e <;> first | exact k1.elim | skip
    rename_i j
    simp only [Exit.inBlock]
    rw [if_pos (by rw [← hi]; exact (show i=j from k1).symm)]
    exact .normal i1
   ·rename_i hi
    obtain rfl:=Option.some.inj h
    refine Go.wp_mono (ih hx h1 hI) fun e a' w' he=>?_
    obtain ⟨k1,Γ',i1⟩:=he
    cases e <;> first | exact k1.elim | skip
    rename_i j
    simp only [Exit.inBlock]
    rw [if_neg (by rw [← (show i=j from k1)]; exact hi)]
    exact ⟨k1,Γ',i1⟩
  ·rename_i hne
   refine Go.wp_mono (ih hx h hI) fun e a' w' he=>?_
   cases e <;> first | exact he | skip
   obtain ⟨k1,_⟩:=he
   obtain ⟨q,s1⟩:=r
   cases q <;> first | exact k1.elim | skip
   exact absurd h (hne _ s1)
 | loop c ih =>
  intro ac s r Γ a w hc h hI
  simp only [BJ] at hc
  obtain ⟨ax,hx,rfl⟩:=Option.map_eq_some_iff.1 hc
  simp only [Zv] at h
  exact wp_loop_rounds L (ZiJ (fun h1 h2=>ih hx h1 h2) L h hI)
 | scope c ih =>
  intro ac s r Γ a w hc h hI
  simp only [BJ] at hc
  obtain ⟨ax,hx,rfl⟩:=Option.map_eq_some_iff.1 hc
  simp only [Zv] at h
  refine Go.wp_scope_straight (Go.wp_mono (ih hx h hI) fun e a' w' he=>?_)
  cases e <;> first | exact he | skip
  obtain ⟨k1,_⟩:=he
  obtain ⟨q,s1⟩:=r
  cases q <;> exact k1.elim
 | exit id =>
  intro ac s r Γ a w hc h hI
  cases hc; cases h
  exact Go.wp_exit ⟨rfl,Γ,hI⟩
 | ret =>
  intro ac s r Γ a w hc h hI
  cases hc; cases h
  exact Go.wp_ret ⟨trivial,Γ,hI⟩
 | label l =>
  intro ac s r Γ a w hc h hI
  cases hc; cases h
  exact Go.wp_label (.normal hI)
 | _ =>
  intro ac s r Γ a w hc h
  cases hc; cases h
end
end Go.Proofs.YtgjcjbhhhlelnaaGreatDoor.Abs
end
section
namespace Go.Proofs.YtgjcjbhhhlelnaaGreatDoor.Abs
open Go Go.RowKit
section
variable {P:Program}{G:Nat→Option (List AV)}{E:Entry}{s:Zb}{Γ:Z9}{a:Act}{w:World}
def Zc4 (tmps:Array Value):ResultVar→Sem Value
 | .tmp t=>pure (tmps.getD t Go.undef)
 | .cell x t=>do loadVar t (← asAddr (tmps.getD x Go.undef))
def packed:List Value→Value
 | [v]=>v
 | vs=>.tuple vs.toArray
theorem Zc5 {fn:Func}{tmps:Array Value}{vs:List Value}(h:(fn.results.toList.mapM (Zc4 tmps)).run P w=.ok vs w):(results fn tmps).run P w=.ok (packed vs) w:=by
 have e0:results fn tmps=(do let vs ← fn.results.mapM (Zc4 tmps); pure (if h:vs.size=1 then vs[0] else .tuple vs)):=by
  unfold results
  congr 1
 rw [e0]
 obtain ⟨l,hl⟩:∃ l,fn.results=⟨l⟩:=⟨fn.results.toList,rfl⟩
 rw [hl] at h ⊢
 have e:((⟨l⟩:Array ResultVar).mapM (Zc4 tmps)).run P w=.ok vs.toArray w:=by
  rw [List.mapM_toArray,map_eq_pure_bind,Sem.run_bind,h]
  rfl
 rw [Sem.run_bind,e]
 simp only [Result.andThen_ok,Sem.run_pure]
 cases vs with
 | nil=>rfl
 | cons v vs=>cases vs <;> rfl
theorem res_one (hI:Inv E s Γ a w){r:ResultVar}{ar:Zdh}{v:AV}(hc:ZxS P r=some ar)(h:TS s ar=some v) :
  ∃ cv,(Zc4 a.tmps r).run P w=.ok cv w∧Rep Γ w v cv∧((∃ t,cv=a.tmps.getD t Go.undef∧s.sl[t]? = some v)∨∀ k r,v≠.own k r):=by
 cases r with
 | tmp t =>
  obtain rfl:=Option.some.inj hc
  exact ⟨a.tmps.getD t Go.undef,rfl,hI.slots.rep t v h,.inl ⟨t,rfl,h⟩⟩
 | cell t ty =>
  simp only [ZxS] at hc
  split at hc
  ·rename_i hag
   obtain rfl:=Option.some.inj hc
   simp only [TS] at h
   split at h <;> first | (cases h; done) | skip
   rename_i x hx
   obtain ⟨b,off,cv,e,hl,hcell,hr,hn⟩:=Zov hI (hI.slots.rep t x hx) h
   have hu:=ZbU hag
   obtain ⟨i,hi⟩:=info_of_underlying hu
   have hld:=run_loadCells_list (P := P) w ⟨b,off,none⟩ cv (fun j y hj=>by rw [add_lit]; exact hcell j y hj)
   rw [hl] at hld
   refine ⟨_,?_,hr,.inr hn⟩
   simp only [Zc4,e]
   simp [asAddr,loadVar,IV hag hu,ZX hi,hld]
  ·rename_i hag
   split at hc <;> first | (cases hc; done) | skip
   rename_i hu
   obtain rfl:=Option.some.inj hc
   simp only [TS] at h
   split at h <;> first | (cases h; done) | skip
   rename_i x hx
   obtain ⟨b,off,cv,e,hcell,hr,hn⟩:=Zoy hI (hI.slots.rep t x hx) h
   refine ⟨cv,?_,hr,.inr hn⟩
   simp only [Zc4,e]
   simp [asAddr,loadVar,IV (by simpa using hag) hu,hcell]
theorem Zpu (hI:Inv E s Γ a w):∀ {rs:List ResultVar} {ars:List Zdh} {vs:List AV},ZgA P rs=some ars→U5 s ars=some vs →
  ∃ cvs:List Value,(rs.mapM (Zc4 a.tmps)).run P w=.ok cvs w∧cvs.length=vs.length∧ars.length=rs.length∧∀ (j:Nat) (x:AV),vs[j]? = some x→∃ u,cvs[j]? = some u∧Rep Γ w x u
 | [],ars,vs,hc,h=>by
  cases hc; cases h
  exact ⟨[],rfl,rfl,rfl,fun j x hx=>by simp at hx⟩
 | r :: rs,ars,vs,hc,h=>by
  simp only [ZgA] at hc
  split at hc <;> first | (cases hc; done) | skip
  rename_i ar l h1 h2
  obtain rfl:=Option.some.inj hc
  simp only [U5] at h
  split at h <;> first | (cases h; done) | skip
  rename_i v vs' h3 h4
  obtain rfl:=Option.some.inj h
  obtain ⟨cv,e1,r1,_⟩:=res_one hI h1 h3
  obtain ⟨cvs,e2,e3,e4,e5⟩:=Zpu hI h2 h4
  refine ⟨cv :: cvs,?_,by simp [e3],by simp [e4],fun j x hx=>?_⟩
  ·rw [List.mapM_cons]
   simp only [Sem.run_bind,e1,Result.andThen_ok,e2]
   rfl
  ·cases j with
   | zero=>obtain rfl:=Option.some.inj hx; exact ⟨cv,rfl,r1.nm⟩
   | succ j =>
    obtain ⟨u,hu,hr⟩:=e5 j x (by simpa using hx)
    exact ⟨u,by simpa using hu,hr⟩
theorem Zs7 (hI:Inv E s Γ a w){fn:Func}{rs:List Zdh}{v:AV}(hc:ZgA P fn.results.toList=some rs)(h:QP s rs=some v) :
  ∃ cv Γ',(results fn a.tmps).run P w=.ok cv w∧RW E.W0 Γ' w s.hp∧Frame E.Γ0 E.w0 Γ' w s.ef∧Rep Γ' w v cv∧OwnAt Γ' w .res v cv∧∀ b g,Γ' b=.own g→g < s.bs→E.Γ0 b=.own g:=by
 have many:∀ vs,U5 s rs=some vs→v=.tup vs→rs.length≠1→∃ cv Γ',(results fn a.tmps).run P w=.ok cv w∧RW E.W0 Γ' w s.hp∧Frame E.Γ0 E.w0 Γ' w s.ef∧Rep Γ' w v cv∧OwnAt Γ' w .res v cv∧∀ b g,Γ' b=.own g→g < s.bs→E.Γ0 b=.own g:=by
  intro vs hvs hv hne
  obtain ⟨cvs,e2,e3,e4,e5⟩:=Zpu hI hc hvs
  have hr:=Zc5 e2
  have hvl:vs.length=rs.length:=by
   clear hc e2 e3 e4 e5 hr hv hne h
   induction rs generalizing vs with
   | nil=>cases hvs; rfl
   | cons r rs ih =>
    simp only [U5] at hvs
    split at hvs <;> first | (cases hvs; done) | skip
    rename_i h1 h2
    obtain rfl:=Option.some.inj hvs
    simp [ih _ h2]
  subst hv
  refine ⟨.tuple cvs.toArray,Γ,?_,hI.rw,hI.fr,.tup vs _ (by simpa using e3) (fun j x hx=>?_),.of_ne (by simp),hI.back⟩
  ·rw [hr]
   cases cvs with
   | nil=>rfl
   | cons u cvs =>
    cases cvs with
    | nil=>simp at e3; omega
    | cons _ _=>rfl
  ·obtain ⟨u,hu,hr⟩:=e5 j x hx
   rw [Array.getD_eq_getD_getElem?,List.getElem?_toArray,hu]
   exact hr
 cases rs with
 | nil =>
  simp only [QP] at h
  obtain ⟨vs,hvs,e⟩:=Option.map_eq_some_iff.1 h
  exact many vs hvs e.symm (by simp)
 | cons r rs =>
  cases rs with
  | cons r' rs =>
   simp only [QP] at h
   obtain ⟨vs,hvs,e⟩:=Option.map_eq_some_iff.1 h
   exact many vs hvs e.symm (by simp)
  | nil =>
   simp only [QP] at h
   cases hl:fn.results.toList with
   | nil=>rw [hl] at hc; cases hc
   | cons q qs =>
    rw [hl] at hc
    simp only [ZgA] at hc
    split at hc <;> first | (cases hc; done) | skip
    rename_i ar l h1 h2
    obtain ⟨rfl,rfl⟩:=List.cons.inj (Option.some.inj hc)
    have hqs:qs=[]:=by
     cases qs with
     | nil=>rfl
     | cons _ _ =>
      simp only [ZgA] at h2
      split at h2 <;> simp at h2
    subst hqs
    obtain ⟨cv,e1,r1,hown⟩:=res_one hI h1 h
    have hrun:=Zc5 (fn := fn) (tmps := a.tmps) (P := P) (w := w) (vs := [cv]) (by
     rw [hl,List.mapM_cons]
     simp only [Sem.run_bind,e1,Result.andThen_ok]
     rfl)
    rcases hown with ⟨t,rfl,ht⟩ | hn
    ·obtain ⟨Γ',i1,r1,o1⟩:=hI.take t ht
     exact ⟨_,Γ',hrun,i1.rw,i1.fr,r1,o1,i1.back⟩
    ·exact ⟨_,Γ,hrun,hI.rw,hI.fr,r1,.of_ne hn,hI.back⟩
end
end Go.Proofs.YtgjcjbhhhlelnaaGreatDoor.Abs
end
section
namespace Go.Proofs.YtgjcjbhhhlelnaaGreatDoor.Abs
open Go Go.RowKit
def Wu (bs:Nat):Kind→Kind
 | .own g=>if g < bs then .own g else .imm
 | .list n (.cell g i)=>if g < bs then .list n (.cell g i) else .imm
 | k=>k
theorem IM {bs o:Nat}{k:Kind}(h:QB o k):QB o (Wu bs k):=by
 cases k with
 | imm=>trivial
 | own g=>exact h.elim
 | list m l =>
  cases l <;> simp only [Wu] <;> first | exact h | skip
  split
  ·exact h
  ·trivial
theorem QY {bs g:Nat}{k:Kind}(h:Wu bs k=.own g):k=.own g∧g < bs:=by
 cases k with
 | imm=>cases h
 | own g' =>
  simp only [Wu] at h
  split at h
  ·rename_i hl; cases h; exact ⟨rfl,hl⟩
  ·cases h
 | list m l =>
  cases l <;> simp only [Wu] at h <;> first | (cases h; done) | skip
  split at h <;> cases h
theorem Sr {α β:Type}{f:α→Option β}:∀ {l:List α} {r:List β},l.mapM f=some r→r.length=l.length∧∀ (j:Nat) (y:β),r[j]? = some y→∃ x,l[j]? = some x∧f x=some y
 | [],r,h=>by
  simp only [List.mapM_nil] at h
  obtain rfl:=Option.some.inj h
  exact ⟨rfl,fun j y hy=>by simp at hy⟩
 | x :: l,r,h=>by
  rw [List.mapM_cons] at h
  cases hx:f x with
  | none=>rw [hx] at h; cases h
  | some y =>
   cases hl:l.mapM f with
   | none=>rw [hx,hl] at h; cases h
   | some ys =>
    rw [hx,hl] at h
    obtain rfl:=Option.some.inj h
    obtain ⟨e1,e2⟩:=Sr hl
    refine ⟨by simp [e1],fun j z hz=>?_⟩
    cases j with
    | zero=>obtain rfl:=Option.some.inj hz; exact ⟨x,rfl,hx⟩
    | succ j =>
     obtain ⟨x',h1,h2⟩:=e2 j z (by simpa using hz)
     exact ⟨x',by simpa using h1,h2⟩
section
variable {W0 w:World}{Γ Γ':Z9}{hp:List Zl}{bs:Nat}
theorem P8 {x:AV}{v:Value}(hf:Yn Γ w Γ' w)(h:Rep Γ w x v)(hn:x.noId1=true):Rep Γ' w x.ro v:=(h.noId hf hn).ro
theorem OwnAt.fix {w':World}{l l':Loc}{x:AV}{v:Value}(hf:Yn Γ w Γ' w')(hb:∀ b n,Γ b=.list n l→Γ' b=.list n l'∧w'.heap[b]? = w.heap[b]?)(h:OwnAt Γ w l x v):OwnAt Γ' w' l' x v:=by
 intro k rows e
 rcases h k rows e with h | ⟨b,cap,e,cur,hv,hg,hh,h1,h2,h3,h4,h5⟩
 ·exact .inl h
 ·obtain ⟨g1,g2⟩:=hb b _ hg
  exact .inr ⟨b,cap,e,cur,hv,g1,g2.trans hh,h1,h2,h3,h4,fun i j r c a1 a2=>⟨(h5 i j r c a1 a2).1,(h5 i j r c a1 a2).2.noId hf (h5 i j r c a1 a2).1⟩⟩
theorem Zfc (hr:RW W0 Γ w hp):∀ (d:Nat) {v v':AV} {cv:Value},Zdt bs hp d v=some v'→Rep Γ w v cv→Rep (fun b=>Wu bs (Γ b)) w v' cv∧(∀ k r,v'≠.own k r)∧(v.one=true→v'.one=true):=by
 have hf:Yn Γ w (fun b=>Wu bs (Γ b)) w:=fun _ _ _ h1 h2=>⟨IM h1,h2⟩
 have hown:∀ b g,Γ b=.own g→g < bs→Wu bs (Γ b)=.own g:=fun b g h hg=>by simp [h,Wu,hg]
 intro d
 induction d with
 | zero =>
  intro v v' cv h hv
  cases v <;> simp only [Zdt] at h
  case arr g off len k =>
   split at h <;> first | (cases h; done) | skip
   rename_i hg
   obtain rfl:=Option.some.inj h
   cases hv with
   | arr _ _ _ _ cap b hb hc=>exact ⟨.arr _ _ _ _ cap b (hown b g hb hg) hc,by simp,fun h=>h⟩
  case ptr g o =>
   split at h <;> first | (cases h; done) | skip
   rename_i hg
   obtain rfl:=Option.some.inj h
   cases hv with
   | ptr _ _ b hb=>exact ⟨.ptr _ _ b (hown b g hb hg),by simp,fun h=>h⟩
  case map g =>
   split at h <;> first | (cases h; done) | skip
   rename_i hg
   obtain rfl:=Option.some.inj h
   cases hv with
   | map _ b hb=>exact ⟨.map _ b (hown b g hb hg),by simp,fun h=>h⟩
  case agg=>cases h
  case tup=>cases h
  case fn f a cs =>
   split at h <;> first | (cases h; done) | skip
   rename_i hg
   obtain rfl:=Option.some.inj h
   refine ⟨?_,by simp,fun h=>h⟩
   have:=hv.noId hf (by simpa [AV.noId1] using hg)
   obtain ⟨rfl,rfl⟩:a=[]∧cs=[]:=by simpa using hg
   exact this
  case undef=>cases h; cases hv; exact ⟨.undef,by simp [AV.ro],fun h=>h⟩
  all_goals
   obtain rfl:=Option.some.inj h
   exact ⟨P8 hf hv rfl,fun _ _=>Va,fun h=>by rw [SE]; exact h⟩
 | succ d ih =>
  intro v v' cv h hv
  cases v <;> simp only [Zdt] at h
  case arr g off len k =>
   split at h
   ·rename_i hg
    obtain rfl:=Option.some.inj h
    cases hv with
    | arr _ _ _ _ cap b hb hc=>exact ⟨.arr _ _ _ _ cap b (hown b g hb hg) hc,by simp,fun h=>h⟩
   ·rename_i hg
    split at h <;> first | (cases h; done) | skip
    rename_i cs t hobj
    split at h <;> first | (cases h; done) | skip
    rename_i hfit
    obtain ⟨cs',h1,h2⟩:=Option.bind_eq_some_iff.1 h
    split at h2 <;> first | (cases h2; done) | skip
    rename_i hid
    obtain rfl:=Option.some.inj h2
    obtain ⟨m1,m2⟩:=Sr h1
    cases hv with
    | arr _ _ _ _ cap b hb hc =>
     obtain ⟨b',C,o1,o2,o3,o4⟩:=hr.objs g _ hobj
     obtain rfl:=hr.inj b b' g hb o1
     have hlen:cs'.length=len * k:=by rw [m1]; simp; omega
     have hrow:∀ (i:Nat) (r:List AV),(chunk k len cs')[i]? = some r→i < len∧r.length=k∧∀ (j:Nat) (c:AV),r[j]? = some c→j < k∧cs'[i * k + j]? = some c:=by
      intro i r hi
      have hil:=Zq hi
      rw [VA] at hil
      have he:=ZbA k len _ i r hi
      have hle:(i + 1) * k≤len * k:=Nat.mul_le_mul_right k hil
      rw [Nat.add_mul,Nat.one_mul] at hle
      refine ⟨hil,by rw [he]; simp; omega,fun j c hj=>?_⟩
      rw [he,List.getElem?_take] at hj
      split at hj
      ·rename_i hjk
       refine ⟨hjk,?_⟩
       rw [List.getElem?_drop] at hj
       exact hj
      ·cases hj
     have hcell:∀ (p:Nat) (c:AV),cs'[p]? = some c→off + p < C.size∧Rep (fun b=>Wu bs (Γ b)) w c (C.getD (off + p) Go.undef)∧c.noId1=true:=by
      intro p c hp
      obtain ⟨x,x1,x2⟩:=m2 p c hp
      have hpl:=Zq hp
      rw [List.getElem?_take,if_pos (by omega),List.getElem?_drop] at x1
      obtain ⟨_,q2,_⟩:=o4 _ x x1
      exact ⟨by omega,(ih x2 q2).1,List.all_eq_true.1 hid c (List.mem_of_getElem? hp)⟩
     refine ⟨?_,by simp,fun _=>rfl⟩
     have hl:(chunk k len cs').length=len:=VA k len cs'
     have key:=Rep.lst (Γ := fun b=>Wu bs (Γ b)) (w := w) k (chunk k len cs') b off cap (fun i j=>C.getD (off + (i * k + j)) Go.undef) (by rw [hl]; exact hc) (fun r hr=>?_) (fun i j r c hi hj=>?_) (fun i j r c hi hj=>?_)
     ·rw [hl] at key; exact key
     ·obtain ⟨i,hi⟩:=List.mem_iff_getElem?.1 hr
      exact (hrow i r hi).2.1
     ·obtain ⟨_,_,h3⟩:=hrow i r hi
      obtain ⟨_,h4⟩:=h3 j c hj
      obtain ⟨q1,q2,q3⟩:=hcell _ c h4
      refine ⟨?_,?_,q3⟩
      ·rw [cell_of_row w b _ C t (0,0) o2]
       exact Wh q1
      ·show QB _ (Wu bs (Γ b))
       rw [hb]
       simp only [Wu,if_neg hg]
       trivial
     ·obtain ⟨_,_,h3⟩:=hrow i r hi
      obtain ⟨_,h4⟩:=h3 j c hj
      exact (hcell _ c h4).2.1
  case ptr g o =>
   split at h <;> first | (cases h; done) | skip
   rename_i hg
   obtain rfl:=Option.some.inj h
   cases hv with
   | ptr _ _ b hb=>exact ⟨.ptr _ _ b (hown b g hb hg),by simp,fun h=>h⟩
  case map g =>
   split at h <;> first | (cases h; done) | skip
   rename_i hg
   obtain rfl:=Option.some.inj h
   cases hv with
   | map _ b hb=>exact ⟨.map _ b (hown b g hb hg),by simp,fun h=>h⟩
  case agg=>cases h
  case tup=>cases h
  case fn f a cs =>
   split at h <;> first | (cases h; done) | skip
   rename_i hg
   obtain rfl:=Option.some.inj h
   refine ⟨?_,by simp,fun h=>h⟩
   have:=hv.noId hf (by simpa [AV.noId1] using hg)
   obtain ⟨rfl,rfl⟩:a=[]∧cs=[]:=by simpa using hg
   exact this
  case undef=>cases h; cases hv; exact ⟨.undef,by simp [AV.ro],fun h=>h⟩
  all_goals
   obtain rfl:=Option.some.inj h
   exact ⟨P8 hf hv rfl,fun _ _=>Va,fun h=>by rw [SE]; exact h⟩
theorem Ac (hr:RW W0 Γ w hp){v v':AV}{cv:Value}(h:LM bs hp v=some v')(hv:Rep Γ w v cv):Rep (fun b=>Wu bs (Γ b)) w v' cv∧∀ k r,v'≠.own k r:=by
 unfold LM at h
 split at h
 ·rename_i cs
  obtain ⟨cs',h1,rfl⟩:=Option.map_eq_some_iff.1 h
  obtain ⟨m1,m2⟩:=Sr h1
  cases hv with
  | agg _ u hs k1 kn kr =>
   refine ⟨.agg cs' u (by rw [hs,m1]) (fun j c hc=>?_) (fun j k r hc=>?_) (fun j c hc=>?_),by simp⟩
   ·obtain ⟨x,x1,x2⟩:=m2 j c hc
    exact (Zfc hr 4 x2 (kr j x x1)).2.2 (k1 j x x1)
   ·obtain ⟨x,x1,x2⟩:=m2 j _ hc
    exact absurd rfl ((Zfc hr 4 x2 (kr j x x1)).2.1 k r)
   ·obtain ⟨x,x1,x2⟩:=m2 j c hc
    exact (Zfc hr 4 x2 (kr j x x1)).1
 ·obtain ⟨h1,h2,_⟩:=Zfc hr 4 h hv
  exact ⟨h1,h2⟩
theorem Zsl (hr:RW W0 Γ w hp){v v':AV}{cv:Value}(h:frz bs hp v=some v')(hv:Rep Γ w v cv)(ho:OwnAt Γ w .res v cv):Rep (fun b=>Wu bs (Γ b)) w v' cv∧OwnAt (fun b=>Wu bs (Γ b)) w .res v' cv:=by
 have hf:Yn Γ w (fun b=>Wu bs (Γ b)) w:=fun _ _ _ h1 h2=>⟨IM h1,h2⟩
 unfold frz at h
 split at h
 ·rename_i vs
  obtain ⟨vs',h1,rfl⟩:=Option.map_eq_some_iff.1 h
  obtain ⟨m1,m2⟩:=Sr h1
  cases hv with
  | tup _ u hs kr =>
   refine ⟨.tup vs' u (by rw [hs,m1]) fun j c hc=>?_,.of_ne (by simp)⟩
   obtain ⟨x,x1,x2⟩:=m2 j c hc
   exact (Ac hr x2 (kr j x x1)).1
 ·obtain rfl:=Option.some.inj h
  exact ⟨hv.noId hf rfl,ho.fix hf fun b n hb=>⟨by simp [hb,Wu],rfl⟩⟩
 ·obtain ⟨h1,h2⟩:=Ac hr h hv
  exact ⟨h1,.of_ne h2⟩
theorem ZcZ {x:AV}{cv:Value}(hx:x.under1 bs=true)(hv:Rep Γ w x cv):Rep (fun b=>Wu bs (Γ b)) w x cv:=by
 have hf:Yn Γ w (fun b=>Wu bs (Γ b)) w:=fun _ _ _ h1 h2=>⟨IM h1,h2⟩
 have hown:∀ b g,Γ b=.own g→g < bs→Wu bs (Γ b)=.own g:=fun b g h hg=>by simp [h,Wu,hg]
 unfold AV.under1 at hx
 split at hx
 ·cases hv with
  | arr _ _ _ _ cap b hb hc=>exact .arr _ _ _ _ cap b (hown b _ hb (by simpa using hx)) hc
 ·cases hv with
  | ptr _ _ b hb=>exact .ptr _ _ b (hown b _ hb (by simpa using hx))
 ·cases hv with
  | map _ b hb=>exact .map _ b (hown b _ hb (by simpa using hx))
 ·exact hv.noId hf hx
theorem ZrW {x:AV}{cv:Value}(hx:x.under bs=true)(hv:Rep Γ w x cv):Rep (fun b=>Wu bs (Γ b)) w x cv:=by
 unfold AV.under at hx
 split at hx
 ·simp only [Bool.and_eq_true,List.all_eq_true] at hx
  cases hv with
  | fn f a cs u v hs1 hr1 hs hr=>exact .fn _ _ _ u v hs1 (fun j c hc=>ZcZ (hx.1 c (List.mem_of_getElem? hc)) (hr1 j c hc)) hs (fun j c hc=>ZcZ (hx.2 c (List.mem_of_getElem? hc)) (hr j c hc))
 ·exact ZcZ hx hv
theorem ZbO {s:Zb}{Γ0:Z9}{w0:World}{hp0:List Zl}{v:AV}{cv:Value}{v':AV}{hp':List Zl}{e':Eff}(h0:RW W0 Γ0 w0 hp0)(hbs:s.bs=hp0.length)(hle:s.bs≤s.hp.length)(base:∀ b n g i,Γ0 b=.list n (.cell g i)→g < s.bs)
  (hr:RW W0 Γ w s.hp) (hfr:Frame Γ0 w0 Γ w s.ef) (hbk:∀ b g,Γ b=.own g→g < s.bs→Γ0 b=.own g) (hv:Rep Γ w v cv) (ho:OwnAt Γ w .res v cv) {keep:Bool} (h:(if keep then (v.nm,s.hp,s.ef) else finish v s hp0)=(v',hp',e')) :
  ∃ Γ',RW W0 Γ' w hp'∧Rep Γ' w v' cv∧OwnAt Γ' w .res v' cv∧Frame Γ0 w0 Γ' w e'∧hp0.length≤hp'.length∧∀ b g,Γ' b=.own g→g < hp0.length→Γ0 b=.own g:=by
 have hf:Yn Γ w (fun b=>Wu s.bs (Γ b)) w:=fun _ _ _ h1 h2=>⟨IM h1,h2⟩
 have asis:(v.nm,s.hp,s.ef)=(v',hp',e')→∃ Γ',RW W0 Γ' w hp'∧Rep Γ' w v' cv∧OwnAt Γ' w .res v' cv∧Frame Γ0 w0 Γ' w e'∧hp0.length≤hp'.length∧∀ b g,Γ' b=.own g→g < hp0.length→Γ0 b=.own g:=by
  intro e
  cases e
  exact ⟨Γ,hr,hv.nm,.of_ne fun _ _=>IW,hfr,by omega,fun b g hb hl=>hbk b g hb (by omega)⟩
 have base1:∀ b g,Γ0 b=.own g→g < s.bs:=fun b g hb=>by rw [hbs]; exact h0.lt b g hb
 have same0:∀ b,b < w0.heap.size→Kept s.ef (Γ0 b)→Wu s.bs (Γ b)=Γ0 b∧w.heap[b]? = w0.heap[b]?:=fun b hb hk=>by
  obtain ⟨e1,e2⟩:=hfr.keep b hb hk
  refine ⟨?_,e2⟩
  rw [e1]
  cases hg:Γ0 b with
  | imm=>rfl
  | own g=>simp [Wu,base1 b g hg]
  | list n l =>
   cases l with
   | cell g i=>simp [Wu,base b n g i hg]
   | _=>rfl
 have fr:Frame Γ0 w0 (fun b=>Wu s.bs (Γ b)) w s.ef :=
  ⟨hfr.os,hfr.tape,hfr.output,hfr.size,hfr.fix.trans hf,fun b g hb=>by simp [hfr.own b g hb,Wu,base1 b g hb],same0⟩
 have inj':∀ b b' g,Wu s.bs (Γ b)=.own g→Wu s.bs (Γ b')=.own g→b=b':=fun b b' g h1 h2=>hr.inj b b' g (QY h1).1 (QY h2).1
 have imm':∀ b,Γ b=.imm→Wu s.bs (Γ b)=.imm:=fun b hb=>by rw [hb]; rfl
 split at h
 ·exact asis h
 unfold finish at h
 split at h
 case h_2=>exact asis h
 rename_i u hu
 obtain ⟨r1,r2⟩:=Zsl hr hu hv ho
 split at h
 ·rename_i he
  cases h
  rw [he] at fr
  refine ⟨_,⟨fun g o hg=>?_,inj',fun b hb=>imm' b (hr.fresh b hb),fun b g hb=>by rw [← hbs]; exact (QY hb).2,hr.old,fun b hb=>imm' b (hr.oldImm b hb),fun g hg b hb=>h0.dead g hg b (hbk b g (QY hb).1 (QY hb).2)⟩,r1,r2,fr,Nat.le_refl _,fun b g hb hl=>hbk b g (QY hb).1 (QY hb).2⟩
  refine (h0.objs g o hg).step (X := fun b=>¬ Kept none (Γ0 b)) ⟨fr.os,fr.tape,fr.output,fr.size,fun b hb hx=>fr.keep b hb (Classical.not_not.1 hx),fr.fix,fr.own⟩ h0.fresh (fun b hx e=>hx ?_) (fun b n i hx e=>hx ?_)
  ·rw [e]; exact fun _ _ e=>by cases e
  ·rw [e]; exact fun _ _ e=>by cases e
 ·rename_i e he
  split at h
  ·rename_i hall
   cases h
   rw [he] at fr
   have hlen:(s.hp.take s.bs).length=s.bs:=by simp; omega
   refine ⟨_,⟨fun g o hg=>?_,inj',fun b hb=>imm' b (hr.fresh b hb),fun b g hb=>by rw [hlen]; exact (QY hb).2,hr.old,fun b hb=>imm' b (hr.oldImm b hb),fun g hg b hb=>hr.dead g (by have hgl:=Zq hg; rw [hlen] at hgl; rw [List.getElem?_take,if_pos hgl] at hg; exact hg) b (QY hb).1⟩,r1,r2,fr,by omega,fun b g hb hl=>hbk b g (QY hb).1 (QY hb).2⟩
   have hgl:=Zq hg
   rw [hlen] at hgl
   have hund:=List.all_eq_true.1 hall o (List.mem_of_getElem? hg)
   rw [List.getElem?_take,if_pos hgl] at hg
   have:=hr.objs g o hg
   cases o with
   | dead=>trivial
   | cells cs t =>
    obtain ⟨b,C,h1,h2,h3,h4⟩:=this
    refine ⟨b,C,by simp [h1,Wu,hgl],h2,h3,fun i c hc=>?_⟩
    obtain ⟨a1,a2,a3⟩:=h4 i c hc
    exact ⟨a1,ZrW (List.all_eq_true.1 hund c (List.mem_of_getElem? hc)) a2,a3.fix hf fun b n hb=>⟨by simp [hb,Wu,hgl],rfl⟩⟩
   | map es =>
    obtain ⟨b,ms,clk,h1,h2,h3,h4⟩:=this
    exact ⟨b,ms,clk,by simp [h1,Wu,hgl],h2,h3,h4⟩
   | iter l pos =>
    obtain ⟨b,h1,h2⟩:=this
    exact ⟨b,by simp [h1,Wu,hgl],h2⟩
   | buf _ _ _ =>
    obtain ⟨b,C,h1,h2,h3⟩:=this
    exact ⟨b,C,by simp [h1,Wu,hgl],h2,h3.mono fun b n i hb=>⟨by simp [hb,Wu,hgl],rfl⟩⟩
  ·exact asis h
end
end Go.Proofs.YtgjcjbhhhlelnaaGreatDoor.Abs
end
section
namespace Go.Proofs.YtgjcjbhhhlelnaaGreatDoor.Abs
open Go Go.RowKit
def UT (call:FuncId→List AV→List Zl→Option (AV×List Zl×Eff))(f:FuncId)(args:List AV)(hp:List Zl):Option (AV×List Zl×Eff) :=
 match call f args hp with
 | some (v,hp',none)=>match frz hp.length hp' v with
  | some v'=>some (v',hp,none)
  | none=>none
 | _=>none
theorem Zn3 {call:FuncId→List AV→List Zl→Option (AV×List Zl×Eff)}:∀ f args hp v hp' e,UT call f args hp=some (v,hp',e)→hp'=hp∧e=none:=by
 intro f args hp v hp' e h
 unfold UT at h
 split at h <;> first | (cases h; done) | skip
 split at h <;> first | (cases h; done) | skip
 cases h
 exact ⟨rfl,rfl⟩
theorem Zb8 {P:Program}{W0:World}{call:FuncId→List AV→List Zl→Option (AV×List Zl×Eff)}(hS:Yc P W0 call):Yc P W0 (UT call):=by
 intro f args hp v hp' e h Γ w xs hr ht hs hx
 unfold UT at h
 split at h <;> first | (cases h; done) | skip
 rename_i v0 hp0 hc
 split at h <;> first | (cases h; done) | skip
 rename_i v1 hf
 cases h
 refine (hS f args hp v0 hp0 none hc Γ w xs hr ht hs hx).mono fun cv w' ⟨Γ',r1,r2,r3,r4,r5⟩=>?_
 exact ZbO (s := ⟨[],hp0,none,hp.length⟩) hr rfl r5.1 (fun b n g i hb=>ht.cell b n g i hb) r1 r4 r5.2 r2 r3 (keep := false) (by simp only [finish,hf]; rfl)
def VJ:Kind→Kind
 | .own _=>.list 0 .outer
 | .list n (.cell _ _)=>.list n .outer
 | k=>k
def Jp:Kind→Bool
 | .own _=>true
 | .list _ (.cell _ _)=>true
 | _=>false
theorem Zg4 {k:Kind}{o:Nat}(h:QB o k):QB o (VJ k):=by
 cases k with
 | imm=>trivial
 | own g=>exact h.elim
 | list n l=>cases l <;> exact h
theorem Zg5 {k:Kind}{g:Nat}:VJ k≠.own g:=by
 cases k with
 | imm=>simp [VJ]
 | own g=>simp [VJ]
 | list n l=>cases l <;> simp [VJ]
theorem ZlG {k:Kind}(h:Jp k=false):VJ k=k:=by
 cases k with
 | imm=>rfl
 | own g=>cases h
 | list n l=>cases l <;> first | rfl | cases h
theorem ZlF {k:Kind}(h:Jp k=true):Kept none (VJ k):=by
 cases k with
 | imm=>cases h
 | own g=>trivial
 | list n l=>cases l <;> first | trivial | cases h
theorem Zi0 {k:Kind}{o:Nat}(h:Jp k=true)(hf:QB o (VJ k)):QB o k:=by
 cases k with
 | imm=>cases h
 | own g=>exact absurd hf (Nat.not_lt_zero _)
 | list n l=>cases l <;> first | exact hf | cases h
theorem Rep.bare {Γ Γ':Z9}{w:World}{x:AV}{v:Value}(hf:Yn Γ w Γ' w)(h:Rep Γ w x v)(hb:x.bare=true):Rep Γ' w x v:=by
 cases h with
 | agg cells cv hs h1 hn hr =>
  refine .agg cells cv hs h1 hn fun j c hc=>(hr j c hc).noId hf ?_
  exact List.all_eq_true.1 hb c (List.mem_of_getElem? hc)
 | _=>exact Rep.noId hf (by constructor <;> assumption) hb
theorem Zg6 {P:Program}{W0:World}{call:FuncId→List AV→List Zl→Option (AV×List Zl×Eff)}(hS:Yc P W0 call):Yc P W0 (Yr call):=by
 intro f args hp v hp' e h Γ w xs hr ht hs hx
 have hc:args.all AV.bare=true∧UT call f args []=some (v,[],none)∧hp'=hp∧e=none:=by
  unfold Yr at h
  split at h <;> first | (cases h; done) | skip
  rename_i hb
  split at h <;> first | (cases h; done) | skip
  rename_i v0 hp0 hc
  split at h <;> first | (cases h; done) | skip
  rename_i v1 hf
  cases h
  refine ⟨hb,?_,rfl,rfl⟩
  unfold UT
  rw [hc]
  simp only [List.length_nil]
  rw [hf]
 obtain ⟨hb,hc,rfl,rfl⟩:=hc
 have f1:Yn Γ w (fun b=>VJ (Γ b)) w:=fun _ _ _ h1 h2=>⟨Zg4 h1,h2⟩
 have hr1:RW W0 (fun b=>VJ (Γ b)) w []:=⟨fun g o hg=>by simp at hg,fun b b' g hb=>absurd hb Zg5,fun b hb=>by simp [hr.fresh b hb,VJ],fun b g hb=>absurd hb Zg5,hr.old,fun b hb=>by simp [hr.oldImm b hb,VJ],fun g hg=>by simp at hg⟩
 have ht1:Tidy (fun b=>VJ (Γ b)) 0:=by
  refine ⟨fun b m h=>?_,fun b m j h=>?_,fun b m g i h=>?_⟩
  ·have:=ht.res b m
   cases hg:Γ b with
   | imm=>simp [hg,VJ] at h
   | own g=>simp [hg,VJ] at h
   | list n l=>cases l <;> simp [hg,VJ] at h this <;> omega
  ·have:=ht.arg b m j
   cases hg:Γ b with
   | imm=>simp [hg,VJ] at h
   | own g=>simp [hg,VJ] at h
   | list n l=>cases l <;> simp [hg,VJ] at h this <;> omega
  ·cases hg:Γ b with
   | imm=>simp [hg,VJ] at h
   | own g=>simp [hg,VJ] at h
   | list n l=>cases l <;> simp [hg,VJ] at h
 refine (Zb8 hS f args [] v [] none hc (fun b=>VJ (Γ b)) w xs hr1 ht1 hs fun j x hj=>?_).mono fun cv w' ⟨Γ',r1,r2,r3,r4,r5⟩=>?_
 ·obtain ⟨q1,q2⟩:=hx j x hj
  have hbx:=List.all_eq_true.1 hb x (List.mem_of_getElem? hj)
  refine ⟨q1.bare f1 hbx,fun k rows e=>?_⟩
  rcases q2 k rows e with h | ⟨b,cap,e,cur,h1,h2,h3,h4,h5,h6,h7,h8⟩
  ·exact .inl h
  ·exact .inr ⟨b,cap,e,cur,h1,by simp [h2,VJ],h3,h4,h5,h6,h7,fun i j r c hi hj=>⟨(h8 i j r c hi hj).1,(h8 i j r c hi hj).2.noId f1 (h8 i j r c hi hj).1⟩⟩
 ·have lt:∀ b,Γ b≠.imm→b < w.heap.size:=fun b hb=>by
   rcases Nat.lt_or_ge b w.heap.size with h' | h'
   ·exact h'
   ·exact absurd (hr.fresh b h') hb
  have lost:∀ b,Jp (Γ b)=true→Γ' b=VJ (Γ b)∧w'.heap[b]? = w.heap[b]?:=fun b hb=>r4.keep b (lt b fun e=>by rw [e] at hb; cases hb) (ZlF hb)
  let Γ2:Z9:=fun b=>if Jp (Γ b)=true then Γ b else Γ' b
  have g1:∀ b,Jp (Γ b)=true→Γ2 b=Γ b:=fun b hb=>if_pos hb
  have g2:∀ b,¬ Jp (Γ b)=true→Γ2 b=Γ' b:=fun b hb=>if_neg hb
  have fix:Yn Γ w Γ2 w':=fun b o y h1 h2=>by
   obtain ⟨k1,k2⟩:=r4.fix b o y (Zg4 h1) h2
   refine ⟨?_,k2⟩
   unfold MJ
   by_cases hb:Jp (Γ b)=true
   ·rw [g1 b hb]; exact h1
   ·rw [g2 b hb]; exact k1
  have own:YD Γ Γ2:=fun b g hb=>by rw [g1 b (by rw [hb]; rfl)]; exact hb
  have ownI:∀ b g,Γ2 b=.own g→Γ b=.own g:=fun b g hb=>by
   by_cases hl:Jp (Γ b)=true
   ·rw [g1 b hl] at hb; exact hb
   ·rw [g2 b hl] at hb; exact absurd (r1.lt b g hb) (Nat.not_lt_zero _)
  have fix2:Yn Γ' w' Γ2 w':=fun b o y h1 h2=>by
   refine ⟨?_,h2⟩
   unfold MJ at h1 ⊢
   by_cases hb:Jp (Γ b)=true
   ·rw [g1 b hb]
    rw [(lost b hb).1] at h1
    exact Zi0 hb h1
   ·rw [g2 b hb]; exact h1
  have own2:YD Γ' Γ2:=fun b g hb=>absurd (r1.lt b g hb) (Nat.not_lt_zero _)
  have keepL:∀ b,Jp (Γ b)=true→Γ2 b=Γ b∧w'.heap[b]? = w.heap[b]?:=fun b hb=>⟨g1 b hb,(lost b hb).2⟩
  have imm2:∀ b,Γ' b=.imm→Jp (Γ b)=false→Γ2 b=.imm:=fun b h1 h2=>by rw [g2 b (by rw [h2]; simp)]; exact h1
  refine ⟨Γ2,⟨fun g o hg=>?_,fun b b' g h1 h2=>hr.inj b b' g (ownI b g h1) (ownI b' g h2),fun b hb=>?_,fun b g hb=>hr.lt b g (ownI b g hb),r1.old,fun b hb=>?_,fun g hg b hb=>hr.dead g hg b (ownI b g hb)⟩,r2.mono fix2 own2,r3.mono fix2 own2 fun b n hb=>⟨?_,rfl⟩,
   ⟨r4.os,r4.tape,r4.output,r4.size,fix,own,fun b hb hk=>?_⟩,Nat.le_refl _,fun b g hb _=>ownI b g hb⟩
  ·have hold:=hr.objs g o hg
   cases o with
   | dead=>trivial
   | cells cs t =>
    obtain ⟨b,C,h1,h2,h3,h4⟩:=hold
    obtain ⟨k1,k2⟩:=keepL b (by rw [h1]; rfl)
    refine ⟨b,C,k1.trans h1,k2.trans h2,h3,fun i c hc=>?_⟩
    obtain ⟨a1,a2,a3⟩:=h4 i c hc
    refine ⟨a1,a2.mono fix own,a3.mono fix own fun b n hb=>?_⟩
    obtain ⟨k1,k2⟩:=keepL b (by rw [hb]; rfl)
    exact ⟨k1.trans hb,k2⟩
   | map es =>
    obtain ⟨b,ms,clk,h1,h2,h3,h4⟩:=hold
    obtain ⟨k1,k2⟩:=keepL b (by rw [h1]; rfl)
    exact ⟨b,ms,clk,k1.trans h1,k2.trans h2,h3,h4⟩
   | iter l pos =>
    obtain ⟨b,h1,h2⟩:=hold
    obtain ⟨k1,k2⟩:=keepL b (by rw [h1]; rfl)
    exact ⟨b,k1.trans h1,k2.trans h2⟩
   | buf _ _ _ =>
    obtain ⟨b,C,h1,h2,h3⟩:=hold
    obtain ⟨k1,k2⟩:=keepL b (by rw [h1]; rfl)
    refine ⟨b,C,k1.trans h1,k2.trans h2,h3.mono fun b n i hb=>?_⟩
    obtain ⟨k1,k2⟩:=keepL b (by rw [hb]; rfl)
    exact ⟨k1.trans hb,k2⟩
  ·refine imm2 b (r1.fresh b hb) ?_
   rw [hr.fresh b (Nat.le_trans r4.size hb)]; rfl
  ·refine imm2 b (r1.oldImm b hb) ?_
   rw [hr.oldImm b hb]; rfl
  ·by_cases hl:Jp (Γ b)=true
   ·have:=(lost b hl).1
    rw [hb] at this
    cases hg:Γ b with
    | imm=>simp [hg,VJ] at this
    | own g=>simp [hg,VJ] at this
    | list n l=>cases l <;> simp [hg,VJ] at this <;> (rw [hg] at hl; cases hl)
   ·rw [g2 b hl]; exact hb
  ·by_cases hl:Jp (Γ b)=true
   ·exact keepL b hl
   ·have hsame:=ZlG (by simpa using hl:Jp (Γ b)=false)
    obtain ⟨k1,k2⟩:=r4.keep b hb (by show Kept none (VJ (Γ b)); rw [hsame]; exact hk)
    exact ⟨by rw [g2 b hl,k1]; exact hsame,k2⟩
def Zv8:AV→Bool
 | .own _ r=>r.all fun l=>l.all AV.flat1
 | v=>v.flat
def ZiE (call:FuncId→List AV→List Zl→Option (AV×List Zl×Eff))(f:FuncId)(args:List AV)(hp:List Zl):Option (AV×List Zl×Eff) :=
 match args.mapM (frz 0 hp) with
 | some as=>match call f as [] with
  | some (v,hp',none)=>match frz 0 hp' v with
   | some v'=>if Zv8 v' then some (v',hp,none) else none
   | none=>none
  | _=>none
 | none=>none
theorem Zek {k:Kind}{g:Nat}:Wu 0 k≠.own g:=fun h=>absurd (QY h).2 (Nat.not_lt_zero _)
theorem ZbD {k:Kind}(h:Jp k=false):Wu 0 k=k:=by
 cases k with
 | imm=>rfl
 | own g=>cases h
 | list n l=>cases l <;> first | rfl | cases h
theorem Pv {k:Kind}(h:Jp k=true):Wu 0 k=.imm:=by
 cases k with
 | imm=>cases h
 | own g=>rfl
 | list n l=>cases l <;> first | rfl | cases h
theorem ZqF {P:Program}{W0:World}{call:FuncId→List AV→List Zl→Option (AV×List Zl×Eff)}(hS:Yc P W0 call):Yc P W0 (ZiE call):=by
 intro f args hp v hp' e h Γ w xs hr ht hs hx
 unfold ZiE at h
 split at h <;> first | (cases h; done) | skip
 rename_i as hm
 have hc:UT call f as []=some (v,[],none)∧Zv8 v=true∧hp'=hp∧e=none:=by
  split at h <;> first | (cases h; done) | skip
  rename_i v0 hp0 hc
  split at h <;> first | (cases h; done) | skip
  rename_i v1 hf
  split at h <;> first | (cases h; done) | skip
  rename_i hfree
  cases h
  refine ⟨?_,hfree,rfl,rfl⟩
  unfold UT
  rw [hc]
  simp only [List.length_nil]
  rw [hf]
 clear h
 obtain ⟨hc,hfree,rfl,rfl⟩:=hc
 obtain ⟨m1,m2⟩:=Sr hm
 have f1:Yn Γ w (fun b=>Wu 0 (Γ b)) w:=fun _ _ _ h1 h2=>⟨IM h1,h2⟩
 have hr1:RW W0 (fun b=>Wu 0 (Γ b)) w []:=⟨fun g o hg=>by simp at hg,fun b b' g hb=>absurd hb Zek,fun b hb=>by simp [hr.fresh b hb,Wu],fun b g hb=>absurd hb Zek,hr.old,fun b hb=>by simp [hr.oldImm b hb,Wu],fun g hg=>by simp at hg⟩
 have keepL:∀ k m l,Wu 0 k=.list m l→k=.list m l:=fun k m l h=>by
  cases hl:Jp k with
  | true=>rw [Pv hl] at h; cases h
  | false=>rw [ZbD hl] at h; exact h
 have ht1:Tidy (fun b=>Wu 0 (Γ b)) 0:=by
  refine ⟨fun b m h=>ht.res b m (keepL _ _ _ h),fun b m j h=>ht.arg b m j (keepL _ _ _ h),fun b m g i h=>?_⟩
  have:=keepL _ _ _ h
  rw [this] at h
  cases h
 refine (Zb8 hS f as [] v [] none hc (fun b=>Wu 0 (Γ b)) w xs hr1 ht1 (by rw [hs,m1]) fun j x hj=>?_).mono fun cv w' ⟨Γ',r1,r2,r3,r4,r5⟩=>?_
 ·obtain ⟨y,y1,y2⟩:=m2 j x hj
  obtain ⟨q1,q2⟩:=hx j y y1
  have other:LM 0 hp' y=some x→Rep (fun b=>Wu 0 (Γ b)) w x (xs.getD j Go.undef)∧OwnAt (fun b=>Wu 0 (Γ b)) w (.slot j) x (xs.getD j Go.undef):=fun h=>by
   obtain ⟨h1,h2⟩:=Ac hr h q1
   exact ⟨h1,.of_ne h2⟩
  cases y with
  | own k r =>
   have:x=.own k r:=(Option.some.inj y2).symm
   subst this
   exact ⟨q1.noId f1 rfl,q2.fix f1 fun b n hb=>⟨by simp [hb,Wu],rfl⟩⟩
  | tup vs =>
   obtain ⟨h1,h2⟩:=Zsl hr y2 q1 (.of_ne (by simp))
   obtain ⟨vs',_,e⟩:=Option.map_eq_some_iff.1 (show (vs.mapM (LM 0 hp')).map AV.tup=some x from y2)
   subst e
   exact ⟨h1,.of_ne (by simp)⟩
  | _=>exact other y2
 ·have lt:∀ b,Γ b≠.imm→b < w.heap.size:=fun b hb=>by
   rcases Nat.lt_or_ge b w.heap.size with h' | h'
   ·exact h'
   ·exact absurd (hr.fresh b h') hb
  have lost:∀ b,Jp (Γ b)=true→Γ' b=.imm∧w'.heap[b]? = w.heap[b]?:=fun b hb=>by
   obtain ⟨k1,k2⟩:=r4.keep b (lt b fun e=>by rw [e] at hb; cases hb) (by show Kept none (Wu 0 (Γ b)); rw [Pv hb]; trivial)
   exact ⟨k1.trans (Pv hb),k2⟩
  let Γ2:Z9:=fun b=>if Jp (Γ b)=true then Γ b else Γ' b
  have g1:∀ b,Jp (Γ b)=true→Γ2 b=Γ b:=fun b hb=>if_pos hb
  have g2:∀ b,¬ Jp (Γ b)=true→Γ2 b=Γ' b:=fun b hb=>if_neg hb
  have fix:Yn Γ w Γ2 w':=fun b o y h1 h2=>by
   obtain ⟨k1,k2⟩:=r4.fix b o y (IM h1) h2
   refine ⟨?_,k2⟩
   unfold MJ
   by_cases hb:Jp (Γ b)=true
   ·rw [g1 b hb]; exact h1
   ·rw [g2 b hb]; exact k1
  have own:YD Γ Γ2:=fun b g hb=>by rw [g1 b (by rw [hb]; rfl)]; exact hb
  have ownI:∀ b g,Γ2 b=.own g→Γ b=.own g:=fun b g hb=>by
   by_cases hl:Jp (Γ b)=true
   ·rw [g1 b hl] at hb; exact hb
   ·rw [g2 b hl] at hb; exact absurd (r1.lt b g hb) (Nat.not_lt_zero _)
  have keepO:∀ b,Jp (Γ b)=true→Γ2 b=Γ b∧w'.heap[b]? = w.heap[b]?:=fun b hb=>⟨g1 b hb,(lost b hb).2⟩
  have imm2:∀ b,Γ' b=.imm→Jp (Γ b)=false→Γ2 b=.imm:=fun b h1 h2=>by rw [g2 b (by rw [h2]; simp)]; exact h1
  have resOwn:OwnAt Γ2 w' .res v cv:=fun k rows e=>by
   subst e
   rcases r3 k rows rfl with h | ⟨b,cap,e,cur,h1,h2,h3,h4,h5,h6,h7,h8⟩
   ·exact .inl h
   ·refine .inr ⟨b,cap,e,cur,h1,?_,h3,h4,h5,h6,h7,fun i j r c hi hj=>⟨(h8 i j r c hi hj).1,IR (h8 i j r c hi hj).2 ?_⟩⟩
    ·rw [g2 b fun hl=>by rw [(lost b hl).1] at h2; cases h2]; exact h2
    ·have:=List.all_eq_true.1 (show (rows.all fun l=>l.all AV.flat1)=true from hfree) r (List.mem_of_getElem? hi)
     exact List.all_eq_true.1 this c (List.mem_of_getElem? hj)
  have resRep:Rep Γ2 w' v cv:=by
   cases v with
   | own k rows=>exact resOwn.rep
   | _=>exact Si r2 hfree
  refine ⟨Γ2,⟨fun g o hg=>?_,fun b b' g h1 h2=>hr.inj b b' g (ownI b g h1) (ownI b' g h2),fun b hb=>?_,fun b g hb=>hr.lt b g (ownI b g hb),r1.old,fun b hb=>?_,fun g hg b hb=>hr.dead g hg b (ownI b g hb)⟩,resRep,resOwn,
   ⟨r4.os,r4.tape,r4.output,r4.size,fix,own,fun b hb hk=>?_⟩,Nat.le_refl _,fun b g hb _=>ownI b g hb⟩
  ·have hold:=hr.objs g o hg
   cases o with
   | dead=>trivial
   | cells cs t =>
    obtain ⟨b,C,h1,h2,h3,h4⟩:=hold
    obtain ⟨k1,k2⟩:=keepO b (by rw [h1]; rfl)
    refine ⟨b,C,k1.trans h1,k2.trans h2,h3,fun i c hc=>?_⟩
    obtain ⟨a1,a2,a3⟩:=h4 i c hc
    refine ⟨a1,a2.mono fix own,a3.mono fix own fun b n hb=>?_⟩
    obtain ⟨k1,k2⟩:=keepO b (by rw [hb]; rfl)
    exact ⟨k1.trans hb,k2⟩
   | map es =>
    obtain ⟨b,ms,clk,h1,h2,h3,h4⟩:=hold
    obtain ⟨k1,k2⟩:=keepO b (by rw [h1]; rfl)
    exact ⟨b,ms,clk,k1.trans h1,k2.trans h2,h3,h4⟩
   | iter l pos =>
    obtain ⟨b,h1,h2⟩:=hold
    obtain ⟨k1,k2⟩:=keepO b (by rw [h1]; rfl)
    exact ⟨b,k1.trans h1,k2.trans h2⟩
   | buf _ _ _ =>
    obtain ⟨b,C,h1,h2,h3⟩:=hold
    obtain ⟨k1,k2⟩:=keepO b (by rw [h1]; rfl)
    refine ⟨b,C,k1.trans h1,k2.trans h2,h3.mono fun b n i hb=>?_⟩
    obtain ⟨k1,k2⟩:=keepO b (by rw [hb]; rfl)
    exact ⟨k1.trans hb,k2⟩
  ·refine imm2 b (r1.fresh b hb) ?_
   rw [hr.fresh b (Nat.le_trans r4.size hb)]; rfl
  ·refine imm2 b (r1.oldImm b hb) ?_
   rw [hr.oldImm b hb]; rfl
  ·by_cases hl:Jp (Γ b)=true
   ·exact keepO b hl
   ·have hsame:=ZbD (by simpa using hl:Jp (Γ b)=false)
    obtain ⟨k1,k2⟩:=r4.keep b hb (by show Kept none (Wu 0 (Γ b)); rw [hsame]; exact hk)
    exact ⟨by rw [g2 b hl,k1]; exact hsame,k2⟩
def ZiO (S:List Nat)(call:FuncId→List AV→List Zl→Option (AV×List Zl×Eff))(f:FuncId)(args:List AV)(hp:List Zl):Option (AV×List Zl×Eff) :=
 match S.elem f with
 | true=>ZiE call f args hp
 | false=>call f args hp
theorem ZqU {P:Program}{W0:World}{call:FuncId→List AV→List Zl→Option (AV×List Zl×Eff)}(S:List Nat)(hS:Yc P W0 call):Yc P W0 (ZiO S call):=by
 intro f args hp v hp' e h
 unfold ZiO at h
 split at h
 ·exact ZqF hS f args hp v hp' e h
 ·exact hS f args hp v hp' e h
end Go.Proofs.YtgjcjbhhhlelnaaGreatDoor.Abs
end
section
namespace Go.Proofs.YtgjcjbhhhlelnaaGreatDoor.Abs
open Go Go.RowKit
section
variable {G:Nat→Option (List AV)}{call:FuncId→List AV→List Zl→Option (AV×List Zl×Eff)}
theorem ZnM {s s':Zb}{ao:AOp}{v:AV}(h:Ze G call s ao=some (v,s')):s'.bs=s.bs:=by
 cases ao <;> simp only [Ze] at h <;> (repeat' split at h) <;> first
  | (cases h; done)
  | (obtain ⟨_,rfl⟩:=YM h; rfl)
  | (cases h; rfl)
  | (obtain ⟨x,_,e⟩:=Option.map_eq_some_iff.1 h; cases e; rfl)
theorem Zs5 (s:Zb)(d:Option Nat)(v:AV):(s.put d v).bs=s.bs:=by cases d <;> rfl
theorem J5:∀ {l:List ZN} {s s':Zb},ZC G call l s=some s'→s'.bs=s.bs
 | [],s,s',h=>by cases h; rfl
 | o :: l,s,s',h=>by
  simp only [ZC] at h
  split at h <;> first | (cases h; done) | skip
  rename_i s1 h1
  rw [J5 h]
  simp only [Zx] at h1
  split at h1 <;> first | (cases h1; done) | skip
  ·split at h1 <;> first | (cases h1; done) | skip
   rename_i v s2 h2
   obtain rfl:=Option.some.inj h1
   rw [Zs5,ZnM h2]
  ·obtain rfl:=Option.some.inj h1
   rw [Zs5]
theorem ZiI {f:Zb→Option (Ii×Zb)}(hf:∀ {s:Zb} {r:Ii×Zb},f s=some r→r.2.bs=s.bs):∀ (n:Nat) {s:Zb} {r:Ii×Zb},iter f n s=some r→r.2.bs=s.bs
 | 0,_,_,h=>by cases h
 | n + 1,s,r,h=>by
  simp only [iter] at h
  split at h
  ·rename_i s1 h1
   rw [ZiI hf n h]
   exact hf h1
  ·exact hf h
theorem Zi8 (L:Nat):∀ {c:Wn} {s:Zb} {r:Ii×Zb},Zv G call L c s=some r→r.2.bs=s.bs:=by
 intro c
 induction c with
 | skip=>intro s r h; cases h; rfl
 | region draw ops =>
  intro s r h
  cases draw with
  | false =>
   simp only [Zv] at h
   obtain ⟨s1,h1,rfl⟩:=Option.map_eq_some_iff.1 h
   exact J5 h1
  | true =>
   simp only [Zv] at h
   obtain ⟨s1,h1,rfl⟩:=Option.map_eq_some_iff.1 h
   exact J5 h1
 | regionB ops =>
  intro s r h
  simp only [Zv] at h
  obtain ⟨s1,h1,rfl⟩:=Option.map_eq_some_iff.1 h
  exact J5 h1
 | seq x y ihx ihy =>
  intro s r h
  simp only [Zv] at h
  split at h
  ·rename_i s1 h1
   rw [ihy h]; exact ihx h1
  ·exact ihx h
 | cond c x y ihx ihy =>
  intro s r h
  simp only [Zv] at h
  split at h <;> first | (cases h; done) | skip
  ·exact ihx h
  ·exact ihy h
 | block id c ih =>
  intro s r h
  simp only [Zv] at h
  split at h
  ·rename_i i s1 h1
   have:=ih h1
   split at h <;> (obtain rfl:=Option.some.inj h; exact this)
  ·exact ih h
 | loop c ih =>
  intro s r h
  simp only [Zv] at h
  exact ZiI ih L h
 | scope c ih=>intro s r h; simp only [Zv] at h; exact ih h
 | exit id=>intro s r h; cases h; rfl
 | ret=>intro s r h; cases h; rfl
 | bad=>intro s r h; cases h
end
structure Zdk (P:Program)(W0:World)(C:Cfg):Prop where
 mixed:P.follows .mixedOrders=true
 globals:GOk C.G W0
 table:∀ f af,C.T f=some af→∃ fn takes,P.funcs[f]? = some fn∧(fn.name == "runtime.NumGoroutine")=false∧cFn P takes fn=some af
 oracle:Yc P W0 C.O
theorem NY {P:Program}{f:FuncId}{fn:Func}{c:Code}(hf:P.funcs[f]? = some fn)(hn:(fn.name == "runtime.NumGoroutine")=false)(hb:fn.body=some c)(xs:Array Value)(w:World):(callFunc f xs).run P w=.ok (.enter f xs) w:=by
 have hn':¬ fn.name = "runtime.NumGoroutine" := by simpa using hn
 simp [callFunc,program,hf,hn',hb,Sem.run]
theorem O3 {P:Program}{W0:World}{C:Cfg}(h:Zdk P W0 C):∀ n,Yc P W0 (Z5 C n):=by
 intro n
 induction n with
 | zero=>intro f args hp v hp' e hc; cases hc
 | succ n ih =>
  intro f args hp v hp' e hc Γ w xs hr ht hs hx
  simp only [Z5] at hc
  split at hc
  case h_2=>exact h.oracle f args hp v hp' e hc Γ w xs hr ht hs hx
  rename_i af haf
  obtain ⟨fn,takes,hf,hname,hcf⟩:=h.table f af haf
  unfold cFn at hcf
  split at hcf <;> first | (cases hcf; done) | skip
  rename_i c rs hb hrs
  obtain ⟨ac,hac,rfl⟩:=Option.map_eq_some_iff.1 hcf
  split at hc
  ·cases hc
  ·rename_i x s hne hev
   split at hc <;> first | (cases hc; done) | skip
   rename_i u hu
   have hfin:=Option.some.inj hc
   refine ⟨NY hf hname hb xs w,?_⟩
   have hbs:s.bs=hp.length:=Zi8 C.L hev
   have hI:Inv ⟨W0,Γ,w⟩ ⟨args ++ List.replicate (fn.ntmps - args.length) .undef,hp,none,hp.length⟩ Γ { tmps := xs ++ Array.replicate (fn.ntmps - xs.size) Go.undef,defers := [] } w:=by
    have get:∀ (t:Nat) (y:AV),(args ++ List.replicate (fn.ntmps - args.length) AV.undef)[t]? = some y→(args[t]? = some y∧(xs ++ Array.replicate (fn.ntmps - xs.size) Go.undef).getD t Go.undef=xs.getD t Go.undef)∨(y=.undef∧(xs ++ Array.replicate (fn.ntmps - xs.size) Go.undef).getD t Go.undef=Go.undef):=by
     intro t y hy
     rw [List.getElem?_append] at hy
     split at hy
     ·rename_i hlt
      refine .inl ⟨hy,?_⟩
      rw [Array.getD_eq_getD_getElem?,Array.getD_eq_getD_getElem?,Array.getElem?_append_left (by omega)]
     ·rename_i hge
      have hm:=List.mem_of_getElem? hy
      have:=List.eq_of_mem_replicate hm
      refine .inr ⟨this,?_⟩
      have hlt:=Zq hy
      simp only [List.length_replicate] at hlt
      rw [Array.getD_eq_getD_getElem?,Array.getElem?_append_right (by omega),Array.getElem?_replicate,if_pos (by omega)]
      rfl
    refine ⟨rfl,⟨by simp [hs],fun t y hy=>?_,fun t y hy=>?_⟩,hr,.refl _ _ _,fun b g hb=>hr.lt b g hb,fun b m g i hb=>ht.cell b m g i hb,Nat.le_refl _,fun _ _ hb _=>hb⟩
    ·rcases get t y hy with ⟨h1,h2⟩ | ⟨rfl,h2⟩
     ·rw [h2]; exact (hx t y h1).1
     ·rw [h2]; exact .undef
    ·rcases get t y hy with ⟨h1,h2⟩ | ⟨rfl,h2⟩
     ·rw [h2]; exact (hx t y h1).2
     ·exact .of_ne (by simp)
   have hw:=Ztf h.mixed h.globals ih (Zg6 ih) C.L hac hev hI
   refine calls_of_wp hf hb (Go.wp_mono hw fun en a' w' he=>?_)
   obtain ⟨k1,Γ',i1⟩:=he
   have fin:a'.defers=[]∧∃ cv,(results fn a'.tmps).run P w'=.ok cv w'∧∃ v',Ending.returned cv=.returned v'∧∃ Γ',RW W0 Γ' w' hp'∧Rep Γ' w' v v'∧OwnAt Γ' w' .res v v'∧Frame Γ w Γ' w' e∧hp.length≤hp'.length∧∀ b g,Γ' b=.own g→g < hp.length→Γ b=.own g:=by
    obtain ⟨cv,Γ2,q1,q2,q3,q4,q5,q6⟩:=Zs7 i1 hrs hu
    obtain ⟨Γ3,p1,p2,p3,p4,p5⟩:=ZbO hr hbs (by rw [hbs]; have:=i1.le; simpa [hbs] using this) (fun b m g i hb=>by rw [hbs]; exact ht.cell b m g i hb) q2 q3 q6 q4 q5 hfin
    exact ⟨i1.defers,cv,q1,cv,rfl,Γ3,p1,p2,p3,p4,p5⟩
   cases x with
   | exit i=>exact (hne i rfl).elim
   | normal=>cases en <;> first | exact k1.elim | exact fin
   | ret=>cases en <;> first | exact k1.elim | exact fin
  ·cases hc
end Go.Proofs.YtgjcjbhhhlelnaaGreatDoor.Abs
end
section
namespace Go.Proofs.YtgjcjbhhhlelnaaGreatDoor.Abs
open Go Go.RowKit
def still:Z9:=fun _=>.imm
theorem ZfS (W:World):RW W still W [] :=
 ⟨fun g o hg=>by simp at hg,fun b b' g h=>(by cases h),fun _ _=>rfl,fun b g h=>(by cases h),⟨rfl,rfl,rfl,Nat.le_refl _,fun _ _=>rfl⟩,fun _ _=>rfl,fun g hg=>by simp at hg⟩
theorem AO:Tidy still 0:=⟨fun _ _ h=>(by cases h),fun _ _ _ h=>(by cases h),fun _ _ _ _ h=>(by cases h)⟩
theorem ZvV {P:Program}{W:World}{C:Cfg}(h:Zdk P W C){n:Nat}{f:FuncId}{avs:List AV}{hp:List Zl}{e:Eff}(hev:Z5 C n f avs []=some (.bool true,hp,e)){args:Array Value}
  (hs:args.size=avs.length) (hr:∀ (j:Nat) (x:AV),avs[j]? = some x→Rep still W x (args.getD j Go.undef)∧∀ k r,x≠.own k r) :
  Calls P f args W fun e W'=>e=.returned (.bool true)∧Below W.heap.size W W':=by
 obtain ⟨_,hw⟩:=O3 h n f avs [] _ _ _ hev still W args (ZfS W) AO hs fun j x hx=>⟨(hr j x hx).1,.of_ne (hr j x hx).2⟩
 refine hw.mono fun en W' ⟨cv,hv,Γ',r1,r2,_,r4,_⟩=>?_
 subst hv
 cases r2
 exact ⟨rfl,r4.os,r4.tape,r4.output,r4.size,fun b hb=>(r4.keep b hb trivial).2⟩
end Go.Proofs.YtgjcjbhhhlelnaaGreatDoor.Abs
end
section
namespace Go.Proofs.YtgjcjbhhhlelnaaGreatDoor.Abs
open Go Go.RowKit
def Za6 (P:Program)(W0:World)(f:FuncId)(args:List AV)(v:AV):Prop :=
 (∀ k r,v≠.own k r)∧∀ (Γ:Z9) (w:World) (xs:Array Value),Below W0.heap.size W0 w→(∀ b,w.heap.size≤b→Γ b=.imm)→xs.size=args.length→(∀ (j:Nat) (x:AV),args[j]? = some x→Rep Γ w x (xs.getD j Go.undef)) →
  ZsK P f xs w fun cv w'=>Below w.heap.size w w'∧Rep Γ w' v cv
theorem Gx {P:Program}{W0:World}{O:FuncId→List AV→Option AV}(h:∀ f args v,O f args=some v→Za6 P W0 f args v) :
  Yc P W0 fun f args hp=>(O f args).map fun v=>(v,hp,none):=by
 intro f args hp v hp' e ho Γ w xs hr _ hs hx
 obtain ⟨u,hu,e1⟩:=Option.map_eq_some_iff.1 ho
 cases e1
 obtain ⟨hown,hrun⟩:=h f args v hu
 refine (hrun Γ w xs hr.old hr.fresh hs fun j x hj=>(hx j x hj).1).mono fun cv w' ⟨hb,hv⟩=>?_
 have st:Step Γ w Γ w' fun _=>False:=⟨hb.os,hb.tape,hb.output,hb.size,fun b hbl _=>⟨rfl,hb.block b hbl⟩,fun b o v h1 h2=>⟨h1,(IK (hb.block b (lt_of_cell h2))).trans h2⟩,.refl _⟩
 obtain ⟨o1,o2⟩:=II hr.old hr.oldImm st fun _ hx=>hx.elim
 refine ⟨Γ,⟨fun g o hg=>(hr.objs g o hg).step st hr.fresh (fun _ hx=>hx.elim) (fun _ _ _ hx=>hx.elim),hr.inj,fun b hbl=>hr.fresh b (Nat.le_trans hb.size hbl),hr.lt,o1,o2,hr.dead⟩,hv,.of_ne hown,⟨hb.os,hb.tape,hb.output,hb.size,st.fix,.refl _,fun b hbl _=>⟨rfl,hb.block b hbl⟩⟩,Nat.le_refl _,fun _ _ hb _=>hb⟩
theorem Ez {P:Program}{f:FuncId}{fn:Func}{c:Code}{xs:Array Value}{w:World}{R:Value→World→Prop}(hf:P.funcs[f]? = some fn)(hn:(fn.name == "runtime.NumGoroutine")=false)(hb:fn.body=some c)
  (h:Calls P f xs w fun e w'=>∃ v,e=.returned v∧R v w'):ZsK P f xs w R:=⟨NY hf hn hb xs w,h⟩
end Go.Proofs.YtgjcjbhhhlelnaaGreatDoor.Abs
end
section
namespace Go.Proofs.YtgjcjbhhhlelnaaGreatDoor.Abs
open Go
inductive KV where
 | raw (v:AV)
 | cln (v:AV)
def KV.val:KV→AV
 | .raw v=>v
 | .cln v=>v
def KV.rd:KV→AV
 | .raw v=>v.ro
 | .cln v=>v
abbrev BI {α:Type}(b:Bool)(x y:α):α :=
 match b with
 | true=>x
 | false=>y
abbrev Env:=Nat→KV
def Env.set (e:Env)(t:Nat)(v:KV):Env:=fun u=>BI (Nat.beq u t) v (e u)
def Env.put (e:Env)(d:Option Nat)(v:KV):Env :=
 match d with
 | some d=>e.set d v
 | none=>e
abbrev KR:=Option (AV×List Zl×Eff)
abbrev BQ:=Env→List Zl→Eff→KR
abbrev rdK {α:Type}(x:Option α)(k:α→KR):KR :=
 match x with
 | some v=>k v
 | none=>none
def Xt {α:Type}(x:Option α)(k:α→KR):KR :=
 match x with
 | some v=>k v
 | none=>none
def Zhi {α β:Type}(x:Option (α×β))(k:α→β→KR):KR :=
 match x with
 | some (a,b)=>k a b
 | none=>none
def MX {α β γ:Type}(x:Option (α×β×γ))(k:α→β→γ→KR):KR :=
 match x with
 | some (a,b,c)=>k a b c
 | none=>none
def ifK (v:AV)(a b:KR):KR :=
 match v with
 | .bool true=>a
 | .bool false=>b
 | _=>none
def D8 (want:Bool):AV→Option Bool
 | .bool b=>some (b == want)
 | .undef=>some false
 | _=>none
def D9 (g:Option Bool)(x:KR)(hp:List Zl)(ef:Eff)(k:AV→List Zl→Eff→KR):KR :=
 match g with
 | some true=>MX x k
 | some false=>k .undef hp ef
 | none=>none
def Zso (g:Option Bool)(a b:KR):KR :=
 match g with
 | some true=>a
 | some false=>b
 | none=>none
def Zer (c:AV)(want:Bool)(x:KR)(other:Option AV)(hp:List Zl)(ef:Eff)(k:AV→List Zl→Eff→KR):KR :=
 match c with
 | .bool b=>match b == want with
  | true=>MX x k
  | false=>Xt other fun v=>k v hp ef
 | _=>none
def ZuX {α:Type}(x:α)(k:α→KR):KR:=k x
def Zft (bs:Nat)(ef:Eff)(g v:Nat):Eff:=if g < bs then Eff.or ef (some (g,v)) else ef
def Dz (bs:Nat)(ef:Eff):Eff→Eff
 | some (a,b)=>if a < bs then Eff.or ef (some (a,b)) else ef
 | none=>ef
def Zd2 (c a b:AV):Option AV :=
 match c with
 | .bool true=>some a
 | .bool false=>some b
 | _=>none
def ZsU (n:Nat)(v:AV):Option (List AV):=if v.cells.length=n∧v.laid=true then some v.cells else none
def Zzc (e:TypeId)(k:Nat)(vs:List AV)(hp:List Zl):Option (AV×List Zl) :=
 if vs.all (fun v=>v.cells.length == k && v.cells.all AV.noId1) then some (.own k (vs.map fun v=>v.cells.map AV.ro),hp)
 else if vs.all (fun v=>v.cells.length == k && v.laid) then some (.arr hp.length 0 vs.length k,hp ++ [.cells (vs.map AV.cells).flatten e]) else none
def ZvZ (e:TypeId)(k:Nat)(vs:List AV)(hp:List Zl):Option (AV×List Zl) :=
 if vs.all (fun v=>v.cells.length == k && v.laid) then some (.arr hp.length 0 vs.length k,hp ++ [.cells (vs.map AV.cells).flatten e]) else none
def Zzb (bs:Nat)(p:AV)(hp:List Zl)(ef:Eff):Option (AV×List Zl×Eff) :=
 match p with
 | .ptr g o=>match hp[g]? with
  | some (.cells cs t)=>match cs[o]? with
   | some v=>some (v.up,hp.set g (.cells (cs.set o v.ro) t),Zft bs ef g 0)
   | none=>none
  | _=>none
 | _=>none
def stV (bs n:Nat)(p v:AV)(hp:List Zl)(ef:Eff):Option (List Zl×Eff) :=
 match p with
 | .ptr g o=>match hp[g]? with
  | some (.cells cs t)=>if v.cells.length=n∧o + n≤cs.length∧v.laid=true then some (hp.set g (.cells (splice cs o v.cells) t),Zft bs ef g 0) else none
  | _=>none
 | _=>none
def Zxr (bs:Nat)(p v:AV)(hp:List Zl)(ef:Eff):Option (List Zl×Eff) :=
 match p with
 | .ptr g o=>match hp[g]? with
  | some (.cells cs t)=>if v.one=true∧o < cs.length then some (hp.set g (.cells (cs.set o v) t),Zft bs ef g 0) else none
  | _=>none
 | _=>none
def Zfr:AV→Option AV
 | .ref c=>some (.ref c)
 | .ptr g o=>some (.ptr g o)
 | .fn f a c=>some (.fn f a c)
 | _=>none
def Zo9 (e:TypeId)(zero:List AV)(n:AV)(hp:List Zl):Option (AV×List Zl) :=
 match n with
 | .int _ n=>if 0≤n∧n≤4294967296 then some (.arr hp.length 0 n.toNat zero.length,hp ++ [.cells (List.flatten (List.replicate n.toNat zero)) e]) else none
 | _=>none
def Zwi (bs:Nat)(sh:KSh)(m k v:AV)(hp:List Zl)(ef:Eff):Option (List Zl×Eff) :=
 match m with
 | .map g=>match hp[g]? with
  | some (.map es)=>if Ho sh k && v.flat1 then match update sh k v es with
    | some es'=>some (hp.set g (.map es'),Zft bs ef g 0)
    | none=>none
   else none
  | _=>none
 | _=>none
def Zs6 (x:AV)(hp:List Zl):Option (AV×List Zl) :=
 match x with
 | .str b=>some (.ptr hp.length 0,hp ++ [.iter b 0])
 | _=>none
def Zwj (bs:Nat)(x:AV)(hp:List Zl)(ef:Eff):Option (AV×List Zl×Eff) :=
 match x with
 | .ptr g 0=>match hp[g]? with
  | some (.iter b pos)=>if pos < b.length then
    some (.tup [.bool true,.int .i64 pos,.int .i32 (Utf8.decode ⟨b.toArray⟩ pos).1],hp.set g (.iter b (pos + (Utf8.decode ⟨b.toArray⟩ pos).2)),Zft bs ef g 0)
   else some (.tup [.bool false],hp,ef)
  | _=>none
 | _=>none
def Be (x:AV)(i:Nat):Option AV :=
 match x with
 | .tup vs=>(vs[i]?).map AV.ro
 | _=>none
def ZyY (k bytes:Nat)(s x:AV)(hp:List Zl):Option AV :=
 match s with
 | .own k' r=>match rowsOf hp x with
  | some (k'',r')=>if k=k'∧k=k''∧r'.all (·.all AV.noId1)∧(r.length + r'.length) * bytes≤140737488355328 then some (.own k (r ++ r')) else none
  | none=>none
 | _=>none
def Zvo (bytes:Nat)(s x:AV):Option AV :=
 match s,x with
 | .own k r,.str l=>if k=1∧(r.length + l.length) * bytes≤140737488355328 then some (.own 1 (r ++ l.map byteRow)) else none
 | _,_=>none
def Zvn (k bytes:Nat)(x:AV)(hp:List Zl):Option AV :=
 match rowsOf hp x with
 | some (k'',r')=>if k=k''∧r'.all (·.all AV.noId1)∧r'.length * bytes≤140737488355328 then some (.own k r') else none
 | none=>none
def copyV (bs k:Nat)(d x:AV)(hp:List Zl)(ef:Eff):Option (AV×List Zl×Eff) :=
 match d with
 | .arr g off len k''=>match rowsOf hp x,hp[g]? with
  | some (k',r),some (.cells cs t)=>if k=k'∧k=k''∧off + Nat.min r.length len * k≤cs.length∧((r.take (Nat.min r.length len)).flatten.map AV.ro).all AV.one=true then
    some (.int .i64 (Nat.min r.length len:Nat),hp.set g (.cells (splice cs off ((r.take (Nat.min r.length len)).flatten.map AV.ro)) t),Zft bs ef g 0) else none
  | _,_=>none
 | .lst _ []=>match rowsOf hp x with
  | some (k',_)=>if k=k' then some (.int .i64 0,hp,ef) else none
  | none=>none
 | _=>none
def Zwg:List AV→Option AV
 | .int .i64 n :: l=>(minL n l).map fun n=>.int .i64 n
 | _=>none
def Zwf:List AV→Option AV
 | .int .i64 n :: l=>(maxL n l).map fun n=>.int .i64 n
 | _=>none
def Zvv (K:FuncId→List AV→List Zl→KR)(f:AV)(vs:List AV)(hp:List Zl):KR :=
 match f with
 | .fn f first caps=>K f (first.map AV.nm ++ vs ++ caps.map AV.nm) hp
 | _=>none
def Jq:List Nat→Nat→Bool
 | [],_=>true
 | u :: l,t=>BI (Nat.beq u t) false (Jq l t)
def rm (d:Nat):List Nat→List Nat
 | []=>[]
 | u :: l=>BI (Nat.beq u d) (rm d l) (u :: rm d l)
def rmO (d:Option Nat)(P:List Nat):List Nat :=
 match d with
 | some d=>rm d P
 | none=>P
def X5:AOp→Bool
 | .take _ | .stt .. | .app .. | .apps .. => true
 | .call _ args=>args.any fun
  | .inl _=>true
  | .inr _=>false
 | _=>false
def QG (N t:Nat)(want:Bool)(P:List Nat):List Nat→List ZN→Nat
 | _,[]=>0
 | ds,o :: l=>match o.guard,o.dst with
  | some (u,w),some d =>
   BI (((Nat.beq u t && (w == want)) || !Jq ds u) && !Nat.beq d t && !Jq P d && !X5 o.op && Nat.blt d N) (QG N t want P (d :: ds) l + 1) 0
  | _,_=>0
def inA (t:Nat)(w:Bool):List (Nat×Bool)→Bool
 | []=>false
 | (u,v) :: l=>BI (Nat.beq u t && (v == w)) true (inA t w l)
section
variable (G:Nat→Option (List AV))(N bs:Nat)(P:List Nat)
def WH (e:Env):Yl→Option AV
 | .tmp t=>BI ((Nat.blt t N && Jq P t)) (some (e t).rd) (none)
 | .const v=>some v
 | .glob g=>(G g).map .ref
def DD (e:Env):List Yl→Option (List AV)
 | []=>some []
 | x :: l=>match WH G N P e x with
  | some v=>match DD e l with
   | some vs=>some (v :: vs)
   | none=>none
  | none=>none
def ZaB (e:Env):Option Yl→Option (Option AV)
 | none=>some none
 | some x=>match WH G N P e x with
  | some v=>some (some v)
  | none=>none
def mvK (e:Env)(x:Yl)(k:KV→KR):KR :=
 match x with
 | .tmp t=>BI ((Nat.blt t N && Jq P t)) (k (.cln (e t).rd)) none
 | .const v=>k (.raw v)
 | .glob g=>Xt (G g) fun c=>k (.cln (.ref c))
def ZeI:Env→List (Nat ⊕ Yl)→Option (List AV×Env)
 | e,[]=>some ([],e)
 | e,.inl t :: l=>BI ((Nat.blt t N && Jq P t)) (match ZeI (e.set t (.cln (e t).rd)) l with
  | some (vs,e')=>some ((e t).val :: vs,e')
  | none=>none) none
 | e,.inr x :: l=>match WH G N P e x with
  | some v=>match ZeI e l with
   | some (vs,e')=>some (v :: vs,e')
   | none=>none
  | none=>none
variable (K:FuncId→List AV→List Zl→KR)
def opK (e:Env)(hp:List Zl)(ef:Eff)(op:AOp)(k:KV→Env→List Zl→Eff→KR):KR :=
 match op with
 | .bad=>none
 | .mv x=>mvK G N P e x fun v=>k v e hp ef
 | .take t=>BI ((Nat.blt t N && Jq P t)) (k (e t) (e.set t (.cln (e t).rd)) hp ef) none
 | .pick c a b=>rdK (WH G N P e c) fun c=>rdK (WH G N P e a) fun a=>rdK (WH G N P e b) fun b=>Xt (Zd2 c a b) fun v=>k (.raw v) e hp ef
 | .mk t cells=>k (.cln (.ptr hp.length 0)) e (hp ++ [.cells cells t]) ef
 | .box t n x=>rdK (WH G N P e x) fun v=>Xt (ZsU n v) fun cs=>k (.cln (.ptr hp.length 0)) e (hp ++ [.cells cs t]) ef
 | .build zero parts=>rdK (DD G N P e (parts.map (·.2.2))) fun vs=>Xt (fill zero ((parts.zip vs).map fun (p,v)=>(p.1,p.2.1,v.nm))) fun cs=>k (.cln (.agg cs)) e hp ef
 | .lit t n parts=>rdK (DD G N P e parts) fun vs=>Zhi (Zzc t n vs hp) fun v hp'=>k (.raw v) e hp' ef
 | .lita t n parts=>rdK (DD G N P e parts) fun vs=>Zhi (ZvZ t n vs hp) fun v hp'=>k (.raw v) e hp' ef
 | .ldc p=>rdK (WH G N P e p) fun p=>Xt (QH hp p) fun v=>k (.cln v) e hp ef
 | .lda n p=>rdK (WH G N P e p) fun p=>Xt (VB hp n p) fun v=>k (.cln v) e hp ef
 | .ldt p=>rdK (WH G N P e p) fun p=>MX (Zzb bs p hp ef) fun v hp' ef'=>k (.raw v) e hp' ef'
 | .st n p x=>rdK (WH G N P e p) fun p=>rdK (WH G N P e x) fun v=>Zhi (stV bs n p v hp ef) fun hp' ef'=>k (.cln .undef) e hp' ef'
 | .stt p t=>rdK (WH G N P e p) fun p=>BI ((Nat.blt t N && Jq P t)) (Zhi (Zxr bs p (e t).val hp ef) (fun hp' ef'=>k (.cln .undef) (e.set t (.cln (e t).rd)) hp' ef')) none
 | .nilchk x=>rdK (WH G N P e x) fun x=>Xt (Zfr x) fun v=>k (.cln v) e hp ef
 | .bin op sh x y=>rdK (WH G N P e x) fun a=>rdK (WH G N P e y) fun b=>Xt (ZI op sh a b) fun v=>k (.cln v) e hp ef
 | .un op x=>rdK (WH G N P e x) fun a=>Xt (Za4 op a) fun v=>k (.cln v) e hp ef
 | .conv c x=>rdK (WH G N P e x) fun a=>Xt (XP hp c a) fun v=>k (.cln v) e hp ef
 | .mkfn f first caps=>rdK (DD G N P e first) fun us=>rdK (DD G N P e caps) fun vs=>k (.cln (.fn f us vs)) e hp ef
 | .mkmap=>k (.cln (.map hp.length)) e (hp ++ [.map []]) ef
 | .mksl t zero n=>rdK (WH G N P e n) fun n=>Zhi (Zo9 t zero n hp) fun v hp'=>k (.cln v) e hp' ef
 | .slice sh x lo hi=>rdK (WH G N P e x) fun x=>rdK (ZaB G N P e lo) fun lo=>rdK (ZaB G N P e hi) fun hi=>Xt (Vj sh x lo hi) fun v=>k (.cln v) e hp ef
 | .slice3 sh x hi mx=>rdK (WH G N P e x) fun x=>rdK (WH G N P e hi) fun hi=>rdK (WH G N P e mx) fun mx=>Xt (Oc sh x hi mx) fun v=>k (.cln v) e hp ef
 | .fa off x=>rdK (WH G N P e x) fun x=>Xt (NZ off x) fun v=>k (.cln v) e hp ef
 | .fld off n agg x=>rdK (WH G N P e x) fun x=>Xt (D7 off n agg x) fun v=>k (.cln v) e hp ef
 | .ia sh x i=>rdK (WH G N P e x) fun x=>rdK (WH G N P e i) fun i=>Xt (GU sh x i) fun v=>k (.cln v) e hp ef
 | .idx x i=>rdK (WH G N P e x) fun x=>rdK (WH G N P e i) fun i=>Xt (ZbS x i) fun v=>k (.cln v) e hp ef
 | .look sh zero x i ok=>rdK (WH G N P e x) fun x=>rdK (WH G N P e i) fun i=>Xt (ZbZ hp sh zero x i ok) fun v=>k (.raw v) e hp ef
 | .mupd sh m i v=>rdK (WH G N P e m) fun m=>rdK (WH G N P e i) fun i=>rdK (WH G N P e v) fun v=>Zhi (Zwi bs sh m i v hp ef) fun hp' ef'=>k (.cln .undef) e hp' ef'
 | .range x=>rdK (WH G N P e x) fun x=>Zhi (Zs6 x hp) fun v hp'=>k (.cln v) e hp' ef
 | .next x=>rdK (WH G N P e x) fun x=>MX (Zwj bs x hp ef) fun v hp' ef'=>k (.cln v) e hp' ef'
 | .extract x i=>rdK (WH G N P e x) fun x=>Xt (Be x i) fun v=>k (.cln v) e hp ef
 | .len sh x=>rdK (WH G N P e x) fun x=>Xt (Xk hp sh x) fun v=>k (.cln v) e hp ef
 | .app n bytes t x=>BI ((Nat.blt t N && Jq P t)) (rdK (WH G N P e x) (fun x=>Xt (ZyY n bytes (e t).val x hp) fun v=>k (.raw v) (e.set t (.cln (e t).rd)) hp ef)) none
 | .apps bytes t x=>BI ((Nat.blt t N && Jq P t)) (rdK (WH G N P e x) (fun x=>Xt (Zvo bytes (e t).val x) fun v=>k (.raw v) (e.set t (.cln (e t).rd)) hp ef)) none
 | .appn n bytes x=>rdK (WH G N P e x) fun x=>Xt (Zvn n bytes x hp) fun v=>k (.raw v) e hp ef
 | .copy n d x=>rdK (WH G N P e d) fun d=>rdK (WH G N P e x) fun x=>MX (copyV bs n d x hp ef) fun v hp' ef'=>k (.cln v) e hp' ef'
 | .min xs=>rdK (DD G N P e xs) fun vs=>Xt (Zwg vs) fun v=>k (.cln v) e hp ef
 | .max xs=>rdK (DD G N P e xs) fun vs=>Xt (Zwf vs) fun v=>k (.cln v) e hp ef
 | .call f args=>rdK (WH G N P e f) fun f=>rdK (ZeI G N P e args) fun p=>MX (Zvv K f p.1 hp) fun v hp' ef'=>k (.raw v) p.2 hp' (Dz bs ef ef')
def Zuf (A:List (Nat×Bool))(o:ZN)(e:Env)(hp:List Zl)(ef:Eff)(k:BQ):KR :=
 match o.guard with
 | none=>opK G N bs P K e hp ef o.op fun v e' hp' ef'=>k (e'.put o.dst v) hp' ef'
 | some (t,want)=>BI (inA t want A) (opK G N bs P K e hp ef o.op fun v e' hp' ef'=>k (e'.put o.dst v) hp' ef') (BI (Nat.blt t N && Jq P t)
   (BI (X5 o.op)
    (Zso (D8 want (e t).val) (opK G N bs P K e hp ef o.op fun v e' hp' ef'=>k (e'.put o.dst v) hp' ef') (k (e.put o.dst (.cln .undef)) hp ef))
    (D9 (D8 want (e t).val) (opK G N bs P K e hp ef o.op fun v _ hp' ef'=>some (v.val,hp',ef')) hp ef fun v hp' ef'=>k (e.put o.dst (.raw v)) hp' ef'))
   none)
end
section
variable (G:Nat→Option (List AV))(N bs:Nat)(K:FuncId→List AV→List Zl→KR)
def Zob (A:List (Nat×Bool))(P:List Nat)(ops:List ZN):Option (Nat×Bool×Nat×Option Nat×Yl×Yl×List ZN) :=
 match ops with
 | []=>none
 | o :: l=>match o.guard with
  | none=>none
  | some (t,want)=>BI (inA t want A) none
   (match (o :: l).drop (QG N t want P [] (o :: l)) with
   | ⟨d,.pick (.tmp u) a b,none⟩ :: rest=>BI (Nat.beq u t && Nat.blt t N && Jq P t && Nat.blt 0 (QG N t want P [] (o :: l))) (some (t,want,QG N t want P [] (o :: l),d,a,b,rest)) none
   | ⟨d,.pick (.tmp u) a b,some (gt,gw)⟩ :: rest=>BI (inA gt gw A && Nat.beq u t && Nat.blt t N && Jq P t && Nat.blt 0 (QG N t want P [] (o :: l))) (some (t,want,QG N t want P [] (o :: l),d,a,b,rest)) none
   | _=>none)
def ZnO:Nat→List (Nat×Bool)→List Nat→List ZN→List Nat
 | 0,_,P,_=>P
 | _ + 1,_,P,[]=>P
 | n + 1,A,P,o :: l=>match Zob N A P (o :: l) with
  | some (_,_,_,d,_,_,rest)=>ZnO n A (rmO d P) rest
  | none=>ZnO n A (rmO o.dst P) l
def Zlf:Nat→List (Nat×Bool)→List Nat→List ZN→BQ→BQ
 | _,_,_,[],k=>k
 | 0,_,_,_ :: _,_=>fun _ _ _=>none
 | n + 1,A,P,o :: l,k=>match Zob N A P (o :: l) with
  | some (t,want,m,d,a,b,rest)=>fun e hp ef=>Zer (e t).val want
    (Zlf n ((t,want) :: A) P ((o :: l).take m) (fun e' hp' ef'=>rdK (WH G N (ZnO N n ((t,want) :: A) P ((o :: l).take m)) e' (BI want a b)) fun v=>some (v,hp',ef')) e hp ef)
    (WH G N P e (BI want b a)) hp ef fun v hp' ef'=>Zlf n A (rmO d P) rest k (e.put d (.raw v)) hp' ef'
  | none=>fun e hp ef=>Zuf G N bs P K A o e hp ef (Zlf n A (rmO o.dst P) l k)
def ZqR (id:Nat):List (Nat×BQ)→BQ
 | []=>fun _ _ _=>none
 | (i,k) :: l=>BI (Nat.beq i id) (k) (ZqR id l)
def Zdz (F:BQ→BQ):Nat→BQ
 | 0=>fun _ _ _=>none
 | n + 1=>F (Zdz F n)
variable (P:List Nat)(L:Nat)
def QM:Wn→BQ→BQ→List (Nat×BQ)→BQ
 | .skip,n,_,_=>n
 | .region false ops,n,_,_=>Zlf G N bs K ops.length [] P ops n
 | .region true ops,n,_,_=>Zlf G N bs (Qk K) ops.length [] P ops n
 | .regionB ops,n,_,_=>Zlf G N bs (Yr K) ops.length [] P ops n
 | .seq a b,n,r,xs=>QM a (QM b n r xs) r xs
 | .cond c a b,n,r,xs=>fun e hp ef=>rdK (WH G N P e c) fun v=>ifK v (QM a n r xs e hp ef) (QM b n r xs e hp ef)
 | .block id c,n,r,xs=>QM c n r ((id,n) :: xs)
 | .loop c,_,r,xs=>Zdz (fun n'=>QM c n' r xs) L
 | .scope c,n,r,xs=>QM c n r xs
 | .exit id,_,_,xs=>ZqR id xs
 | .ret,_,r,_=>r
 | .bad,_,_,_=>fun _ _ _=>none
end
def Zx8 (e:Env)(N:Nat)(P:List Nat)(hp:List Zl):Zdh→Option AV
 | .tmp t=>BI ((Nat.blt t N && Jq P t)) (some (e t).val) (none)
 | .one t=>BI ((Nat.blt t N && Jq P t)) (QH hp (e t).val) (none)
 | .agg t n=>BI ((Nat.blt t N && Jq P t)) (VB hp n (e t).val) (none)
def ZrF (e:Env)(N:Nat)(P:List Nat)(hp:List Zl):List Zdh→(List AV→KR)→KR
 | [],k=>k []
 | r :: l,k=>rdK (Zx8 e N P hp r) fun v=>ZrF e N P hp l fun vs=>k (v.nm :: vs)
def ZjQ (e:Env)(N:Nat)(P:List Nat)(hp:List Zl):List Zdh→(AV→KR)→KR
 | [r],k=>rdK (Zx8 e N P hp r) k
 | rs,k=>ZrF e N P hp rs fun vs=>k (.tup vs)
def Zal (keep:Bool)(hp0:List Zl)(v:AV)(hp:List Zl)(ef:Eff):AV×List Zl×Eff :=
 bif keep then (v.nm,hp,ef) else finish v ⟨[],hp,ef,hp0.length⟩ hp0
def ZaI (P:List Nat)(fn:AFn)(hp0:List Zl):BQ:=fun e hp ef=>ZjQ e fn.ntmps P hp fn.results fun v=>some (Zal fn.keep hp0 v hp ef)
def ZpZ:List AV→Env
 | []=>fun _=>.raw .undef
 | v :: l=>fun t=>match t with
  | 0=>.raw v
  | t + 1=>ZpZ l t
def fnK (G:Nat→Option (List AV))(K:FuncId→List AV→List Zl→KR)(P:List Nat)(L:Nat)(fn:AFn)(args:List AV)(hp:List Zl):KR :=
 QM G fn.ntmps hp.length K P L fn.code (ZaI P fn hp) (ZaI P fn hp) [] (ZpZ args) hp none
end Go.Proofs.YtgjcjbhhhlelnaaGreatDoor.Abs
end
section
namespace Go.Proofs.YtgjcjbhhhlelnaaGreatDoor.Abs
open Go
theorem Yp {α:Type}{x:Option α}{k:α→KR}{r:AV×List Zl×Eff}(h:Xt x k=some r):∃ v,x=some v∧k v=some r:=by
 cases x with
 | none=>cases h
 | some v=>exact ⟨v,rfl,h⟩
theorem Gn {α β:Type}{x:Option (α×β)}{k:α→β→KR}{r:AV×List Zl×Eff}(h:Zhi x k=some r):∃ a b,x=some (a,b)∧k a b=some r:=by
 cases x with
 | none=>cases h
 | some v=>exact ⟨v.1,v.2,rfl,h⟩
theorem LU {α β γ:Type}{x:Option (α×β×γ)}{k:α→β→γ→KR}{r:AV×List Zl×Eff}(h:MX x k=some r):∃ a b c,x=some (a,b,c)∧k a b c=some r:=by
 cases x with
 | none=>cases h
 | some v=>exact ⟨v.1,v.2.1,v.2.2,rfl,h⟩
theorem NT {α:Type}(x y:α):BI true x y=x:=rfl
theorem Ba {α:Type}(x y:α):BI false x y=y:=rfl
theorem Z4 {α:Type}{x:Option α}{k:α→KR}{r:AV×List Zl×Eff}(h:rdK x k=some r):∃ v,x=some v∧k v=some r:=by
 cases x with
 | none=>cases h
 | some v=>exact ⟨v,rfl,h⟩
theorem VK {α:Type}{b:Bool}{x:Option α}{r:α}(h:BI b x none=some r):b=true∧x=some r:=by
 cases b with
 | false=>cases h
 | true=>exact ⟨rfl,h⟩
def Zit (v:KV):Prop:=v.val.ro=v.rd
theorem LP (v:AV):Zit (.raw v):=rfl
theorem UK {v:AV}(h:v.ro=v):Zit (.cln v):=h
theorem ZhM (v:AV):v.ro.ro=v.ro:=by cases v <;> rfl
theorem ZvT {v:KV}(h:Zit v):Zit (.cln v.rd):=by
 show v.rd.ro=v.rd
 rw [← h,ZhM]
theorem Gm:∀ {P:List Nat} {t:Nat},Jq P t=true↔t ∉ P
 | [],t=>by simp [Jq]
 | u :: l,t=>by
  simp only [Jq,List.mem_cons,not_or]
  cases hb:Nat.beq u t with
  | true =>
   have:=Nat.eq_of_beq_eq_true hb
   subst this
   simp
  | false =>
   have:t≠u:=fun h=>by subst h; rw [Nat.beq_refl] at hb; cases hb
   simp [this,← Gm]
theorem ZkZ:∀ {P:List Nat} {d t:Nat},t ∈ rm d P↔t ∈ P∧t≠d
 | [],d,t=>by simp [rm]
 | u :: l,d,t=>by
  simp only [rm]
  cases hb:Nat.beq u d with
  | true =>
   have:=Nat.eq_of_beq_eq_true hb
   subst this
   simp only [ZkZ,List.mem_cons]
   constructor
   ·rintro ⟨a,b⟩; exact ⟨.inr a,b⟩
   ·rintro ⟨a | a,b⟩
    ·exact absurd a b
    ·exact ⟨a,b⟩
  | false =>
   have:u≠d:=fun h=>by subst h; rw [Nat.beq_refl] at hb; cases hb
   simp only [List.mem_cons,ZkZ]
   constructor
   ·rintro (a | ⟨a,b⟩)
    ·subst a; exact ⟨.inl rfl,this⟩
    ·exact ⟨.inr a,b⟩
   ·rintro ⟨a | a,b⟩
    ·exact .inl a
    ·exact .inr ⟨a,b⟩
structure WL (N:Nat)(P:List Nat)(e:Env)(sl:List AV):Prop where
 len:sl.length=N
 val:∀ t,t < N→t ∉ P→sl[t]? = some (e t).val
 ok:∀ t,Zit (e t)
theorem WL.mono {N:Nat}{P P':List Nat}{e:Env}{sl:List AV}(h:WL N P e sl)(hp:∀ t,t ∈ P→t ∈ P'):WL N P' e sl:=⟨h.len,fun t ht hn=>h.val t ht fun hm=>hn (hp t hm),h.ok⟩
theorem WL.set {N:Nat}{P:List Nat}{e:Env}{sl:List AV}(h:WL N P e sl)(d:Nat){v:KV}(hv:Zit v):WL N (rm d P) (e.set d v) (sl.set d v.val):=by
 refine ⟨by rw [List.length_set]; exact h.len,fun t ht hn=>?_,fun t=>?_⟩
 ·rw [List.getElem?_set]
  by_cases e1:d=t
  ·subst e1
   simp [Env.set,h.len,ht]
  ·have:Nat.beq t d=false:=by cases hb:Nat.beq t d with | false=>rfl | true=>exact absurd (Nat.eq_of_beq_eq_true hb).symm e1
   simp [e1,Env.set,this,h.val t ht fun hm=>hn (ZkZ.2 ⟨hm,fun h=>e1 h.symm⟩)]
 ·show Zit (BI (Nat.beq t d) v (e t))
  cases Nat.beq t d
  ·exact h.ok t
  ·exact hv
theorem WL.put {N:Nat}{P:List Nat}{e:Env}{sl:List AV}(h:WL N P e sl)(d:Option Nat){v:KV}(hv:Zit v){hp:List Zl}{ef:Eff}{bs:Nat}:WL N (rmO d P) (e.put d v) (Zb.put ⟨sl,hp,ef,bs⟩ d v.val).sl:=by
 cases d with
 | none=>exact h
 | some d=>exact h.set d hv
theorem WL.let_ {N:Nat}{P:List Nat}{e:Env}{sl:List AV}(h:WL N P e sl)(t:Nat):WL N P (e.set t (.cln (e t).rd)) (sl.modify t AV.ro):=by
 refine ⟨by rw [List.length_modify]; exact h.len,fun u hu hn=>?_,fun u=>?_⟩
 ·rw [List.getElem?_modify]
  by_cases e1:t=u
  ·subst e1
   simp only [if_true,h.val t hu hn,Env.set,Nat.beq_refl,KV.val]
   have:=h.ok t
   simp only [Zit] at this
   simp only [KV.val] at this
   rw [Option.map_eq_map,Option.map_some,← this]
  ·have:Nat.beq u t=false:=by cases hb:Nat.beq u t with | false=>rfl | true=>exact absurd (Nat.eq_of_beq_eq_true hb).symm e1
   simp [e1,Env.set,this,h.val u hu hn]
 ·show Zit (BI (Nat.beq u t) (.cln (e t).rd) (e u))
  cases Nat.beq u t
  ·exact h.ok u
  ·exact ZvT (h.ok t)
section
variable {G:Nat→Option (List AV)}{N:Nat}{P:List Nat}{e:Env}{sl:List AV}
theorem Zha {t N:Nat}{P:List Nat}(h:(Nat.blt t N && Jq P t)=true):t < N∧t ∉ P:=by
 rw [Bool.and_eq_true] at h
 exact ⟨Nat.le_of_ble_eq_true h.1,Gm.1 h.2⟩
theorem WL.get (h:WL N P e sl){t:Nat}(ht:(Nat.blt t N && Jq P t)=true):sl[t]? = some (e t).val:=h.val t (Zha ht).1 (Zha ht).2
theorem WL.read (h:WL N P e sl){t:Nat}(ht:(Nat.blt t N && Jq P t)=true):(sl[t]?).map AV.ro=some (e t).rd:=by
 rw [h.get ht,Option.map_some,h.ok t]
theorem WL.opnd (h:WL N P e sl){x:Yl}{v:AV}(hx:WH G N P e x=some v):Abs.opnd G sl x=some v:=by
 cases x with
 | tmp t =>
  obtain ⟨h1,h2⟩:=VK (show BI (Nat.blt t N && Jq P t) (some (e t).rd) none=some v from hx)
  cases h2
  exact h.read h1
 | const v=>exact hx
 | glob g=>exact hx
theorem WL.opnds (h:WL N P e sl):∀ {xs:List Yl} {vs:List AV},DD G N P e xs=some vs→Abs.opnds G sl xs=some vs
 | [],vs,hx=>hx
 | x :: l,vs,hx=>by
  simp only [DD] at hx
  split at hx
  ·rename_i v hv
   split at hx
   ·rename_i us hus
    cases hx
    simp only [Abs.opnds,h.opnd hv,h.opnds hus,Option.map_some]
   ·cases hx
  ·cases hx
theorem WL.optOpnd (h:WL N P e sl){x:Option Yl}{v:Option AV}(hx:ZaB G N P e x=some v):Abs.optOpnd G sl x=some v:=by
 cases x with
 | none=>exact hx
 | some x =>
  simp only [ZaB] at hx
  split at hx
  ·rename_i u hu
   cases hx
   simp only [Abs.optOpnd,h.opnd hu,Option.map_some]
  ·cases hx
theorem WL.mvK (h:WL N P e sl){x:Yl}{k:KV→KR}{r:AV×List Zl×Eff}(hx:mvK G N P e x k=some r):∃ v,Abs.opnd G sl x=some v.val∧Zit v∧k v=some r:=by
 cases x with
 | tmp t =>
  obtain ⟨h1,h2⟩:=VK (show BI (Nat.blt t N && Jq P t) (k (KV.cln (e t).rd)) none=some r from hx)
  exact ⟨KV.cln (e t).rd,h.read h1,ZvT (h.ok t),h2⟩
 | const v=>exact ⟨_,rfl,LP v,hx⟩
 | glob g =>
  obtain ⟨c,h1,h2⟩:=Yp (show Xt (G g) (fun c=>k (.cln (.ref c)))=some r from hx)
  exact ⟨KV.cln (.ref c),by simp only [Abs.opnd,h1,Option.map_some]; rfl,rfl,h2⟩
theorem WL.args:∀ {as:List (Nat ⊕ Yl)} {e e':Env} {sl:List AV} {vs:List AV},WL N P e sl→ZeI G N P e as=some (vs,e')→∃ sl',WS G sl as=some (vs,sl')∧WL N P e' sl'
 | [],e,e',sl,vs,h,ha=>by
  cases ha
  exact ⟨sl,rfl,h⟩
 | .inl t :: l,e,e',sl,vs,h,ha=>by
  simp only [ZeI] at ha
  obtain ⟨h1,h2⟩:=VK ha
  split at h2
  ·rename_i us e1 hus
   cases h2
   obtain ⟨sl',a1,a2⟩:=WL.args (h.let_ t) hus
   refine ⟨sl',?_,a2⟩
   simp only [WS,h.get h1,a1,Option.map_some]
  ·cases h2
 | .inr x :: l,e,e',sl,vs,h,ha=>by
  simp only [ZeI] at ha
  split at ha
  ·rename_i v hv
   split at ha
   ·rename_i us e1 hus
    cases ha
    obtain ⟨sl',a1,a2⟩:=WL.args h hus
    refine ⟨sl',?_,a2⟩
    simp only [WS,h.opnd hv,a1,Option.map_some]
   ·cases ha
  ·cases ha
end
theorem ZrI {op:BinOp}{x y:List UInt8}{v:AV}(h:Zge op x y=some v):v.ro=v:=by
 cases op <;> simp only [Zge] at h <;> first | (cases h; done) | (cases h; rfl) | (split at h <;> cases h; rfl)
theorem Zpx {op:BinOp}{k:IntKind}{x y:Int}{v:AV}(h:UJ op k x y=some v):v.ro=v:=by
 cases op <;> simp only [UJ] at h <;> first | (cases h; done) | (cases h; rfl) | (split at h <;> cases h; rfl)
theorem ZjR {op:BinOp}{k:IntKind}{x y:Int}{v:AV}(h:Ef op k x y=some v):v.ro=v:=by
 simp only [Ef] at h
 split at h
 ·cases h
 ·cases op <;> simp only at h <;> first | (cases h; done) | (cases h; rfl)
theorem Zpw {op:BinOp}{sh:Zkv}{x y v:AV}(h:ZI op sh x y=some v):v.ro=v:=by
 unfold ZI at h
 split at h
 ·split at h
  ·split at h
   ·exact ZjR h
   ·split at h
    ·exact Zpx h
    ·cases h
  ·exact ZrI h
  ·cases h
 ·split at h
  ·obtain ⟨b,_,rfl⟩:=Option.map_eq_some_iff.1 h; rfl
  ·obtain ⟨b,_,rfl⟩:=Option.map_eq_some_iff.1 h; rfl
  ·cases h
theorem ZrJ {op:UnOp}{x v:AV}(h:Za4 op x=some v):v.ro=v:=by
 unfold Za4 at h
 split at h <;> cases h <;> rfl
theorem ZmF {hp:List Zl}{c:Conv}{x v:AV}(h:XP hp c x=some v):v.ro=v:=by
 unfold XP at h
 split at h
 ·cases h; rfl
 ·cases h; rfl
 ·cases h; rfl
 ·split at h
  ·obtain ⟨b,_,rfl⟩:=Option.map_eq_some_iff.1 h; rfl
  ·cases h
 ·cases h
theorem Zxd {hp:List Zl}{x v:AV}(h:QH hp x=some v):v.ro=v:=by
 unfold QH at h
 split at h
 ·cases h; exact ZhM _
 ·split at h
  ·obtain ⟨b,_,rfl⟩:=Option.map_eq_some_iff.1 h; exact ZhM _
  ·cases h
 ·cases h
theorem Zxc {hp:List Zl}{n:Nat}{x v:AV}(h:VB hp n x=some v):v.ro=v:=by
 unfold VB at h
 split at h
 ·split at h <;> cases h; rfl
 ·split at h
  ·split at h <;> cases h; rfl
  ·cases h
 ·cases h
theorem Zpy {x v:AV}(h:Zfr x=some v):v.ro=v:=by
 unfold Zfr at h
 split at h <;> cases h <;> rfl
theorem Zpz {sh:Shape}{x v hi mx:AV}(h:Oc sh x hi mx=some v):v.ro=v:=by
 unfold Oc at h
 split at h <;> first | (cases h; done) | skip
 ·split at h <;> cases h; rfl
 ·split at h <;> cases h; split <;> rfl
 ·split at h <;> cases h; split <;> rfl
theorem ZrH {sh:Shape}{x v:AV}{lo hi:Option AV}(h:Vj sh x lo hi=some v):v.ro=v:=by
 unfold Vj at h
 split at h
 ·split at h
  ·split at h <;> cases h; rfl
  ·cases h
 ·split at h
  ·split at h
   ·split at h <;> cases h; rfl
   ·cases h
  ·cases h
 ·split at h
  ·split at h
   ·split at h
    ·split at h <;> cases h <;> rfl
    ·cases h
   ·cases h
  ·cases h
 ·split at h
  ·split at h
   ·split at h <;> cases h <;> rfl
   ·cases h
  ·cases h
 ·cases h
theorem ZyI {off:Nat}{x v:AV}(h:NZ off x=some v):v.ro=v:=by
 unfold NZ at h
 split at h <;> cases h <;> rfl
theorem ZwY {off n:Nat}{a:Bool}{x v:AV}(h:D7 off n a x=some v):v.ro=v:=by
 unfold D7 at h
 split at h
 ·split at h
  ·split at h
   ·cases h; rfl
   ·obtain ⟨b,_,rfl⟩:=Option.map_eq_some_iff.1 h; exact ZhM _
  ·cases h
 ·cases h
theorem ZyK {sh:Shape}{x i v:AV}(h:GU sh x i=some v):v.ro=v:=by
 unfold GU at h
 split at h
 ·split at h
  ·obtain ⟨b,_,rfl⟩:=Option.map_eq_some_iff.1 h; rfl
  ·cases h
 all_goals first | (cases h; done) | (split at h <;> cases h; rfl)
theorem Zxa {x i v:AV}(h:ZbS x i=some v):v.ro=v:=by
 unfold ZbS at h
 split at h
 ·split at h
  ·obtain ⟨b,_,rfl⟩:=Option.map_eq_some_iff.1 h; rfl
  ·cases h
 ·cases h
theorem ZmG {x:AV}{i:Nat}{v:AV}(h:Be x i=some v):v.ro=v:=by
 unfold Be at h
 split at h
 ·obtain ⟨b,_,rfl⟩:=Option.map_eq_some_iff.1 h; exact ZhM _
 ·cases h
theorem Zxe {hp:List Zl}{sh:Ziu}{x v:AV}(h:Xk hp sh x=some v):v.ro=v:=by
 unfold Xk at h
 split at h
 ·cases h; rfl
 ·cases h; rfl
 ·cases h; rfl
 ·cases h; rfl
 ·split at h <;> cases h; rfl
 ·cases h
theorem Zxi {xs:List AV}{v:AV}(h:Zwg xs=some v):v.ro=v:=by
 unfold Zwg at h
 split at h
 ·obtain ⟨b,_,rfl⟩:=Option.map_eq_some_iff.1 h; rfl
 ·cases h
theorem Zxh {xs:List AV}{v:AV}(h:Zwf xs=some v):v.ro=v:=by
 unfold Zwf at h
 split at h
 ·obtain ⟨b,_,rfl⟩:=Option.map_eq_some_iff.1 h; rfl
 ·cases h
end Go.Proofs.YtgjcjbhhhlelnaaGreatDoor.Abs
end
section
namespace Go.Proofs.YtgjcjbhhhlelnaaGreatDoor.Abs
open Go
section
variable {G:Nat→Option (List AV)}{N bs:Nat}{P:List Nat}{K:FuncId→List AV→List Zl→KR}
def Zvl (G:Nat→Option (List AV))(N bs:Nat)(P:List Nat)(K:FuncId→List AV→List Zl→KR)(sl:List AV)(hp:List Zl)(ef:Eff)(op:AOp)(k:KV→Env→List Zl→Eff→KR)(r:AV×List Zl×Eff):Prop :=
 ∃ (v:KV) (e':Env) (sl':List AV) (hp':List Zl) (ef':Eff),Ze G K ⟨sl,hp,ef,bs⟩ op=some (v.val,⟨sl',hp',ef',bs⟩)∧WL N P e' sl'∧Zit v∧k v e' hp' ef'=some r
theorem Ak (sl:List AV)(hp:List Zl)(ef:Eff)(bs g v:Nat):Zb.note ⟨sl,hp,ef,bs⟩ g v=Zft bs ef g v:=rfl
theorem ZpY (sl:List AV)(hp:List Zl)(ef:Eff)(bs:Nat)(e:Eff):Zb.after ⟨sl,hp,ef,bs⟩ e=Dz bs ef e:=by
 cases e with
 | none=>rfl
 | some p=>rfl
theorem Zw4 {e:Env}{sl:List AV}(he:WL N P e sl){hp:List Zl}{ef:Eff}{op:AOp}{k:KV→Env→List Zl→Eff→KR}{r:AV×List Zl×Eff}(h:opK G N bs P K e hp ef op k=some r):Zvl G N bs P K sl hp ef op k r:=by
 cases op <;> simp only [opK] at h
 case bad=>cases h
 case mv x =>
  obtain ⟨v,a1,a2,h2⟩:=he.mvK h
  exact ⟨v,e,sl,hp,ef,by simp only [Ze,a1,Option.map_some],he,a2,h2⟩
 case take t =>
  obtain ⟨h1,h2⟩:=VK h
  refine ⟨e t,_,sl.modify t AV.ro,hp,ef,?_,he.let_ t,he.ok t,h2⟩
  simp only [Ze,he.get h1,Zb.let_]
 case pick c a b =>
  obtain ⟨c',h1,h⟩:=Z4 h
  obtain ⟨a',h2,h⟩:=Z4 h
  obtain ⟨b',h3,h⟩:=Z4 h
  obtain ⟨v,h4,h⟩:=Yp h
  refine ⟨_,e,sl,hp,ef,?_,he,LP _,h⟩
  unfold Zd2 at h4
  split at h4 <;> cases h4
  ·simp only [Ze,he.opnd h1,he.opnd h2,Option.map_some,KV.val]
  ·simp only [Ze,he.opnd h1,he.opnd h3,Option.map_some,KV.val]
 case mk t cells=>exact ⟨_,e,sl,_,ef,rfl,he,(by rfl),h⟩
 case box t n x =>
  obtain ⟨v,h1,h⟩:=Z4 h
  obtain ⟨cs,h2,h⟩:=Yp h
  unfold ZsU at h2
  split at h2 <;> cases h2
  rename_i hc
  refine ⟨_,e,sl,_,ef,?_,he,(by rfl),h⟩
  simp only [Ze,he.opnd h1,hc,and_self,if_true,KV.val]
 case build zero parts =>
  obtain ⟨vs,h1,h⟩:=Z4 h
  obtain ⟨cs,h2,h⟩:=Yp h
  refine ⟨_,e,sl,hp,ef,?_,he,(by rfl),h⟩
  simp only [Ze,he.opnds h1,h2,Option.map_some,KV.val]
 case lit t n parts =>
  obtain ⟨vs,h1,h⟩:=Z4 h
  obtain ⟨v,hp',h2,h⟩:=Gn h
  refine ⟨_,e,sl,hp',ef,?_,he,LP _,h⟩
  unfold Zzc at h2
  split at h2
  ·rename_i hc
   cases h2
   simp only [Ze,he.opnds h1,hc,if_true,KV.val]
  ·rename_i hc
   split at h2
   ·rename_i hc'
    cases h2
    simp only [Ze,he.opnds h1,hc,hc',if_true,KV.val]
    rfl
   ·cases h2
 case lita t n parts =>
  obtain ⟨vs,h1,h⟩:=Z4 h
  obtain ⟨v,hp',h2,h⟩:=Gn h
  refine ⟨_,e,sl,hp',ef,?_,he,LP _,h⟩
  unfold ZvZ at h2
  split at h2
  ·rename_i hc
   cases h2
   simp only [Ze,he.opnds h1,hc,if_true,KV.val]
  ·cases h2
 case ldc p =>
  obtain ⟨v,h1,h⟩:=Z4 h
  obtain ⟨u,h2,h⟩:=Yp h
  exact ⟨_,e,sl,hp,ef,by simp only [Ze,he.opnd h1,h2,Option.map_some,KV.val],he,UK (Zxd h2),h⟩
 case lda n p =>
  obtain ⟨v,h1,h⟩:=Z4 h
  obtain ⟨u,h2,h⟩:=Yp h
  exact ⟨_,e,sl,hp,ef,by simp only [Ze,he.opnd h1,h2,Option.map_some,KV.val],he,UK (Zxc h2),h⟩
 case ldt p =>
  obtain ⟨v,h1,h⟩:=Z4 h
  obtain ⟨u,hp',ef',h2,h⟩:=LU h
  refine ⟨_,e,sl,hp',ef',?_,he,LP _,h⟩
  unfold Zzb at h2
  split at h2
  ·split at h2
   ·rename_i hg
    split at h2
    ·rename_i hc
     cases h2
     simp only [Ze,he.opnd h1,hg,hc,Ak,KV.val]
    ·cases h2
   ·cases h2
  ·cases h2
 case st n p x =>
  obtain ⟨v,h1,h⟩:=Z4 h
  obtain ⟨u,h2,h⟩:=Z4 h
  obtain ⟨hp',ef',h3,h⟩:=Gn h
  refine ⟨_,e,sl,hp',ef',?_,he,(by rfl),h⟩
  unfold stV at h3
  split at h3
  ·split at h3
   ·rename_i hg
    split at h3
    ·rename_i hc
     cases h3
     simp only [Ze,he.opnd h1,he.opnd h2,hg,hc,Ak,KV.val,and_self,if_true]
    ·cases h3
   ·cases h3
  ·cases h3
 case stt p t =>
  obtain ⟨v,h1,h⟩:=Z4 h
  obtain ⟨h2,h⟩:=VK h
  obtain ⟨hp',ef',h3,h⟩:=Gn h
  refine ⟨_,_,sl.modify t AV.ro,hp',ef',?_,he.let_ t,(by rfl),h⟩
  unfold Zxr at h3
  split at h3
  ·split at h3
   ·rename_i hg
    split at h3
    ·rename_i hc
     cases h3
     simp only [Ze,he.opnd h1,he.get h2,hg,Ak,Zb.let_]
     rw [if_pos hc]
     rfl
    ·cases h3
   ·cases h3
  ·cases h3
 case nilchk x =>
  obtain ⟨v,h1,h⟩:=Z4 h
  obtain ⟨u,h2,h⟩:=Yp h
  refine ⟨_,e,sl,hp,ef,?_,he,UK (Zpy h2),h⟩
  unfold Zfr at h2
  split at h2 <;> cases h2 <;> simp only [Ze,he.opnd h1,KV.val]
 case bin op sh x y =>
  obtain ⟨v,h1,h⟩:=Z4 h
  obtain ⟨u,h2,h⟩:=Z4 h
  obtain ⟨w,h3,h⟩:=Yp h
  exact ⟨_,e,sl,hp,ef,by simp only [Ze,he.opnd h1,he.opnd h2,h3,Option.map_some,KV.val],he,UK (Zpw h3),h⟩
 case un op x =>
  obtain ⟨v,h1,h⟩:=Z4 h
  obtain ⟨u,h2,h⟩:=Yp h
  exact ⟨_,e,sl,hp,ef,by simp only [Ze,he.opnd h1,h2,Option.map_some,KV.val],he,UK (ZrJ h2),h⟩
 case conv c x =>
  obtain ⟨v,h1,h⟩:=Z4 h
  obtain ⟨u,h2,h⟩:=Yp h
  exact ⟨_,e,sl,hp,ef,by simp only [Ze,he.opnd h1,h2,Option.map_some,KV.val],he,UK (ZmF h2),h⟩
 case mkfn f first caps =>
  obtain ⟨v,h1,h⟩:=Z4 h
  obtain ⟨u,h2,h⟩:=Z4 h
  exact ⟨_,e,sl,hp,ef,by simp only [Ze,he.opnds h1,he.opnds h2,KV.val],he,(by rfl),h⟩
 case mkmap=>exact ⟨_,e,sl,_,ef,rfl,he,(by rfl),h⟩
 case mksl t zero n =>
  obtain ⟨v,h1,h⟩:=Z4 h
  obtain ⟨u,hp',h2,h⟩:=Gn h
  unfold Zo9 at h2
  split at h2
  ·split at h2
   ·rename_i hc
    cases h2
    exact ⟨_,e,sl,_,ef,by simp only [Ze,he.opnd h1,hc,and_self,if_true,KV.val],he,(by rfl),h⟩
   ·cases h2
  ·cases h2
 case slice sh x lo hi =>
  obtain ⟨v,h1,h⟩:=Z4 h
  obtain ⟨u1,h2,h⟩:=Z4 h
  obtain ⟨u2,h3,h⟩:=Z4 h
  obtain ⟨u,h4,h⟩:=Yp h
  exact ⟨_,e,sl,hp,ef,by simp only [Ze,he.opnd h1,he.optOpnd h2,he.optOpnd h3,h4,Option.map_some,KV.val],he,UK (ZrH h4),h⟩
 case slice3 sh x hi mx =>
  obtain ⟨v,h1,h⟩:=Z4 h
  obtain ⟨u1,h2,h⟩:=Z4 h
  obtain ⟨u2,h3,h⟩:=Z4 h
  obtain ⟨u,h4,h⟩:=Yp h
  exact ⟨_,e,sl,hp,ef,by simp only [Ze,he.opnd h1,he.opnd h2,he.opnd h3,h4,Option.map_some,KV.val],he,UK (Zpz h4),h⟩
 case fa off x =>
  obtain ⟨v,h1,h⟩:=Z4 h
  obtain ⟨u,h2,h⟩:=Yp h
  exact ⟨_,e,sl,hp,ef,by simp only [Ze,he.opnd h1,h2,Option.map_some,KV.val],he,UK (ZyI h2),h⟩
 case fld off n agg x =>
  obtain ⟨v,h1,h⟩:=Z4 h
  obtain ⟨u,h2,h⟩:=Yp h
  exact ⟨_,e,sl,hp,ef,by simp only [Ze,he.opnd h1,h2,Option.map_some,KV.val],he,UK (ZwY h2),h⟩
 case ia sh x i =>
  obtain ⟨v,h1,h⟩:=Z4 h
  obtain ⟨u,h2,h⟩:=Z4 h
  obtain ⟨w,h3,h⟩:=Yp h
  exact ⟨_,e,sl,hp,ef,by simp only [Ze,he.opnd h1,he.opnd h2,h3,Option.map_some,KV.val],he,UK (ZyK h3),h⟩
 case idx x i =>
  obtain ⟨v,h1,h⟩:=Z4 h
  obtain ⟨u,h2,h⟩:=Z4 h
  obtain ⟨w,h3,h⟩:=Yp h
  exact ⟨_,e,sl,hp,ef,by simp only [Ze,he.opnd h1,he.opnd h2,h3,Option.map_some,KV.val],he,UK (Zxa h3),h⟩
 case look sh zero x i ok =>
  obtain ⟨v,h1,h⟩:=Z4 h
  obtain ⟨u,h2,h⟩:=Z4 h
  obtain ⟨w,h3,h⟩:=Yp h
  exact ⟨_,e,sl,hp,ef,by simp only [Ze,he.opnd h1,he.opnd h2,h3,Option.map_some,KV.val],he,LP _,h⟩
 case mupd sh m i x =>
  obtain ⟨v,h1,h⟩:=Z4 h
  obtain ⟨u,h2,h⟩:=Z4 h
  obtain ⟨w,h3,h⟩:=Z4 h
  obtain ⟨hp',ef',h4,h⟩:=Gn h
  refine ⟨_,e,sl,hp',ef',?_,he,(by rfl),h⟩
  unfold Zwi at h4
  split at h4
  ·split at h4
   ·rename_i hg
    split at h4
    ·rename_i hc
     split at h4
     ·rename_i hu
      cases h4
      simp only [Ze,he.opnd h1,he.opnd h2,he.opnd h3,hg,hc,hu,Ak,KV.val,if_true]
     ·cases h4
    ·cases h4
   ·cases h4
  ·cases h4
 case range x =>
  obtain ⟨v,h1,h⟩:=Z4 h
  obtain ⟨u,hp',h2,h⟩:=Gn h
  unfold Zs6 at h2
  split at h2 <;> cases h2
  exact ⟨_,e,sl,_,ef,by simp only [Ze,he.opnd h1,KV.val],he,(by rfl),h⟩
 case next x =>
  obtain ⟨v,h1,h⟩:=Z4 h
  obtain ⟨u,hp',ef',h2,h⟩:=LU h
  unfold Zwj at h2
  split at h2
  ·split at h2
   ·rename_i hg
    split at h2
    ·rename_i hc
     cases h2
     exact ⟨_,e,sl,_,_,by simp only [Ze,he.opnd h1,hg,hc,if_true,Ak,KV.val],he,(by rfl),h⟩
    ·rename_i hc
     cases h2
     exact ⟨_,e,sl,_,_,by simp only [Ze,he.opnd h1,hg,hc,if_false,KV.val],he,(by rfl),h⟩
   ·cases h2
  ·cases h2
 case extract x i =>
  obtain ⟨v,h1,h⟩:=Z4 h
  obtain ⟨u,h2,h⟩:=Yp h
  refine ⟨_,e,sl,hp,ef,?_,he,UK (ZmG h2),h⟩
  unfold Be at h2
  split at h2
  ·rename_i vs
   obtain ⟨b,hb,rfl⟩:=Option.map_eq_some_iff.1 h2
   simp only [Ze,he.opnd h1,hb,Option.map_some,KV.val]
  ·cases h2
 case len sh x =>
  obtain ⟨v,h1,h⟩:=Z4 h
  obtain ⟨u,h2,h⟩:=Yp h
  exact ⟨_,e,sl,hp,ef,by simp only [Ze,he.opnd h1,h2,Option.map_some,KV.val],he,UK (Zxe h2),h⟩
 case app n bytes t x =>
  obtain ⟨h1,h⟩:=VK h
  obtain ⟨v,h2,h⟩:=Z4 h
  obtain ⟨u,h3,h⟩:=Yp h
  refine ⟨_,_,sl.modify t AV.ro,hp,ef,?_,he.let_ t,LP _,h⟩
  have hv:=he.get h1
  unfold ZyY at h3
  split at h3
  ·rename_i k' r0 hs
   split at h3
   ·rename_i k'' r' hr
    split at h3
    ·rename_i hc
     cases h3
     rw [hs] at hv
     simp only [Ze,hv,he.opnd h2,hr,KV.val,Zb.let_]
     rw [if_pos hc]
    ·cases h3
   ·cases h3
  ·cases h3
 case apps bytes t x =>
  obtain ⟨h1,h⟩:=VK h
  obtain ⟨v,h2,h⟩:=Z4 h
  obtain ⟨u,h3,h⟩:=Yp h
  refine ⟨_,_,sl.modify t AV.ro,hp,ef,?_,he.let_ t,LP _,h⟩
  have hv:=he.get h1
  unfold Zvo at h3
  split at h3
  ·rename_i k' r0 l hs
   split at h3
   ·rename_i hc
    cases h3
    rw [hs] at hv
    simp only [Ze,hv,he.opnd h2,KV.val,Zb.let_]
    rw [if_pos hc]
   ·cases h3
  ·cases h3
 case appn n bytes x =>
  obtain ⟨v,h2,h⟩:=Z4 h
  obtain ⟨u,h3,h⟩:=Yp h
  refine ⟨_,_,sl,hp,ef,?_,he,LP _,h⟩
  unfold Zvn at h3
  split at h3
  ·rename_i k'' r' hr
   split at h3
   ·rename_i hc
    cases h3
    simp only [Ze,he.opnd h2,hr,KV.val]
    rw [if_pos hc]
   ·cases h3
  ·cases h3
 case copy n d x =>
  obtain ⟨v,h1,h⟩:=Z4 h
  obtain ⟨u,h2,h⟩:=Z4 h
  obtain ⟨w,hp',ef',h3,h⟩:=LU h
  refine ⟨_,e,sl,hp',ef',?_,he,?_,h⟩
  ·unfold copyV at h3
   split at h3
   ·split at h3
    ·rename_i hr hg
     split at h3
     ·rename_i hc
      cases h3
      simp only [Ze,he.opnd h1,he.opnd h2,hr,hg,Ak,KV.val]
      rw [if_pos hc]
     ·cases h3
    ·cases h3
   ·split at h3
    ·rename_i hr
     split at h3
     ·rename_i hc
      cases h3
      simp only [Ze,he.opnd h1,he.opnd h2,hr,KV.val]
      rw [if_pos hc]
     ·cases h3
    ·cases h3
   ·cases h3
  ·unfold copyV at h3
   split at h3
   ·split at h3
    ·split at h3 <;> cases h3; rfl
    ·cases h3
   ·split at h3
    ·split at h3 <;> cases h3; rfl
    ·cases h3
   ·cases h3
 case min xs =>
  obtain ⟨v,h1,h⟩:=Z4 h
  obtain ⟨u,h2,h⟩:=Yp h
  refine ⟨_,e,sl,hp,ef,?_,he,UK (Zxi h2),h⟩
  unfold Zwg at h2
  split at h2
  ·obtain ⟨b,hb,rfl⟩:=Option.map_eq_some_iff.1 h2
   simp only [Ze,he.opnds h1,hb,Option.map_some,KV.val]
  ·cases h2
 case max xs =>
  obtain ⟨v,h1,h⟩:=Z4 h
  obtain ⟨u,h2,h⟩:=Yp h
  refine ⟨_,e,sl,hp,ef,?_,he,UK (Zxh h2),h⟩
  unfold Zwf at h2
  split at h2
  ·obtain ⟨b,hb,rfl⟩:=Option.map_eq_some_iff.1 h2
   simp only [Ze,he.opnds h1,hb,Option.map_some,KV.val]
  ·cases h2
 case call f args =>
  obtain ⟨fv,h1,h⟩:=Z4 h
  obtain ⟨⟨vs,e'⟩,h2,h⟩:=Z4 h
  obtain ⟨v,hp',ef',h3,h4⟩:=LU h
  obtain ⟨sl',a1,a2⟩:=he.args h2
  clear h
  unfold Zvv at h3
  split at h3
  ·refine ⟨_,e',sl',hp',_,?_,a2,LP _,h4⟩
   simp only [Ze,he.opnd h1,a1,h3,ZpY,KV.val]
  ·cases h3
theorem ZbR {want:Bool}{v:AV}{sl:List AV}{t:Nat}{s:Zb}(hs:s.sl=sl)(h:sl[t]? = some v):Yq s (some (t,want))=D8 want v:=by
 simp only [Yq,hs,h]
 cases v <;> rfl
def ZpW (N bs:Nat)(P:List Nat)(x:Option Zb)(k:BQ)(r:AV×List Zl×Eff):Prop :=
 ∃ (e':Env) (sl':List AV) (hp':List Zl) (ef':Eff),x=some ⟨sl',hp',ef',bs⟩∧WL N P e' sl'∧k e' hp' ef'=some r
theorem put_eq (sl:List AV)(hp:List Zl)(ef:Eff)(bs:Nat)(d:Option Nat)(v:AV):Zb.put ⟨sl,hp,ef,bs⟩ d v=⟨(Zb.put ⟨sl,hp,ef,bs⟩ d v).sl,hp,ef,bs⟩:=by cases d <;> rfl
theorem Zpq {e:Env}{hp:List Zl}{ef:Eff}{op:AOp}(hq:X5 op=false){k:KV→Env→List Zl→Eff→KR} :
  opK G N bs P K e hp ef op k=opK G N bs P K e hp ef op fun v _ hp' ef'=>k v e hp' ef':=by
 cases op <;> first | rfl | (cases hq; done) | skip
 case call f args =>
  have:∀ (as:List (Nat ⊕ Yl)) (e:Env) (vs:List AV) (e':Env),(as.any fun | .inl _=>true | .inr _=>false)=false→ZeI G N P e as=some (vs,e')→e'=e:=by
   intro as
   induction as with
   | nil=>intro e vs e' _ h; cases h; rfl
   | cons a l ih =>
    intro e vs e' hn h
    cases a with
    | inl t=>simp at hn
    | inr x =>
     simp only [ZeI] at h
     split at h
     ·split at h
      ·rename_i us e1 hus
       cases h
       exact ih e us e' (by simpa using hn) hus
      ·cases h
     ·cases h
  simp only [opK]
  congr 1
  funext f
  cases ha:ZeI G N P e args with
  | none=>rfl
  | some p =>
   obtain ⟨vs,e'⟩:=p
   cases this args e vs e' hq ha
   rfl
theorem ZdY:∀ {as:List (Nat ⊕ Yl)} {sl sl':List AV} {vs:List AV},(as.any fun | .inl _=>true | .inr _=>false)=false→WS G sl as=some (vs,sl')→sl'=sl
 | [],sl,sl',vs,_,h=>by cases h; rfl
 | .inl t :: l,sl,sl',vs,hn,h=>by simp at hn
 | .inr x :: l,sl,sl',vs,hn,h=>by
  simp only [WS] at h
  split at h
  ·obtain ⟨p,hp,e⟩:=Option.map_eq_some_iff.1 h
   cases e
   exact ZdY (by simpa using hn) hp
  ·cases h
theorem Zwe {α:Type}{s s':Zb}{x:Option α}{f:α→AV}{v:AV}(h:x.map (fun a=>(f a,s))=some (v,s')):s'.sl=s.sl:=by
 obtain ⟨w,_,e⟩:=Option.map_eq_some_iff.1 h
 exact (congrArg (fun p=>p.2.sl) e).symm
theorem ZuE {s s':Zb}{v w:AV}(h:some (w,s)=some (v,s')):s'.sl=s.sl:=(congrArg (fun p=>p.2.sl) (Option.some.inj h)).symm
theorem ZrO {s s' s1:Zb}{v w:AV}(h:some (w,s1)=some (v,s'))(h1:s1.sl=s.sl):s'.sl=s.sl:=by
 rw [← h1]; exact (congrArg (fun p=>p.2.sl) (Option.some.inj h)).symm
theorem ZtK {s s':Zb}{v:AV}(h:(none:Option (AV×Zb))=some (v,s')):s'.sl=s.sl:=nomatch h
theorem ZgK {call:FuncId→List AV→List Zl→KR}{s s':Zb}{op:AOp}{v:AV}(hq:X5 op=false)(h:Ze G call s op=some (v,s')):s'.sl=s.sl:=by
 cases op
 case take t=>cases hq
 case stt p t=>cases hq
 case app k b t x=>cases hq
 case apps b t x=>cases hq
 case call f args =>
  simp only [Ze] at h
  split at h
  ·rename_i hf ha
   split at h
   ·have:=ZuE h
    rw [this]
    exact ZdY hq ha
   ·exact absurd h (by simp)
  ·exact absurd h (by simp)
 all_goals
  simp only [Ze] at h
  repeat'
   first
   | exact Zwe h
   | exact ZtK h
   | exact ZrO h rfl
   | split at h
theorem Zhj {α:Type}(x:Option α)(f:α→KR)(k:AV→List Zl→Eff→KR):MX (Xt x f) k=Xt x fun a=>MX (f a) k:=by cases x <;> rfl
theorem Zrs {α:Type}(x:Option α)(f:α→KR)(k:AV→List Zl→Eff→KR):MX (rdK x f) k=rdK x fun a=>MX (f a) k:=by cases x <;> rfl
theorem ZoQ {α β:Type}(x:Option (α×β))(f:α→β→KR)(k:AV→List Zl→Eff→KR):MX (Zhi x f) k=Zhi x fun a b=>MX (f a b) k:=by cases x <;> rfl
theorem ZoR {α β γ:Type}(x:Option (α×β×γ))(f:α→β→γ→KR)(k:AV→List Zl→Eff→KR):MX (MX x f) k=MX x fun a b c=>MX (f a b c) k:=by cases x <;> rfl
theorem Zlh (b:Bool)(x y:KR)(k:AV→List Zl→Eff→KR):MX (BI b x y) k=BI b (MX x k) (MX y k):=by cases b <;> rfl
theorem Zey (v:AV)(hp:List Zl)(ef:Eff)(k:AV→List Zl→Eff→KR):MX (some (v,hp,ef)) k=k v hp ef:=rfl
theorem Zex (k:AV→List Zl→Eff→KR):MX none k=none:=rfl
theorem ZoK {e:Env}{hp:List Zl}{ef:Eff}{op:AOp}{k:KV→Env→List Zl→Eff→KR} :
  MX (opK G N bs P K e hp ef op fun v _ hp' ef'=>some (v.val,hp',ef')) (fun v hp' ef'=>k (.raw v) e hp' ef')=opK G N bs P K e hp ef op (fun v _ hp' ef'=>k (.raw v.val) e hp' ef'):=by
 cases op
 case mv x=>cases x <;> simp only [opK,mvK,Zhj,Zlh,Zey,Zex]
 all_goals simp only [opK,Zhj,Zrs,ZoQ,ZoR,Zlh,Zey,Zex]
def Held (A:List (Nat×Bool))(sl:List AV):Prop:=∀ p ∈ A,sl[p.1]? = some (.bool p.2)
def Calm (A:List (Nat×Bool))(ops:List ZN):Prop:=A≠[]→∀ o ∈ ops,X5 o.op=false∧∀ p ∈ A,o.dst≠some p.1
theorem ZiG:∀ {A:List (Nat×Bool)} {t:Nat} {w:Bool},inA t w A=true→(t,w) ∈ A
 | [],t,w,h=>by cases h
 | (u,v) :: l,t,w,h=>by
  simp only [inA] at h
  cases hb:(Nat.beq u t && (v == w)) with
  | true =>
   rw [Bool.and_eq_true] at hb
   have:=Nat.eq_of_beq_eq_true hb.1
   have hv:v=w:=by simpa using hb.2
   subst this; subst hv
   exact .head _
  | false=>rw [hb] at h; exact .tail _ (ZiG h)
theorem Held.put {A:List (Nat×Bool)}{sl:List AV}(h:Held A sl){hp:List Zl}{ef:Eff}{bs:Nat}{d:Option Nat}(hd:∀ p ∈ A,d≠some p.1)(v:AV):Held A (Zb.put ⟨sl,hp,ef,bs⟩ d v).sl:=by
 cases d with
 | none=>exact h
 | some d =>
  intro p hp
  show (sl.set d v)[p.1]? = _
  rw [List.getElem?_set,if_neg (fun e=>hd p hp (by rw [e]))]
  exact h p hp
theorem Zrn {A:List (Nat×Bool)}{o:ZN}{e:Env}{sl:List AV}(he:WL N P e sl)(hA:Held A sl)(hc:Calm A [o]){hp:List Zl}{ef:Eff}{k:BQ}{r:AV×List Zl×Eff}(h:Zuf G N bs P K A o e hp ef k=some r) :
  ∃ (e':Env) (sl':List AV) (hp':List Zl) (ef':Eff),Zx G K o ⟨sl,hp,ef,bs⟩=some ⟨sl',hp',ef',bs⟩∧WL N (rmO o.dst P) e' sl'∧Held A sl'∧k e' hp' ef'=some r:=by
 unfold Zuf at h
 have run:∀ {k':KV→Env→List Zl→Eff→KR} (hk:∀ v e' hp' ef',k' v e' hp' ef'=some r→∃ v',v'.val=v.val∧(Zit v→Zit v')∧k (e'.put o.dst v') hp' ef'=some r) (_:opK G N bs P K e hp ef o.op k'=some r) (_:Yq ⟨sl,hp,ef,bs⟩ o.guard=some true),
   ∃ (e':Env) (sl':List AV) (hp':List Zl) (ef':Eff),Zx G K o ⟨sl,hp,ef,bs⟩=some ⟨sl',hp',ef',bs⟩∧WL N (rmO o.dst P) e' sl'∧Held A sl'∧k e' hp' ef'=some r:=by
  intro k' hk h hw
  obtain ⟨v,e',sl',hp',ef',h1,h2,h3,h4⟩:=Zw4 he h
  obtain ⟨v',a1,a2,a3⟩:=hk _ _ _ _ h4
  refine ⟨e'.put o.dst v',(Zb.put ⟨sl',hp',ef',bs⟩ o.dst v'.val).sl,hp',ef',?_,h2.put o.dst (a2 h3),?_,a3⟩
  ·simp only [Zx,hw,h1,a1]
   rw [put_eq]
  ·by_cases hn:A=[]
   ·subst hn; intro p hp; cases hp
   ·obtain ⟨c1,c2⟩:=hc hn o (.head _)
    have:sl'=sl:=ZgK (s := ⟨sl,hp,ef,bs⟩) (s':=⟨sl',hp',ef',bs⟩) c1 h1
    subst this
    exact hA.put c2 _
 have skip:∀ (v:KV) (_:Zit v) (_:v.val=.undef) (_:k (e.put o.dst v) hp ef=some r) (_:Yq ⟨sl,hp,ef,bs⟩ o.guard=some false),
   ∃ (e':Env) (sl':List AV) (hp':List Zl) (ef':Eff),Zx G K o ⟨sl,hp,ef,bs⟩=some ⟨sl',hp',ef',bs⟩∧WL N (rmO o.dst P) e' sl'∧Held A sl'∧k e' hp' ef'=some r:=by
  intro v hv hu h hw
  refine ⟨e.put o.dst v,(Zb.put ⟨sl,hp,ef,bs⟩ o.dst v.val).sl,hp,ef,?_,he.put o.dst hv,?_,h⟩
  ·simp only [Zx,hw,hu]
   rw [put_eq]
  ·by_cases hn:A=[]
   ·subst hn; intro p hp; cases hp
   ·exact hA.put (hc hn o (.head _)).2 _
 split at h
 ·rename_i hg
  exact run (fun v e' hp' ef' hk=>⟨v,rfl,fun a=>a,hk⟩) h (by rw [hg]; rfl)
 ·rename_i t want hg
  cases hi:inA t want A with
  | true =>
   rw [hi,NT] at h
   refine run (fun v e' hp' ef' hk=>⟨v,rfl,fun a=>a,hk⟩) h ?_
   rw [hg,ZbR rfl (hA _ (ZiG hi))]
   simp [D8]
  | false =>
   rw [hi,Ba] at h
   obtain ⟨h1,h⟩:=VK h
   have hw:Yq ⟨sl,hp,ef,bs⟩ o.guard=D8 want (e t).val:=by rw [hg]; exact ZbR rfl (he.get h1)
   cases ht:X5 o.op with
   | true =>
    rw [ht,NT] at h
    unfold Zso at h
    split at h
    ·rename_i hb
     exact run (fun v e' hp' ef' hk=>⟨v,rfl,fun a=>a,hk⟩) h (hw.trans hb)
    ·rename_i hb
     exact skip (.cln .undef) rfl rfl h (hw.trans hb)
    ·cases h
   | false =>
    rw [ht,Ba] at h
    unfold D9 at h
    split at h
    ·rename_i hb
     have h':=ZoK (k := fun v e' hp' ef'=>k (e'.put o.dst v) hp' ef') ▸ h
     rw [← Zpq ht (k := fun v e' hp' ef'=>k (e'.put o.dst (.raw v.val)) hp' ef')] at h'
     exact run (fun v e' hp' ef' hk=>⟨.raw v.val,rfl,fun _=>rfl,hk⟩) h' (hw.trans hb)
    ·rename_i hb
     exact skip (.raw .undef) rfl rfl h (hw.trans hb)
    ·cases h
theorem D6 {call:FuncId→List AV→List Zl→KR}:∀ (a b:List ZN) (s:Zb),ZC G call (a ++ b) s=(ZC G call a s).bind (ZC G call b)
 | [],b,s=>rfl
 | o :: l,b,s=>by
  simp only [List.cons_append,ZC]
  cases Zx G call o s with
  | none=>rfl
  | some s'=>exact D6 l b s'
theorem ZgT {call:FuncId→List AV→List Zl→KR}{t:Nat}{want:Bool}{P:List Nat}:∀ (ops:List ZN) (ds:List Nat) (sl:List AV) (hp:List Zl) (ef:Eff),sl[t]? = some (.bool (!want))→(∀ d ∈ ds,sl[d]? = some .undef)→sl.length=N →
  ∃ sl',ZC G call (ops.take (QG N t want P ds ops)) ⟨sl,hp,ef,bs⟩=some ⟨sl',hp,ef,bs⟩∧sl'.length=sl.length∧∀ j,j ∉ P→sl'[j]? = sl[j]?
 | [],ds,sl,hp,ef,_,_,_=>⟨sl,rfl,rfl,fun _ _=>rfl⟩
 | o :: l,ds,sl,hp,ef,h1,h2,h3=>by
  have stay:QG N t want P ds (o :: l)=0→∃ sl',ZC G call ((o :: l).take (QG N t want P ds (o :: l))) ⟨sl,hp,ef,bs⟩=some ⟨sl',hp,ef,bs⟩∧sl'.length=sl.length∧∀ j,j ∉ P→sl'[j]? = sl[j]?:=by
   intro h0
   rw [h0]
   exact ⟨sl,rfl,rfl,fun _ _=>rfl⟩
  cases hg:o.guard with
  | none=>exact stay (by simp only [QG,hg])
  | some uw =>
   obtain ⟨u,w⟩:=uw
   cases hd:o.dst with
   | none=>exact stay (by simp only [QG,hg,hd])
   | some d =>
    cases hb:(((Nat.beq u t && (w == want)) || !Jq ds u) && !Nat.beq d t && !Jq P d && !X5 o.op && Nat.blt d N) with
    | false=>exact stay (by simp only [QG,hg,hd,hb])
    | true =>
     have hl:QG N t want P ds (o :: l)=QG N t want P (d :: ds) l + 1:=by simp only [QG,hg,hd,hb]
     rw [hl,List.take_succ_cons]
     simp only [Bool.and_eq_true,Bool.or_eq_true,Bool.not_eq_true'] at hb
     obtain ⟨⟨⟨⟨b1,b2⟩,b3⟩,b4⟩,b5⟩:=hb
     have hdt:d≠t:=fun e=>by subst e; rw [Nat.beq_refl] at b2; cases b2
     have hdP:d ∈ P:=Classical.byContradiction fun hn=>by rw [Gm.2 hn] at b3; cases b3
     have hw:Yq ⟨sl,hp,ef,bs⟩ (some (u,w))=some false:=by
      rcases b1 with ⟨c1,c2⟩ | c1
      ·have:=Nat.eq_of_beq_eq_true c1
       have hw:w=want:=by simpa using c2
       subst this; subst hw
       simp [Yq,h1]
      ·have:u ∈ ds:=Classical.byContradiction fun hn=>by rw [Gm.2 hn] at c1; cases c1
       simp [Yq,h2 u this]
     obtain ⟨sl',a1,a2,a3⟩:=ZgT l (d :: ds) (sl.set d .undef) hp ef (by rw [List.getElem?_set,if_neg hdt]; exact h1)
      (fun x hx=>by
       rw [List.getElem?_set]
       by_cases e:d=x
       ·subst e; simp [h3,show d < N from Nat.le_of_ble_eq_true b5]
       ·rw [if_neg e]
        rcases List.mem_cons.1 hx with e' | hx
        ·exact absurd e'.symm e
        ·exact h2 x hx)
      (by rw [List.length_set]; exact h3)
     refine ⟨sl',?_,by rw [a2,List.length_set],fun j hj=>?_⟩
     ·simp only [ZC,Zx,hg,hw,hd]
      exact a1
     ·rw [a3 j hj,List.getElem?_set,if_neg (fun (e:d=j)=>hj (e ▸ hdP))]
theorem Zeq {t:Nat}{want:Bool}{P:List Nat}:∀ (ops:List ZN) (ds:List Nat),∀ o ∈ ops.take (QG N t want P ds ops),X5 o.op=false∧o.dst≠some t∧∀ d,o.dst=some d→d ∈ P
 | [],ds,o,ho=>by cases ho
 | o :: l,ds,o',ho=>by
  cases hg:o.guard with
  | none=>rw [show QG N t want P ds (o :: l)=0 by simp only [QG,hg]] at ho; cases ho
  | some uw =>
   obtain ⟨u,w⟩:=uw
   cases hd:o.dst with
   | none=>rw [show QG N t want P ds (o :: l)=0 by simp only [QG,hg,hd]] at ho; cases ho
   | some d =>
    cases hb:(((Nat.beq u t && (w == want)) || !Jq ds u) && !Nat.beq d t && !Jq P d && !X5 o.op && Nat.blt d N) with
    | false=>rw [show QG N t want P ds (o :: l)=0 by simp only [QG,hg,hd,hb]] at ho; cases ho
    | true =>
     rw [show QG N t want P ds (o :: l)=QG N t want P (d :: ds) l + 1 by simp only [QG,hg,hd,hb],List.take_succ_cons] at ho
     simp only [Bool.and_eq_true,Bool.or_eq_true,Bool.not_eq_true'] at hb
     obtain ⟨⟨⟨⟨b1,b2⟩,b3⟩,b4⟩,b5⟩:=hb
     rcases List.mem_cons.1 ho with e | ho
     ·subst e
      refine ⟨b4,fun e=>?_,fun x hx=>?_⟩
      ·rw [hd] at e; cases e; rw [Nat.beq_refl] at b2; cases b2
      ·rw [hd] at hx; cases hx
       exact Classical.byContradiction fun hn=>by rw [Gm.2 hn] at b3; cases b3
     ·exact Zeq l (d :: ds) o' ho
theorem Zja {call:FuncId→List AV→List Zl→KR}{P:List Nat}:∀ (ops:List ZN) (s s':Zb),(∀ o ∈ ops,X5 o.op=false∧∀ d,o.dst=some d→d ∈ P)→ZC G call ops s=some s'→s'.sl.length=s.sl.length∧∀ j,j ∉ P→s'.sl[j]? = s.sl[j]?
 | [],s,s',_,h=>by cases h; exact ⟨rfl,fun _ _=>rfl⟩
 | o :: l,s,s',hc,h=>by
  simp only [ZC] at h
  split at h
  ·rename_i s1 h1
   obtain ⟨a1,a2⟩:=Zja l s1 s' (fun o ho=>hc o (.tail _ ho)) h
   have one:s1.sl.length=s.sl.length∧∀ j,j ∉ P→s1.sl[j]? = s.sl[j]?:=by
    obtain ⟨c1,c2⟩:=hc o (.head _)
    have putOff:∀ (s2:Zb) (v:AV),s2.sl=s.sl→(s2.put o.dst v).sl.length=s.sl.length∧∀ j,j ∉ P→(s2.put o.dst v).sl[j]? = s.sl[j]?:=by
     intro s2 v h2
     cases hd:o.dst with
     | none=>exact ⟨congrArg _ h2,fun _ _=>by show s2.sl[_]? = _; rw [h2]⟩
     | some d=>exact ⟨by show (s2.sl.set d v).length=_; rw [List.length_set,h2],fun j hj=>by show (s2.sl.set d v)[j]? = _; rw [List.getElem?_set,if_neg (fun (e:d=j)=>hj (e ▸ c2 d hd)),h2]⟩
    unfold Zx at h1
    split at h1
    ·split at h1
     ·rename_i hev
      have e1:=ZgK c1 hev
      cases h1
      exact putOff _ _ e1
     ·cases h1
    ·cases h1
     exact putOff s _ rfl
    ·cases h1
   exact ⟨a1.trans one.1,fun j hj=>(a2 j hj).trans (one.2 j hj)⟩
  ·cases h
theorem Zq7 {A:List (Nat×Bool)}{P:List Nat}{ops:List ZN}{t:Nat}{want:Bool}{m:Nat}{d:Option Nat}{a b:Yl}{rest:List ZN}(h:Zob N A P ops=some (t,want,m,d,a,b,rest)) :
  m=QG N t want P [] ops∧t < N∧t ∉ P∧∃ g,ops.drop m=⟨d,.pick (.tmp t) a b,g⟩ :: rest∧(g=none∨∃ p ∈ A,g=some p):=by
 unfold Zob at h
 split at h
 ·cases h
 ·rename_i o l
  split at h
  ·cases h
  ·rename_i t' want' hg
   cases hi:inA t' want' A with
   | true=>rw [hi,NT] at h; cases h
   | false =>
    rw [hi,Ba] at h
    split at h
    ·rename_i d' u a' b' rest' hd
     obtain ⟨h1,h2⟩:=VK h
     simp only [Bool.and_eq_true] at h1
     obtain ⟨⟨⟨c1,c2⟩,c3⟩,c4⟩:=h1
     cases h2
     have:=Nat.eq_of_beq_eq_true c1
     subst this
     exact ⟨rfl,Nat.le_of_ble_eq_true c2,Gm.1 c3,none,hd,.inl rfl⟩
    ·rename_i d' u a' b' gt gw rest' hd
     obtain ⟨h1,h2⟩:=VK h
     simp only [Bool.and_eq_true] at h1
     obtain ⟨⟨⟨⟨c0,c1⟩,c2⟩,c3⟩,c4⟩:=h1
     cases h2
     have:=Nat.eq_of_beq_eq_true c1
     subst this
     exact ⟨rfl,Nat.le_of_ble_eq_true c2,Gm.1 c3,some (gt,gw),hd,.inr ⟨_,ZiG c0,rfl⟩⟩
    ·cases h
theorem ZsR:∀ (c w:Bool),(c == w)=false→c=!w:=by decide
theorem Zf0:∀ (n:Nat) {A:List (Nat×Bool)} {P:List Nat} {ops:List ZN} {e:Env} {sl:List AV} (_:WL N P e sl) (_:Held A sl) (_:Calm A ops) {hp:List Zl} {ef:Eff} {k:BQ} {r:AV×List Zl×Eff},Zlf G N bs K n A P ops k e hp ef=some r →
  ∃ (e':Env) (sl':List AV) (hp':List Zl) (ef':Eff),ZC G K ops ⟨sl,hp,ef,bs⟩=some ⟨sl',hp',ef',bs⟩∧WL N (ZnO N n A P ops) e' sl'∧Held A sl'∧k e' hp' ef'=some r
 | 0,A,P,[],e,sl,he,hA,_,hp,ef,k,r,h=>⟨e,sl,hp,ef,rfl,he,hA,by simpa [Zlf] using h⟩
 | n + 1,A,P,[],e,sl,he,hA,_,hp,ef,k,r,h=>⟨e,sl,hp,ef,rfl,he,hA,by simpa [Zlf] using h⟩
 | 0,A,P,o :: l,e,sl,he,hA,_,hp,ef,k,r,h=>by simp [Zlf] at h
 | n + 1,A,P,o :: l,e,sl,he,hA,hc,hp,ef,k,r,h=>by
  cases hg:Zob N A P (o :: l) with
  | some gg =>
   obtain ⟨t,want,m,d,a,b,rest⟩:=gg
   simp only [Zlf,hg] at h
   simp only [ZnO,hg]
   obtain ⟨hm,htN,htP,g,hdrop,hgd⟩:=Zq7 hg
   have hsplit:o :: l=(o :: l).take m ++ ⟨d,.pick (.tmp t) a b,g⟩ :: rest:=by rw [← hdrop,List.take_append_drop]
   have hcalm:∀ o' ∈ (o :: l).take m,X5 o'.op=false∧o'.dst≠some t∧∀ x,o'.dst=some x→x ∈ P:=by rw [hm]; exact Zeq _ _
   have hcA:A≠[]→∀ p ∈ A,d≠some p.1:=fun hne p hp=>(hc hne ⟨d,.pick (.tmp t) a b,g⟩ (by rw [hsplit]; exact List.mem_append_right _ (.head _))).2 p hp
   have ht:sl[t]? = some (e t).val:=he.val t htN htP
   have behind:∀ (sl1:List AV) (hp1:List Zl) (ef1:Eff) (c:Bool) (v:AV),ZC G K ((o :: l).take m) ⟨sl,hp,ef,bs⟩=some ⟨sl1,hp1,ef1,bs⟩→sl1.length=sl.length→(∀ j,j ∉ P→sl1[j]? = sl[j]?)→Held A sl1→sl1[t]? = some (.bool c) →
     opnd G sl1 (if c then a else b)=some v→Zlf G N bs K n A (rmO d P) rest k (e.put d (.raw v)) hp1 ef1=some r →
     ∃ (e':Env) (sl':List AV) (hp':List Zl) (ef':Eff),ZC G K (o :: l) ⟨sl,hp,ef,bs⟩=some ⟨sl',hp',ef',bs⟩∧WL N (ZnO N n A (rmO d P) rest) e' sl'∧Held A sl'∧k e' hp' ef'=some r:=by
    intro sl1 hp1 ef1 c v h1 hlen hoff hA1 hc1 hv hk
    have he1:WL N P e sl1:=⟨hlen.trans he.len,fun j hj hn=>(hoff j hn).trans (he.val j hj hn),he.ok⟩
    have hput:=he1.put d (v := .raw v) (LP v) (hp := hp1) (ef := ef1) (bs := bs)
    have hA2:Held A (Zb.put ⟨sl1,hp1,ef1,bs⟩ d v).sl:=by
     by_cases hne:A=[]
     ·subst hne; intro p hp; cases hp
     ·exact hA1.put (hcA hne) v
    obtain ⟨e',sl',hp',ef',b1,b2,b3,b4⟩:=Zf0 n hput hA2 (fun hne o' ho'=>hc hne o' (by rw [hsplit]; exact List.mem_append_right _ (.tail _ ho'))) hk
    refine ⟨e',sl',hp',ef',?_,b2,b3,b4⟩
    rw [hsplit,D6,h1]
    show ZC G K (⟨d,.pick (.tmp t) a b,g⟩ :: rest) ⟨sl1,hp1,ef1,bs⟩=_
    have hw:Yq ⟨sl1,hp1,ef1,bs⟩ g=some true:=by
     rcases hgd with e0 | ⟨p,hp,e0⟩
     ·subst e0; rfl
     ·subst e0
      obtain ⟨p1,p2⟩:=p
      rw [ZbR rfl (hA1 _ hp)]
      simp [D8]
    have hop:Ze G K ⟨sl1,hp1,ef1,bs⟩ (.pick (.tmp t) a b)=some (v,⟨sl1,hp1,ef1,bs⟩):=by
     have:opnd G sl1 (.tmp t)=some (.bool c):=by simp only [Abs.opnd,hc1,Option.map_some]; rfl
     cases c with
     | true=>simp only [if_true] at hv; simp only [Ze,this,hv,Option.map_some]
     | false=>simp only [Bool.false_eq_true,if_false] at hv; simp only [Ze,this,hv,Option.map_some]
    simp only [ZC,Zx,hw,hop]
    rw [put_eq]
    exact b1
   unfold Zer at h
   split at h
   ·rename_i c hcv
    rw [hcv] at ht
    split at h
    ·rename_i hcw
     have hcw:c=want:=by simpa using hcw
     subst hcw
     obtain ⟨v,hp1,ef1,h1,h2⟩:=LU h
     have hA':Held ((t,c) :: A) sl:=by
      intro p hp
      rcases List.mem_cons.1 hp with e0 | hp
      ·subst e0; exact ht
      ·exact hA p hp
     have hc':Calm ((t,c) :: A) ((o :: l).take m):=by
      intro _ o' ho'
      obtain ⟨q1,q2,q3⟩:=hcalm o' ho'
      refine ⟨q1,fun p hp=>?_⟩
      rcases List.mem_cons.1 hp with e0 | hp
      ·subst e0; exact q2
      ·exact (hc (by intro h0; subst h0; cases hp) o' (by rw [hsplit]; exact List.mem_append_left _ ho')).2 p hp
     obtain ⟨e1,sl1,hp2,ef2,b1,b2,b3,b4⟩:=Zf0 n he hA' hc' h1
     obtain ⟨v',g1,g2⟩:=Z4 b4
     cases g2
     obtain ⟨o1,o2⟩:=Zja (P := P) _ _ _ (fun o' ho'=>⟨(hcalm o' ho').1,(hcalm o' ho').2.2⟩) b1
     refine behind sl1 _ _ c _ b1 o1 o2 (fun p hp=>b3 p (.tail _ hp)) (b3 _ (.head _)) ?_ h2
     have:=b2.opnd g1
     cases c <;> exact this
    ·rename_i hcw
     have hcw:c=!want:=ZsR _ _ hcw
     subst hcw
     obtain ⟨v,h1,h2⟩:=Yp h
     obtain ⟨sl1,b1,b2,b3⟩:=ZgT (G := G) (N := N) (bs := bs) (call := K) (P := P) (t := t) (want := want) (o :: l) [] sl hp ef ht (fun _ hx=>by cases hx) he.len
     rw [← hm] at b1
     have he1:WL N P e sl1:=⟨b2.trans he.len,fun j hj hn=>(b3 j hn).trans (he.val j hj hn),he.ok⟩
     have hA1:Held A sl1:=by
      by_cases hne:A=[]
      ·subst hne; intro p hp; cases hp
      ·have hall:∀ o' ∈ (o :: l).take m,∀ p ∈ A,o'.dst≠some p.1:=fun o' ho' p hp=>(hc hne o' (by rw [hsplit]; exact List.mem_append_left _ ho')).2 p hp
       intro p hp
       have:=Zja (G := G) (call := K) (P := ((o :: l).take m).filterMap (·.dst)) _ _ _ (fun o' ho'=>⟨(hcalm o' ho').1,fun x hx=>List.mem_filterMap.2 ⟨o',ho',hx⟩⟩) b1
       rw [this.2 p.1 (fun hmem=>by obtain ⟨o',ho',hx⟩:=List.mem_filterMap.1 hmem; exact hall o' ho' p hp hx)]
       exact hA p hp
     refine behind sl1 _ _ (!want) _ b1 b2 b3 hA1 (by rw [b3 t htP]; exact ht) ?_ h2
     have:=he1.opnd h1
     cases want <;> exact this
   ·cases h
  | none =>
   simp only [Zlf,hg] at h
   simp only [ZnO,hg]
   obtain ⟨e1,sl1,hp1,ef1,h1,h2,h3,h4⟩:=Zrn he hA (fun hne o' ho'=>hc hne o' (by rcases List.mem_cons.1 ho' with e0 | e0; (subst e0; exact .head _); cases e0)) h
   obtain ⟨e2,sl2,hp2,ef2,g1,g2,g3,g4⟩:=Zf0 n h2 h3 (fun hne o' ho'=>hc hne o' (.tail _ ho')) h4
   exact ⟨e2,sl2,hp2,ef2,by simp only [ZC,h1,g1],g2,g3,g4⟩
theorem Zo6 {P:List Nat}{d:Option Nat}{t:Nat}(h:t ∈ rmO d P):t ∈ P:=by
 cases d with
 | none=>exact h
 | some d=>exact (ZkZ.1 h).1
theorem Zfn:∀ (n:Nat) {A:List (Nat×Bool)} {P:List Nat} {ops:List ZN} {t:Nat},t ∈ ZnO N n A P ops→t ∈ P
 | 0,A,P,ops,t,h=>by simpa [ZnO] using h
 | n + 1,A,P,[],t,h=>by simpa [ZnO] using h
 | n + 1,A,P,o :: l,t,h=>by
  unfold ZnO at h
  split at h
  ·exact Zo6 (Zfn n h)
  ·exact Zo6 (Zfn n h)
theorem Zfz {P:List Nat}{ops:List ZN}{e:Env}{sl:List AV}(he:WL N P e sl){hp:List Zl}{ef:Eff}{k:BQ}{r:AV×List Zl×Eff}(h:Zlf G N bs K ops.length [] P ops k e hp ef=some r) :
  ZpW N bs P (ZC G K ops ⟨sl,hp,ef,bs⟩) k r:=by
 obtain ⟨e',sl',hp',ef',h1,h2,_,h4⟩:=Zf0 ops.length he (fun p hp=>by cases hp) (fun hne=>absurd rfl hne) h
 exact ⟨e',sl',hp',ef',h1,h2.mono fun t ht=>Zfn _ ht,h4⟩
def Goes (N bs:Nat)(P:List Nat)(x:Option (Ii×Zb))(n rt:BQ)(xs:List (Nat×BQ))(r:AV×List Zl×Eff):Prop :=
 ∃ (ex:Ii) (e':Env) (sl':List AV) (hp':List Zl) (ef':Eff),x=some (ex,⟨sl',hp',ef',bs⟩)∧WL N P e' sl'∧match ex with
  | .normal=>n e' hp' ef'=some r
  | .ret=>rt e' hp' ef'=some r
  | .exit i=>ZqR i xs e' hp' ef'=some r
variable {L:Nat}
theorem ZbB (a b:Wn)(n r:BQ)(xs:List (Nat×BQ)):QM G N bs K P L (.seq a b) n r xs=QM G N bs K P L a (QM G N bs K P L b n r xs) r xs:=rfl
theorem Ph (id:Nat)(c:Wn)(n r:BQ)(xs:List (Nat×BQ)):QM G N bs K P L (.block id c) n r xs=QM G N bs K P L c n r ((id,n) :: xs):=rfl
theorem Pi (c:Wn)(n r:BQ)(xs:List (Nat×BQ)):QM G N bs K P L (.scope c) n r xs=QM G N bs K P L c n r xs:=rfl
theorem EZ (c:Yl)(a b:Wn)(n r:BQ)(xs:List (Nat×BQ)):QM G N bs K P L (.cond c a b) n r xs=fun e hp ef=>rdK (WH G N P e c) fun v=>ifK v (QM G N bs K P L a n r xs e hp ef) (QM G N bs K P L b n r xs e hp ef):=rfl
theorem Hf:∀ (c:Wn) {n rt:BQ} {xs:List (Nat×BQ)} {e:Env} {sl:List AV} (_:WL N P e sl) {hp:List Zl} {ef:Eff} {r:AV×List Zl×Eff},QM G N bs K P L c n rt xs e hp ef=some r →
  Goes N bs P (Zv G K L c ⟨sl,hp,ef,bs⟩) n rt xs r
 | .skip,n,rt,xs,e,sl,he,hp,ef,r,h=>⟨.normal,e,sl,hp,ef,rfl,he,h⟩
 | .region false ops,n,rt,xs,e,sl,he,hp,ef,r,h=>by
  obtain ⟨e',sl',hp',ef',h1,h2,h3⟩:=Zfz he h
  exact ⟨.normal,e',sl',hp',ef',by simp only [Zv,h1,Option.map_some],h2,h3⟩
 | .region true ops,n,rt,xs,e,sl,he,hp,ef,r,h=>by
  obtain ⟨e',sl',hp',ef',h1,h2,h3⟩:=Zfz he h
  exact ⟨.normal,e',sl',hp',ef',by simp only [Zv,h1,Option.map_some],h2,h3⟩
 | .regionB ops,n,rt,xs,e,sl,he,hp,ef,r,h=>by
  obtain ⟨e',sl',hp',ef',h1,h2,h3⟩:=Zfz he h
  exact ⟨.normal,e',sl',hp',ef',by simp only [Zv,h1,Option.map_some],h2,h3⟩
 | .seq a b,n,rt,xs,e,sl,he,hp,ef,r,h=>by
  obtain ⟨ex,e',sl',hp',ef',h1,h2,h3⟩:=Hf a he h
  cases ex with
  | normal =>
   obtain ⟨ex,e2,sl2,hp2,ef2,g1,g2,g3⟩:=Hf b h2 h3
   exact ⟨ex,e2,sl2,hp2,ef2,by simp only [Zv,h1,g1],g2,g3⟩
  | ret=>exact ⟨.ret,e',sl',hp',ef',by simp only [Zv,h1],h2,h3⟩
  | exit i=>exact ⟨.exit i,e',sl',hp',ef',by simp only [Zv,h1],h2,h3⟩
 | .cond c a b,n,rt,xs,e,sl,he,hp,ef,r,h=>by
  obtain ⟨v,h1,h2⟩:=Z4 (show rdK (WH G N P e c) (fun v=>ifK v (QM G N bs K P L a n rt xs e hp ef) (QM G N bs K P L b n rt xs e hp ef))=some r from h)
  unfold ifK at h2
  split at h2
  ·obtain ⟨ex,e',sl',hp',ef',g1,g2,g3⟩:=Hf a he h2
   exact ⟨ex,e',sl',hp',ef',by simp only [Zv,he.opnd h1,g1],g2,g3⟩
  ·obtain ⟨ex,e',sl',hp',ef',g1,g2,g3⟩:=Hf b he h2
   exact ⟨ex,e',sl',hp',ef',by simp only [Zv,he.opnd h1,g1],g2,g3⟩
  ·cases h2
 | .block id c,n,rt,xs,e,sl,he,hp,ef,r,h=>by
  obtain ⟨ex,e',sl',hp',ef',h1,h2,h3⟩:=Hf c he h
  cases ex with
  | normal=>exact ⟨.normal,e',sl',hp',ef',by simp only [Zv,h1],h2,h3⟩
  | ret=>exact ⟨.ret,e',sl',hp',ef',by simp only [Zv,h1],h2,h3⟩
  | exit i =>
   simp only [ZqR] at h3
   by_cases hi:i=id
   ·subst hi
    rw [Nat.beq_refl,NT] at h3
    exact ⟨.normal,e',sl',hp',ef',by simp only [Zv,h1,if_true],h2,h3⟩
   ·have:Nat.beq id i=false:=by cases hb:Nat.beq id i with | false=>rfl | true=>exact absurd (Nat.eq_of_beq_eq_true hb).symm hi
    rw [this,Ba] at h3
    exact ⟨.exit i,e',sl',hp',ef',by simp only [Zv,h1,if_neg hi],h2,h3⟩
 | .loop c,n,rt,xs,e,sl,he,hp,ef,r,h=>by
  have go:∀ (m:Nat) {e:Env} {sl:List AV} (_:WL N P e sl) {hp:List Zl} {ef:Eff},Zdz (fun n'=>QM G N bs K P L c n' rt xs) m e hp ef=some r →
    Goes N bs P (iter (Zv G K L c) m ⟨sl,hp,ef,bs⟩) n rt xs r:=by
   intro m
   induction m with
   | zero=>intro e sl he hp ef h; cases h
   | succ m ih =>
    intro e sl he hp ef h
    obtain ⟨ex,e',sl',hp',ef',h1,h2,h3⟩:=Hf c he (show QM G N bs K P L c (Zdz (fun n'=>QM G N bs K P L c n' rt xs) m) rt xs e hp ef=some r from h)
    cases ex with
    | normal =>
     obtain ⟨ex,e2,sl2,hp2,ef2,g1,g2,g3⟩:=ih h2 h3
     exact ⟨ex,e2,sl2,hp2,ef2,by simp only [iter,h1,g1],g2,g3⟩
    | ret=>exact ⟨.ret,e',sl',hp',ef',by simp only [iter,h1],h2,h3⟩
    | exit i=>exact ⟨.exit i,e',sl',hp',ef',by simp only [iter,h1],h2,h3⟩
  exact go L he h
 | .scope c,n,rt,xs,e,sl,he,hp,ef,r,h=>Hf c he h
 | .exit id,n,rt,xs,e,sl,he,hp,ef,r,h=>⟨.exit id,e,sl,hp,ef,rfl,he,h⟩
 | .ret,n,rt,xs,e,sl,he,hp,ef,r,h=>⟨.ret,e,sl,hp,ef,rfl,he,h⟩
 | .bad,n,rt,xs,e,sl,he,hp,ef,r,h=>by cases h
end
theorem Zpt {e:Env}{N:Nat}{P:List Nat}{sl:List AV}(he:WL N P e sl){hp:List Zl}{ef:Eff}{bs:Nat}{r:Zdh}{v:AV}(h:Zx8 e N P hp r=some v):TS ⟨sl,hp,ef,bs⟩ r=some v:=by
 cases r <;> simp only [Zx8] at h <;> obtain ⟨h1,h2⟩:=VK h
 ·cases h2; exact he.get h1
 ·simp only [TS,he.get h1,h2]
 ·simp only [TS,he.get h1,h2]
theorem Zl0 {e:Env}{N:Nat}{P:List Nat}{sl:List AV}(he:WL N P e sl){hp:List Zl}{ef:Eff}{bs:Nat}:∀ {rs:List Zdh} {k:List AV→KR} {q:AV×List Zl×Eff},ZrF e N P hp rs k=some q→∃ vs,U5 ⟨sl,hp,ef,bs⟩ rs=some vs∧k vs=some q
 | [],k,q,h=>⟨[],rfl,h⟩
 | r :: l,k,q,h=>by
  simp only [ZrF] at h
  obtain ⟨v,hv,h⟩:=Z4 h
  obtain ⟨vs,hvs,h⟩:=Zl0 (ef := ef) (bs := bs) he h
  exact ⟨v.nm :: vs,by simp only [U5,Zpt he hv,hvs],h⟩
theorem ZmD {e:Env}{N:Nat}{P:List Nat}{sl:List AV}(he:WL N P e sl){hp:List Zl}{ef:Eff}{bs:Nat}{rs:List Zdh}{k:AV→KR}{q:AV×List Zl×Eff}(h:ZjQ e N P hp rs k=some q):∃ v,QP ⟨sl,hp,ef,bs⟩ rs=some v∧k v=some q:=by
 unfold ZjQ at h
 split at h
 ·obtain ⟨v,hv,h⟩:=Z4 h
  exact ⟨v,Zpt he hv,h⟩
 ·rename_i hne
  obtain ⟨vs,hvs,h⟩:=Zl0 (ef := ef) (bs := bs) he h
  refine ⟨_,?_,h⟩
  unfold QP
  split
  ·exact absurd rfl (hne _)
  ·rw [hvs]; rfl
theorem ZeH:∀ (args:List AV) (t:Nat),ZpZ args t=.raw (args.getD t .undef)
 | [],t=>by simp [ZpZ]
 | v :: l,0=>rfl
 | v :: l,t + 1=>by
  show ZpZ l t=_
  rw [ZeH l t]
  rfl
theorem ZsL {args:List AV}{N:Nat}{P:List Nat}(h:args.length≤N):WL N P (ZpZ args) (args ++ List.replicate (N - args.length) .undef):=by
 refine ⟨by simp; omega,fun t ht _=>?_,fun t=>by rw [ZeH]; rfl⟩
 rw [ZeH,List.getD_eq_getElem?_getD]
 by_cases h1:t < args.length
 ·rw [List.getElem?_append_left h1]; simp [h1,KV.val]
 ·rw [List.getElem?_append_right (by omega),List.getElem?_replicate]
  simp [show t - args.length < N - args.length by omega,show args[t]? = none from List.getElem?_eq_none (by omega),KV.val]
theorem ZkM {C:Cfg}{P:List Nat}{f:FuncId}{fn:AFn}(hT:C.T f=some fn){n:Nat}{args:List AV}{hp:List Zl}{r:AV×List Zl×Eff}(hl:args.length≤fn.ntmps)(h:fnK C.G (Z5 C n) P C.L fn args hp=some r) :
  Z5 C (n + 1) f args hp=some r:=by
 obtain ⟨ex,e',sl',hp',ef',h1,h2,h3⟩:=Hf fn.code (ZsL hl) h
 have hret:∀ (_:ZaI P fn hp e' hp' ef'=some r),∃ v,QP ⟨sl',hp',ef',hp.length⟩ fn.results=some v∧(if fn.keep then (v.nm,hp',ef') else finish v ⟨sl',hp',ef',hp.length⟩ hp)=r:=by
  intro h
  obtain ⟨v,a1,a2⟩:=ZmD h2 h
  refine ⟨v,a1,?_⟩
  cases a2
  unfold Zal
  cases fn.keep <;> rfl
 rw [Z5]
 simp only [hT,h1]
 cases ex with
 | normal =>
  obtain ⟨v,a1,a2⟩:=hret h3
  simp only [a1,a2]
 | ret =>
  obtain ⟨v,a1,a2⟩:=hret h3
  simp only [a1,a2]
 | exit i=>cases h3
end Go.Proofs.YtgjcjbhhhlelnaaGreatDoor.Abs
end
section
namespace Go.Proofs.YtgjcjbhhhlelnaaGreatDoor.Abs
open Go
theorem Zw9 {α:Type}(v:α)(k:α→KR):Xt (some v) k=k v:=rfl
theorem Zw7 {α β:Type}(a:α)(b:β)(k:α→β→KR):Zhi (some (a,b)) k=k a b:=rfl
theorem Zw8 {α β γ:Type}(a:α)(b:β)(c:γ)(k:α→β→γ→KR):MX (some (a,b,c)) k=k a b c:=rfl
theorem Zyk (b:Bool)(x y:KR):ifK (.bool b) x y=if b=true then x else y:=by cases b <;> rfl
theorem Zq9 (x:KR)(hp:List Zl)(ef:Eff)(k:AV→List Zl→Eff→KR):D9 (some true) x hp ef k=MX x k:=rfl
theorem Zq8 (x:KR)(hp:List Zl)(ef:Eff)(k:AV→List Zl→Eff→KR):D9 (some false) x hp ef k=k .undef hp ef:=rfl
theorem Zod (b:Bool):D8 true (.bool b)=some b:=by cases b <;> rfl
theorem Zoc (b:Bool):D8 false (.bool b)=some (!b):=by cases b <;> rfl
theorem Zu0 (a b:AV):Zd2 (.bool true) a b=some a:=rfl
theorem Zuz (a b:AV):Zd2 (.bool false) a b=some b:=rfl
theorem ZvX {α:Type}(x:α)(k:α→KR):ZuX x k=k x:=rfl
theorem Zu9 (b:Bool):AV.ro (.bool b)=.bool b:=rfl
theorem Zxb (k:IntKind)(n:Int):AV.ro (.int k n)=.int k n:=rfl
theorem Zxm (s:List UInt8):AV.ro (.str s)=.str s:=rfl
theorem Zxf (k:Nat)(r:List (List AV)):AV.ro (.lst k r)=.lst k r:=rfl
theorem Zxj (k:Nat)(r:List (List AV)):AV.ro (.own k r)=.lst k r:=rfl
theorem ZwX (c:List AV):AV.ro (.agg c)=.agg c:=rfl
theorem Zxn (c:List AV):AV.ro (.tup c)=.tup c:=rfl
theorem Zxk (g o:Nat):AV.ro (.ptr g o)=.ptr g o:=rfl
theorem Zxg (g:Nat):AV.ro (.map g)=.map g:=rfl
theorem Zxl (c:List AV):AV.ro (.ref c)=.ref c:=rfl
theorem ZyJ (f:FuncId)(a c:List AV):AV.ro (.fn f a c)=.fn f a c:=rfl
theorem ZrK:AV.ro .undef=.undef:=rfl
theorem ZtH (b:Bool):AV.nm (.bool b)=.bool b:=rfl
theorem Zwl (k:IntKind)(n:Int):AV.nm (.int k n)=.int k n:=rfl
theorem Zwp (s:List UInt8):AV.nm (.str s)=.str s:=rfl
theorem Zwm (k:Nat)(r:List (List AV)):AV.nm (.lst k r)=.lst k r:=rfl
theorem ZoA (k:Nat)(r:List (List AV)):AV.nm (.own k r)=.lst k r:=rfl
theorem Zwk (c:List AV):AV.nm (.agg c)=.agg (c.map AV.ro):=rfl
theorem Zwo (g o:Nat):AV.nm (.ptr g o)=.ptr g o:=rfl
theorem Zwn (g:Nat):AV.nm (.map g)=.map g:=rfl
theorem Zy0 (f:FuncId)(a c:List AV):AV.nm (.fn f a c)=.fn f a c:=rfl
theorem Zvp (op:BinOp)(a b:List UInt8):ZI op .prim (.str a) (.str b)=Zge op a b:=rfl
theorem ZxI (k:IntKind)(a b:Int):ZI .add .prim (.int k a) (.int k b)=some (.int k (k.wrap (a + b))):=by simp [ZI,J6,UJ]
theorem ZxO (k:IntKind)(a b:Int):ZI .sub .prim (.int k a) (.int k b)=some (.int k (k.wrap (a - b))):=by simp [ZI,J6,UJ]
theorem ZxL (k:IntKind)(a b:Int):ZI .mul .prim (.int k a) (.int k b)=some (.int k (k.wrap (a * b))):=by simp [ZI,J6,UJ]
theorem Zzi (k:IntKind)(a b:Int):ZI .eql .prim (.int k a) (.int k b)=some (.bool (decide (a=b))):=by
 simp only [ZI,J6,UJ,Bool.false_eq_true,if_false,if_true]; congr 2
theorem Zzn (k:IntKind)(a b:Int):ZI .neq .prim (.int k a) (.int k b)=some (.bool (decide (a≠b))):=by
 simp only [ZI,J6,UJ,Bool.false_eq_true,if_false,if_true]
 by_cases h:a=b <;> simp [h]
theorem Zzm (k:IntKind)(a b:Int):ZI .lss .prim (.int k a) (.int k b)=some (.bool (decide (a < b))):=by simp [ZI,J6,UJ]
theorem Zzl (k:IntKind)(a b:Int):ZI .leq .prim (.int k a) (.int k b)=some (.bool (decide (a≤b))):=by simp [ZI,J6,UJ]
theorem Zzk (k:IntKind)(a b:Int):ZI .gtr .prim (.int k a) (.int k b)=some (.bool (decide (b < a))):=by simp [ZI,J6,UJ]
theorem Zzj (k:IntKind)(a b:Int):ZI .geq .prim (.int k a) (.int k b)=some (.bool (decide (b≤a))):=by simp [ZI,J6,UJ]
theorem Zzv (a b:List UInt8):ZI .eql .prim (.str a) (.str b)=some (.bool (decide (a=b))):=by
 rw [Zvp,Zge]; congr 2
 by_cases h:a=b <;> simp [h]
theorem Zzw (a b:List UInt8):ZI .neq .prim (.str a) (.str b)=some (.bool (decide (a≠b))):=by
 rw [Zvp,Zge]; congr 2
 by_cases h:a=b <;> simp [h]
theorem ZyQ (b:Bool):Za4 .not (.bool b)=some (.bool (!b)):=rfl
theorem ZyP (k:IntKind)(n:Int):Za4 .neg (.int k n)=some (.int k (k.wrap (0 - n))):=rfl
theorem Zyv (hp:List Zl)(s:List UInt8):Xk hp .str (.str s)=some (.int .i64 s.length):=rfl
theorem Zyq (hp:List Zl)(k:Nat)(r:List (List AV)):Xk hp .slice (.lst k r)=some (.int .i64 r.length):=rfl
theorem ZxT (hp:List Zl)(k k':IntKind)(n:Int):XP hp (.int k) (.int k' n)=some (.int k (k.wrap n)):=rfl
theorem ZyU (l:List AV)(i:Nat):Be (.tup l) i=(l[i]?).map AV.ro:=rfl
theorem ZlC (bs:Nat)(ef:Eff):Dz bs ef none=ef:=rfl
theorem Zqv (hp0:List Zl)(b:Bool)(hp:List Zl):Zal false hp0 (.bool b) hp none=(.bool b,hp0,none):=rfl
theorem Ztp (hp0:List Zl)(k:IntKind)(n:Int)(hp:List Zl):Zal false hp0 (.int k n) hp none=(.int k n,hp0,none):=rfl
theorem Zts (hp0:List Zl)(s:List UInt8)(hp:List Zl):Zal false hp0 (.str s) hp none=(.str s,hp0,none):=rfl
theorem Ztq (hp0:List Zl)(k:Nat)(r:List (List AV))(hp:List Zl):Zal false hp0 (.lst k r) hp none=(.lst k r,hp0,none):=rfl
theorem Ztr (hp0:List Zl)(k:Nat)(r:List (List AV))(hp:List Zl):Zal false hp0 (.own k r) hp none=(.own k r,hp0,none):=rfl
theorem Ztw (bs:Nat)(hp:List Zl)(l:List AV):frz bs hp (.tup l)=(l.mapM (LM bs hp)).map .tup:=by rw [frz]
theorem Zq3 (bs:Nat)(hp:List Zl)(k:IntKind)(n:Int):LM bs hp (.int k n)=some (.int k n):=rfl
theorem Zq5 (bs:Nat)(hp:List Zl)(s:List UInt8):LM bs hp (.str s)=some (.str s):=rfl
theorem ZnV (bs:Nat)(hp:List Zl)(b:Bool):LM bs hp (.bool b)=some (.bool b):=rfl
theorem Zq4 (bs:Nat)(hp:List Zl)(k:Nat)(r:List (List AV)):LM bs hp (.lst k r)=some (.lst k r):=rfl
theorem ZnP (hp0:List Zl)(l:List AV)(hp:List Zl):Zal false hp0 (.tup l) hp none=match l.mapM (LM hp0.length hp) with
  | some l'=>(.tup l',hp0,none)
  | none=>(.tup l,hp,none):=by
 show finish (.tup l) ⟨[],hp,none,hp0.length⟩ hp0=_
 simp only [finish,Ztw]
 cases l.mapM (LM hp0.length hp) <;> rfl
theorem O7 (h:List Zl)(x:Zl):(h ++ [x])[h.length]? = some x:=by simp
theorem ZkV (h:List Zl)(x y:Zl):(h ++ [x]).set h.length y=h ++ [y]:=by simp
theorem ZyA (ks:List CK)(k:IntKind)(x y:Int)(l m:List AV):Yk (.int :: ks) (.int k x :: l) (.int k y :: m)=if x=y then Yk ks l m else some false:=by
 by_cases h:x=y
 ·subst h; simp [Yk,Wv]
 ·have:(x == y)=false:=by simpa using h
  simp [Yk,Wv,h,this]
theorem ZyC (ks:List CK)(x y:List UInt8)(l m:List AV):Yk (.str :: ks) (.str x :: l) (.str y :: m)=if x=y then Yk ks l m else some false:=by
 by_cases h:x=y
 ·subst h; simp [Yk,Wv]
 ·have:(x == y)=false:=by simpa using h
  simp [Yk,Wv,h,this]
theorem ZwV (ks:List CK)(x y:Bool)(l m:List AV):Yk (.bool :: ks) (.bool x :: l) (.bool y :: m)=if x=y then Yk ks l m else some false:=by
 cases x <;> cases y <;> simp [Yk,Wv]
theorem ZyB:Yk [] [] []=some true:=rfl
theorem Zzu (p:Prop)[Decidable p](b:Bool):(if p then some b else some false)=some (decide p && b):=by by_cases h:p <;> simp [h]
theorem ZxK (ks:List CK)(a b:List AV):ZI .eql (.struct ks) (.agg a) (.agg b)=(Yk ks a b).map .bool:=rfl
theorem ZxN (ks:List CK)(a b:List AV):ZI .neq (.struct ks) (.agg a) (.agg b)=(Yk ks a b).map fun b=>.bool (!b):=rfl
theorem ZxJ (a b:Bool):ZI .eql .bool (.bool a) (.bool b)=some (.bool (a == b)):=rfl
theorem ZxM (a b:Bool):ZI .neq .bool (.bool a) (.bool b)=some (.bool (!(a == b))):=rfl
def gif (b:Bool)(v:AV):AV:=if b=true then v else .undef
theorem ZxY (v:AV):gif true v=v:=rfl
theorem ZiC (b:Bool)(v:AV)(hp:List Zl)(ef:Eff)(k:AV→List Zl→Eff→KR):D9 (some b) (some (v,hp,ef)) hp ef k=k (gif b v) hp ef:=by cases b <;> rfl
theorem ZwZ (b:Bool)(v:AV):AV.ro (gif b v)=gif b (AV.ro v):=by cases b <;> rfl
theorem Zr4 (b c:Bool):Zd2 (.bool b) (gif b (.bool c)) (.bool false)=some (.bool (b && c)):=by cases b <;> rfl
theorem Zr5 (b c:Bool):Zd2 (.bool b) (.bool true) (gif (!b) (.bool c))=some (.bool (b || c)):=by cases b <;> rfl
theorem Ztx (b c:Bool)(hp:List Zl)(ef:Eff)(k:AV→List Zl→Eff→KR):Zer (.bool b) true (some (.bool c,hp,ef)) (some (.bool false)) hp ef k=k (.bool (b && c)) hp ef:=by cases b <;> rfl
theorem ZvC (b c:Bool)(hp:List Zl)(ef:Eff)(k:AV→List Zl→Eff→KR):Zer (.bool b) false (some (.bool c,hp,ef)) (some (.bool true)) hp ef k=k (.bool (b || c)) hp ef:=by cases b <;> rfl
theorem ZvE (x:KR)(o:Option AV)(hp:List Zl)(ef:Eff)(k:AV→List Zl→Eff→KR):Zer (.bool true) true x o hp ef k=MX x k:=rfl
theorem ZvB (x:KR)(v:AV)(hp:List Zl)(ef:Eff)(k:AV→List Zl→Eff→KR):Zer (.bool false) true x (some v) hp ef k=k v hp ef:=rfl
theorem ZvD (x:KR)(v:AV)(hp:List Zl)(ef:Eff)(k:AV→List Zl→Eff→KR):Zer (.bool true) false x (some v) hp ef k=k v hp ef:=rfl
theorem ZvA (x:KR)(o:Option AV)(hp:List Zl)(ef:Eff)(k:AV→List Zl→Eff→KR):Zer (.bool false) false x o hp ef k=MX x k:=rfl
@[congr] theorem ZuT {c c':AV}{w:Bool}{x x':KR}{o:Option AV}{hp:List Zl}{ef:Eff}{k:AV→List Zl→Eff→KR}(hc:c=c')(hx:x=x'):Zer c w x o hp ef k=Zer c' w x' o hp ef k:=by rw [hc,hx]
@[congr] theorem Zsn {b b':Bool}{x x':KR}{hp:List Zl}{ef:Eff}{k:AV→List Zl→Eff→KR}(hb:b=b')(hx:b'=true→x=x'):D9 (some b) x hp ef k=D9 (some b') x' hp ef k:=by
 subst hb
 cases b with
 | false=>rfl
 | true=>rw [hx rfl]
@[congr] theorem Zvc {α:Type}{x x':Option α}{k:α→KR}(h:x=x'):Xt x k=Xt x' k:=by rw [h]
@[congr] theorem Zva {α β:Type}{x x':Option (α×β)}{k:α→β→KR}(h:x=x'):Zhi x k=Zhi x' k:=by rw [h]
@[congr] theorem Zvb {α β γ:Type}{x x':Option (α×β×γ)}{k:α→β→γ→KR}(h:x=x'):MX x k=MX x' k:=by rw [h]
@[congr] theorem ZuY {α:Type}{x x':α}{k:α→KR}(h:x=x'):ZuX x k=ZuX x' k:=by rw [h]
@[congr] theorem ZvQ {x x':AV}{a b:KR}(h:x=x'):ifK x a b=ifK x' a b:=by rw [h]
theorem ZrP (bs n:Nat)(h:List Zl)(cs:List AV)(t:TypeId)(o:Nat)(v:AV)(ef:Eff)(h1:v.cells.length=n)(h2:o + n≤cs.length)(h3:v.laid=true)(h4:bs≤h.length) :
  stV bs n (.ptr h.length o) v (h ++ [.cells cs t]) ef=some (h ++ [.cells (splice cs o v.cells) t],ef):=by
 simp only [stV,O7,h1,h2,h3,and_self,if_true,ZkV,Zft]
 rw [if_neg (by omega)]
theorem Zox {hp:List Zl}{g:Nat}{cs:List AV}{t:TypeId}(h:hp[g]? = some (.cells cs t))(o:Nat):QH hp (.ptr g o)=(cs[o]?).map AV.ro:=by
 simp only [QH,h]
theorem Zt8 {hp:List Zl}{g:Nat}{cs:List AV}{t:TypeId}(h:hp[g]? = some (.cells cs t))(n o:Nat)(h1:o + n≤cs.length):VB hp n (.ptr g o)=some (.agg (((cs.drop o).take n).map AV.ro)):=by
 simp only [VB,h,h1,if_true]
theorem i64_in {x:Int}(h1:-9223372036854775808≤x)(h2:x≤9223372036854775807):IntKind.i64.wrap x=x:=IntWalk.i64_in x ⟨h1,h2⟩
theorem E8 (n:Nat)(h:n < 4611686018427387904):IntKind.i64.wrap ((n:Int) + 1)=((n + 1:Nat):Int):=by rw [i64_in (by omega) (by omega)]; omega
theorem Zt9 (hp:List Zl)(c:AV)(l:List AV):QH hp (.ref (c :: l))=some c.ro:=rfl
theorem Zv5 (o:Nat)(c:List AV):NZ o (.ref c)=some (.ref (c.drop o)):=rfl
theorem Zv4 (o g p:Nat):NZ o (.ptr g p)=some (.ptr g (p + o)):=rfl
theorem ZsV (n:Nat)(c:List AV)(h:c.length=n):ZsU n (.agg c)=some c:=by simp [ZsU,AV.cells,AV.laid,h]
end Go.Proofs.YtgjcjbhhhlelnaaGreatDoor.Abs
end
end
