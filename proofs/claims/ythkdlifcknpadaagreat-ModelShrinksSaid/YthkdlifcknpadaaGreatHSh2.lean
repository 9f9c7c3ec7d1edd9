import Derived.Test.YthkdlifcknpadaaGreatHSh1
set_option linter.all false
section
section
namespace Go.Proofs.YthkdlifcknpadaaGreat.Abs
open Go Go.RowKit
section
variable {P:Program}{G:Nat→Option (List AV)}{call:FuncId→List AV→List Zh→Option (AV×List Zh×Eff)}{E:Entry}{s s':Za}{Γ:Zu}{a:Act}{w:World}{hand:Nat→Bool}{draw:Bool}
def Ends (E:Entry)(r:U3×Za)(e:Exit)(a:Act)(w:World):Prop :=
 (match r.1,e with
  | .normal,.normal=>True
  | .exit i,.exit j=>i=j
  | .ret,.ret=>True
  | _,_=>False)∧∃ Γ,Inv E r.2 Γ a w
theorem Ends.normal {s:Za}{Γ:Zu}{a:Act}{w:World}(h:Inv E s Γ a w):Ends E (.normal,s) .normal a w:=⟨trivial,Γ,h⟩
theorem Zfp {c:Code}{f:Za→Option (U3×Za)}(ih:∀ {s:Za} {r:U3×Za} {Γ:Zu} {a:Act} {w:World},f s=some r→Inv E s Γ a w→c.wp P (Ends E r) a w) :
  ∀ (n:Nat) {s:Za} {r:U3×Za} {Γ:Zu} {a:Act} {w:World},iter f n s=some r→Inv E s Γ a w→Code.rounds P c (Ends E r) n a w
 | 0,_,_,_,_,_,h,_=>by cases h
 | n + 1,s,r,Γ,a,w,h,hI=>by
  rw [rounds_succ]
  simp only [iter] at h
  split at h
  ·rename_i s1 h1
   refine Go.wp_mono (ih h1 hI) fun e a' w' he=>?_
   obtain ⟨k1,Γ',i1⟩:=he
   cases e <;> first | exact k1.elim | skip
   exact Zfp ih n h i1
  ·rename_i hne
   refine Go.wp_mono (ih h hI) fun e a' w' he=>?_
   cases e <;> first | exact he | skip
   obtain ⟨k1,_⟩:=he
   obtain ⟨x,s1⟩:=r
   cases x <;> first | exact k1.elim | skip
   exact absurd h (hne s1)
theorem Zff (hm:P.follows .mixedOrders=true)(hG:GOk G E.W0)(hS:ZT P E.W0 call)(hB:ZT P E.W0 (Yd call)){takes:FuncId→List Nat}{res:List Nat}(L:Nat):∀ {c:Code} {ac:Wh} {s:Za} {r:U3×Za} {Γ:Zu} {a:Act} {w:World},
  Ua P takes res c=some ac→Zq G call L ac s=some r→Inv E s Γ a w→c.wp P (Ends E r) a w:=by
 intro c
 induction c with
 | skip =>
  intro ac s r Γ a w hc h hI
  cases hc; cases h
  exact Go.wp_skip (.normal hI)
 | region id ops draw =>
  intro ac s r Γ a w hc h hI
  cases draw with
  | false =>
   simp only [Ua] at hc
   obtain ⟨aops,h1,rfl⟩:=Option.map_eq_some_iff.1 hc
   simp only [Zq] at h
   obtain ⟨s1,h2,rfl⟩:=Option.map_eq_some_iff.1 h
   refine wp_region ?_
   rw [List.range_eq_range']
   have:=Zhm hG hS (Q := Ends E (.normal,s1)) 0 (l := ops.toList) (by simp) h1 h2 hI fun Γ a w h=>.normal h
   simpa using this
  | true =>
   simp only [Ua] at hc
   split at hc <;> first | (cases hc; done) | skip
   rename_i aops bops h1 h1'
   split at hc
   ·rename_i hq
    simp only [Bool.and_eq_true] at hq
    cases hc
    generalize LX ops ops.size=n at *
    simp only [Zq] at h
    have hl:ops.size=bops.length:=by simpa using (X3 h1').1
    have hnle:n≤ops.size:=by
     have:=hq.2
     simp only [Znm,Bool.and_eq_true,decide_eq_true_eq] at this
     exact this.1.1.2
    cases h2:Z7 G (WX call) (bops.take n) s with
    | none=>rw [h2] at h; simp at h
    | some s1 =>
     rw [h2] at h
     simp only [Option.map_some] at h
     obtain ⟨s2,h3,rfl⟩:=Option.map_eq_some_iff.1 h
     refine wp_region_any hm ?_
     have hb:Behind w { w with drawn:=w.drawn + 1 }:=⟨rfl,rfl,rfl,Nat.le_refl _,fun _ _=>rfl⟩
     have hrep:∀ i,i < ops.size→(Array.replicate ops.size false).getD i true=false:=fun i hi=>by simp [hi]
     have hr:WS n (Array.replicate ops.size false)=List.range n:=by
      unfold WS
      refine List.filter_eq_self.2 fun i hi=>?_
      simp only [List.mem_range] at hi
      rw [hrep i (by omega)]; rfl
     have hr2:Gz n ops.size (Array.replicate ops.size false)=(List.range ops.size).drop n:=by
      unfold Gz
      rw [show (List.range ops.size)=List.range n ++ (List.range ops.size).drop n from by
       rw [show List.range n=(List.range ops.size).take n from by rw [List.take_range,Nat.min_eq_left hnle],List.take_append_drop]]
      rw [List.filter_append,List.filter_eq_nil_iff.2 (fun i hi=>by
       simp only [List.mem_range] at hi
       have:¬ n≤i:=by omega
       simp [this]),List.nil_append]
      rw [List.drop_append_of_le_length (by simp),show (List.range n).drop n=[] from by simp,List.nil_append]
      refine List.filter_eq_self.2 fun i hi=>?_
      obtain ⟨k,hk⟩:=List.mem_iff_getElem?.1 hi
      rw [List.getElem?_drop] at hk
      have hlt:=(List.getElem?_eq_some_iff.1 hk).1
      rw [List.getElem?_range (by simpa using hlt)] at hk
      cases hk
      simp only [List.length_range] at hlt
      rw [hrep _ hlt]; simp
     have hmap:(List.range ops.size).map (fun i=>bops.getD i ⟨none,.bad,none⟩)=bops:=by
      rw [hl]
      refine List.ext_getElem? fun i=>?_
      rw [List.getElem?_map]
      by_cases hi:i < bops.length
      ·rw [List.getElem?_range hi,Option.map_some,List.getD_eq_getElem?_getD,List.getElem?_eq_getElem hi]; rfl
      ·rw [List.getElem?_eq_none (by simpa using hi),List.getElem?_eq_none (by omega)]; rfl
     refine ZpK hG hS (n := n) (Q := Ends E (.normal,s2)) h1' hq.2 (fun Γ a w h=>.normal h) ops.size (s1 := s1) (by simp) (.start ops _) (by rw [hr,hr2]; simp; omega) ?_ ?_ (hb.inv hI)
     ·rw [hr,show List.range n=(List.range ops.size).take n from by rw [List.take_range,Nat.min_eq_left hnle],List.map_take,hmap]; exact h2
     ·rw [hr2,List.map_drop,hmap]; exact h3
   split at hc
   ·rename_i hd
    rw [Bool.and_eq_true] at hd
    cases hc
    simp only [Zq] at h
    obtain ⟨s1,h2,rfl⟩:=Option.map_eq_some_iff.1 h
    refine wp_region_any hm ?_
    have hb:Behind w { w with drawn:=w.drawn + 1 }:=⟨rfl,rfl,rfl,Nat.le_refl _,fun _ _=>rfl⟩
    exact Zcj hG hB (Q := Ends E (.normal,s1)) h1' hd.2 (fun Γ a w h=>.normal h) h2 (hb.inv hI)
   split at hc
   ·rename_i hq
    simp only [Bool.and_eq_true] at hq
    cases hc
    simp only [Zq] at h
    obtain ⟨s1,h2,rfl⟩:=Option.map_eq_some_iff.1 h
    refine wp_region_quiet (C := Behind w) hm hq.1 ⟨rfl,rfl,rfl,Nat.le_refl _,fun _ _=>rfl⟩ ?_
    exact F7 hG hS h1 hq.2 h2 hI fun Γ a w h=>.normal h
   ·split at hc
    ·rename_i hd
     cases hc
     simp only [Zq] at h
     obtain ⟨s1,h2,rfl⟩:=Option.map_eq_some_iff.1 h
     refine wp_region_any hm ?_
     have hb:Behind w { w with drawn:=w.drawn + 1 }:=⟨rfl,rfl,rfl,Nat.le_refl _,fun _ _=>rfl⟩
     have hr:WS ops.size (Array.replicate ops.size false)=List.range ops.size:=by
      unfold WS
      refine List.filter_eq_self.2 fun i hi=>?_
      simp only [List.mem_range] at hi
      simp [hi]
     have hmap:(List.range ops.size).map (fun i=>bops.getD i ⟨none,.bad,none⟩)=bops:=by
      have hl:ops.size=bops.length:=by simpa using (X3 h1').1
      rw [hl]
      refine List.ext_getElem? fun i=>?_
      rw [List.getElem?_map]
      by_cases hi:i < bops.length
      ·rw [List.getElem?_range hi,Option.map_some,List.getD_eq_getElem?_getD,List.getElem?_eq_getElem hi]; rfl
      ·rw [List.getElem?_eq_none (by simpa using hi),List.getElem?_eq_none (by omega)]; rfl
     exact ZpJ hG hS (Q := Ends E (.normal,s1)) h1' hd (fun Γ a w h=>.normal h) ops.size (by simp) (.start ops _) (by rw [hr]; simp) (by rw [hr,hmap]; exact h2) (hb.inv hI)
    ·split at hc
     ·rename_i hd
      cases hc
      simp only [Zq] at h
      obtain ⟨s1,h2,rfl⟩:=Option.map_eq_some_iff.1 h
      refine wp_region_any hm ?_
      have hb:Behind w { w with drawn:=w.drawn + 1 }:=⟨rfl,rfl,rfl,Nat.le_refl _,fun _ _=>rfl⟩
      exact Zcj hG hB (Q := Ends E (.normal,s1)) h1' hd (fun Γ a w h=>.normal h) h2 (hb.inv hI)
     ·cases hc; cases h
 | seq x y ihx ihy =>
  intro ac s r Γ a w hc h hI
  simp only [Ua] at hc
  split at hc <;> first | (cases hc; done) | skip
  rename_i ax ay hx hy
  obtain rfl:=Option.some.inj hc
  simp only [Zq] at h
  refine Go.wp_seq ?_
  split at h
  ·rename_i s1 h1
   refine Go.wp_mono (ihx hx h1 hI) fun e a' w' he=>?_
   obtain ⟨k1,Γ',i1⟩:=he
   cases e <;> first | exact k1.elim | skip
   exact ihy hy h i1
  ·rename_i hne
   refine Go.wp_mono (ihx hx h hI) fun e a' w' he=>?_
   cases e <;> first | exact he | skip
   obtain ⟨k1,_⟩:=he
   obtain ⟨q,s1⟩:=r
   cases q <;> first | exact k1.elim | skip
   exact absurd h (hne s1)
 | cond c x y ihx ihy =>
  intro ac s r Γ a w hc h hI
  simp only [Ua] at hc
  split at hc <;> first | (cases hc; done) | skip
  rename_i c' ax ay hcc hx hy
  obtain rfl:=Option.some.inj hc
  simp only [Zq] at h
  split at h <;> first | (cases h; done) | skip
  ·rename_i hb
   have k:=(Zm hG hI hcc hb).1
   generalize hq:a.eval c=q at k
   cases k
   exact Go.wp_cond_true hq (ihx hx h hI)
  ·rename_i hb
   have k:=(Zm hG hI hcc hb).1
   generalize hq:a.eval c=q at k
   cases k
   exact Go.wp_cond_false hq (ihy hy h hI)
 | block id c ih =>
  intro ac s r Γ a w hc h hI
  simp only [Ua] at hc
  obtain ⟨ax,hx,rfl⟩:=Option.map_eq_some_iff.1 hc
  simp only [Zq] at h
  refine Go.wp_block ?_
  split at h
  ·rename_i i s1 h1
   split at h
   ·rename_i hi
    obtain rfl:=Option.some.inj h
    refine Go.wp_mono (ih hx h1 hI) fun e a' w' he=>?_
    obtain ⟨k1,Γ',i1⟩:=he
    cases e <;> first | exact k1.elim | skip
    rename_i j
    simp only [Exit.inBlock]
    rw [if_pos (by rw [← hi]; exact (show i=j from k1).symm)]
    exact .normal i1
   ·rename_i hi
    obtain rfl:=Option.some.inj h
    refine Go.wp_mono (ih hx h1 hI) fun e a' w' he=>?_
    obtain ⟨k1,Γ',i1⟩:=he
    cases e <;> first | exact k1.elim | skip
    rename_i j
    simp only [Exit.inBlock]
    rw [if_neg (by rw [← (show i=j from k1)]; exact hi)]
    exact ⟨k1,Γ',i1⟩
  ·rename_i hne
   refine Go.wp_mono (ih hx h hI) fun e a' w' he=>?_
   cases e <;> first | exact he | skip
   obtain ⟨k1,_⟩:=he
   obtain ⟨q,s1⟩:=r
   cases q <;> first | exact k1.elim | skip
   exact absurd h (hne _ s1)
 | loop c ih =>
  intro ac s r Γ a w hc h hI
  simp only [Ua] at hc
  obtain ⟨ax,hx,rfl⟩:=Option.map_eq_some_iff.1 hc
  simp only [Zq] at h
  exact wp_loop_rounds L (Zfp (fun h1 h2=>ih hx h1 h2) L h hI)
 | scope c ih =>
  intro ac s r Γ a w hc h hI
  simp only [Ua] at hc
  obtain ⟨ax,hx,rfl⟩:=Option.map_eq_some_iff.1 hc
  simp only [Zq] at h
  refine Go.wp_scope_straight (Go.wp_mono (ih hx h hI) fun e a' w' he=>?_)
  cases e <;> first | exact he | skip
  obtain ⟨k1,_⟩:=he
  obtain ⟨q,s1⟩:=r
  cases q <;> exact k1.elim
 | exit id =>
  intro ac s r Γ a w hc h hI
  cases hc; cases h
  exact Go.wp_exit ⟨rfl,Γ,hI⟩
 | ret =>
  intro ac s r Γ a w hc h hI
  cases hc; cases h
  exact Go.wp_ret ⟨trivial,Γ,hI⟩
 | label l =>
  intro ac s r Γ a w hc h hI
  cases hc; cases h
  exact Go.wp_label (.normal hI)
 | _ =>
  intro ac s r Γ a w hc h
  cases hc; cases h
end
end Go.Proofs.YthkdlifcknpadaaGreat.Abs
end
section
namespace Go.Proofs.YthkdlifcknpadaaGreat.Abs
open Go Go.RowKit
section
variable {P:Program}{G:Nat→Option (List AV)}{E:Entry}{s:Za}{Γ:Zu}{a:Act}{w:World}
def FT (tmps:Array Value):ResultVar→Sem Value
 | .tmp t=>pure (tmps.getD t Go.undef)
 | .cell x t=>do loadVar t (← asAddr (tmps.getD x Go.undef))
def packed:List Value→Value
 | [v]=>v
 | vs=>.tuple vs.toArray
theorem FU {fn:Func}{tmps:Array Value}{vs:List Value}(h:(fn.results.toList.mapM (FT tmps)).run P w=.ok vs w):(results fn tmps).run P w=.ok (packed vs) w:=by
 have e0:results fn tmps=(do let vs ← fn.results.mapM (FT tmps); pure (if h:vs.size=1 then vs[0] else .tuple vs)):=by
  unfold results
  congr 1
 rw [e0]
 obtain ⟨l,hl⟩:∃ l,fn.results=⟨l⟩:=⟨fn.results.toList,rfl⟩
 rw [hl] at h ⊢
 have e:((⟨l⟩:Array ResultVar).mapM (FT tmps)).run P w=.ok vs.toArray w:=by
  rw [List.mapM_toArray,map_eq_pure_bind,Sem.run_bind,h]
  rfl
 rw [Sem.run_bind,e]
 simp only [Result.andThen_ok,Sem.run_pure]
 cases vs with
 | nil=>rfl
 | cons v vs=>cases vs <;> rfl
theorem res_one (hI:Inv E s Γ a w){r:ResultVar}{ar:En}{v:AV}(hc:Zt0 P r=some ar)(h:Iy s ar=some v) :
  ∃ cv,(FT a.tmps r).run P w=.ok cv w∧Rep Γ w v cv∧((∃ t,cv=a.tmps.getD t Go.undef∧s.sl[t]? = some v)∨∀ k r,v≠.own k r):=by
 cases r with
 | tmp t =>
  obtain rfl:=Option.some.inj hc
  exact ⟨a.tmps.getD t Go.undef,rfl,hI.slots.rep t v h,.inl ⟨t,rfl,h⟩⟩
 | cell t ty =>
  simp only [Zt0] at hc
  split at hc
  ·rename_i hag
   obtain rfl:=Option.some.inj hc
   simp only [Iy] at h
   split at h <;> first | (cases h; done) | skip
   rename_i x hx
   obtain ⟨b,off,cv,e,hl,hcell,hr,hn⟩:=Zka hI (hI.slots.rep t x hx) h
   have hu:=AC hag
   obtain ⟨i,hi⟩:=info_of_underlying hu
   have hld:=run_loadCells_list (P := P) w ⟨b,off,none⟩ cv (fun j y hj=>by rw [add_lit]; exact hcell j y hj)
   rw [hl] at hld
   refine ⟨_,?_,hr,.inr hn⟩
   simp only [FT,e]
   simp [asAddr,loadVar,Gt hag hu,ZM hi,hld]
  ·rename_i hag
   split at hc <;> first | (cases hc; done) | skip
   rename_i hu
   obtain rfl:=Option.some.inj hc
   simp only [Iy] at h
   split at h <;> first | (cases h; done) | skip
   rename_i x hx
   obtain ⟨b,off,cv,e,hcell,hr,hn⟩:=Zkc hI (hI.slots.rep t x hx) h
   refine ⟨cv,?_,hr,.inr hn⟩
   simp only [FT,e]
   simp [asAddr,loadVar,Gt (by simpa using hag) hu,hcell]
theorem ZkX (hI:Inv E s Γ a w):∀ {rs:List ResultVar} {ars:List En} {vs:List AV},Zdv P rs=some ars→JR s ars=some vs →
  ∃ cvs:List Value,(rs.mapM (FT a.tmps)).run P w=.ok cvs w∧cvs.length=vs.length∧ars.length=rs.length∧∀ (j:Nat) (x:AV),vs[j]? = some x→∃ u,cvs[j]? = some u∧Rep Γ w x u
 | [],ars,vs,hc,h=>by
  cases hc; cases h
  exact ⟨[],rfl,rfl,rfl,fun j x hx=>by simp at hx⟩
 | r :: rs,ars,vs,hc,h=>by
  simp only [Zdv] at hc
  split at hc <;> first | (cases hc; done) | skip
  rename_i ar l h1 h2
  obtain rfl:=Option.some.inj hc
  simp only [JR] at h
  split at h <;> first | (cases h; done) | skip
  rename_i v vs' h3 h4
  obtain rfl:=Option.some.inj h
  obtain ⟨cv,e1,r1,_⟩:=res_one hI h1 h3
  obtain ⟨cvs,e2,e3,e4,e5⟩:=ZkX hI h2 h4
  refine ⟨cv :: cvs,?_,by simp [e3],by simp [e4],fun j x hx=>?_⟩
  ·rw [List.mapM_cons]
   simp only [Sem.run_bind,e1,Result.andThen_ok,e2]
   rfl
  ·cases j with
   | zero=>obtain rfl:=Option.some.inj hx; exact ⟨cv,rfl,r1.nm⟩
   | succ j =>
    obtain ⟨u,hu,hr⟩:=e5 j x (by simpa using hx)
    exact ⟨u,by simpa using hu,hr⟩
theorem ZkY (hI:Inv E s Γ a w){fn:Func}{rs:List En}{v:AV}(hc:Zdv P fn.results.toList=some rs)(h:Qk s rs=some v) :
  ∃ cv Γ',(results fn a.tmps).run P w=.ok cv w∧RW E.W0 Γ' w s.hp∧Frame E.Γ0 E.w0 Γ' w s.ef∧Rep Γ' w v cv∧OwnAt Γ' w .res v cv∧∀ b g,Γ' b=.own g→g < s.bs→E.Γ0 b=.own g:=by
 have many:∀ vs,JR s rs=some vs→v=.tup vs→rs.length≠1→∃ cv Γ',(results fn a.tmps).run P w=.ok cv w∧RW E.W0 Γ' w s.hp∧Frame E.Γ0 E.w0 Γ' w s.ef∧Rep Γ' w v cv∧OwnAt Γ' w .res v cv∧∀ b g,Γ' b=.own g→g < s.bs→E.Γ0 b=.own g:=by
  intro vs hvs hv hne
  obtain ⟨cvs,e2,e3,e4,e5⟩:=ZkX hI hc hvs
  have hr:=FU e2
  have hvl:vs.length=rs.length:=by
   clear hc e2 e3 e4 e5 hr hv hne h
   induction rs generalizing vs with
   | nil=>cases hvs; rfl
   | cons r rs ih =>
    simp only [JR] at hvs
    split at hvs <;> first | (cases hvs; done) | skip
    rename_i h1 h2
    obtain rfl:=Option.some.inj hvs
    simp [ih _ h2]
  subst hv
  refine ⟨.tuple cvs.toArray,Γ,?_,hI.rw,hI.fr,.tup vs _ (by simpa using e3) (fun j x hx=>?_),.of_ne (by simp),hI.back⟩
  ·rw [hr]
   cases cvs with
   | nil=>rfl
   | cons u cvs =>
    cases cvs with
    | nil=>simp at e3; omega
    | cons _ _=>rfl
  ·obtain ⟨u,hu,hr⟩:=e5 j x hx
   rw [Array.getD_eq_getD_getElem?,List.getElem?_toArray,hu]
   exact hr
 cases rs with
 | nil =>
  simp only [Qk] at h
  obtain ⟨vs,hvs,e⟩:=Option.map_eq_some_iff.1 h
  exact many vs hvs e.symm (by simp)
 | cons r rs =>
  cases rs with
  | cons r' rs =>
   simp only [Qk] at h
   obtain ⟨vs,hvs,e⟩:=Option.map_eq_some_iff.1 h
   exact many vs hvs e.symm (by simp)
  | nil =>
   simp only [Qk] at h
   cases hl:fn.results.toList with
   | nil=>rw [hl] at hc; cases hc
   | cons q qs =>
    rw [hl] at hc
    simp only [Zdv] at hc
    split at hc <;> first | (cases hc; done) | skip
    rename_i ar l h1 h2
    obtain ⟨rfl,rfl⟩:=List.cons.inj (Option.some.inj hc)
    have hqs:qs=[]:=by
     cases qs with
     | nil=>rfl
     | cons _ _ =>
      simp only [Zdv] at h2
      split at h2 <;> simp at h2
    subst hqs
    obtain ⟨cv,e1,r1,hown⟩:=res_one hI h1 h
    have hrun:=FU (fn := fn) (tmps := a.tmps) (P := P) (w := w) (vs := [cv]) (by
     rw [hl,List.mapM_cons]
     simp only [Sem.run_bind,e1,Result.andThen_ok]
     rfl)
    rcases hown with ⟨t,rfl,ht⟩ | hn
    ·obtain ⟨Γ',i1,r1,o1⟩:=hI.take t ht
     exact ⟨_,Γ',hrun,i1.rw,i1.fr,r1,o1,i1.back⟩
    ·exact ⟨_,Γ,hrun,hI.rw,hI.fr,r1,.of_ne hn,hI.back⟩
end
end Go.Proofs.YthkdlifcknpadaaGreat.Abs
end
section
namespace Go.Proofs.YthkdlifcknpadaaGreat.Abs
open Go Go.RowKit
def Wp (bs:Nat):Kind→Kind
 | .own g=>if g < bs then .own g else .imm
 | .list n (.cell g i)=>if g < bs then .list n (.cell g i) else .imm
 | k=>k
theorem Gp {bs o:Nat}{k:Kind}(h:QR o k):QR o (Wp bs k):=by
 cases k with
 | imm=>trivial
 | own g=>exact h.elim
 | list m l =>
  cases l <;> simp only [Wp] <;> first | exact h | skip
  split
  ·exact h
  ·trivial
theorem QU {bs g:Nat}{k:Kind}(h:Wp bs k=.own g):k=.own g∧g < bs:=by
 cases k with
 | imm=>cases h
 | own g' =>
  simp only [Wp] at h
  split at h
  ·rename_i hl; cases h; exact ⟨rfl,hl⟩
  ·cases h
 | list m l =>
  cases l <;> simp only [Wp] at h <;> first | (cases h; done) | skip
  split at h <;> cases h
theorem BN {α β:Type}{f:α→Option β}:∀ {l:List α} {r:List β},l.mapM f=some r→r.length=l.length∧∀ (j:Nat) (y:β),r[j]? = some y→∃ x,l[j]? = some x∧f x=some y
 | [],r,h=>by
  simp only [List.mapM_nil] at h
  obtain rfl:=Option.some.inj h
  exact ⟨rfl,fun j y hy=>by simp at hy⟩
 | x :: l,r,h=>by
  rw [List.mapM_cons] at h
  cases hx:f x with
  | none=>rw [hx] at h; cases h
  | some y =>
   cases hl:l.mapM f with
   | none=>rw [hx,hl] at h; cases h
   | some ys =>
    rw [hx,hl] at h
    obtain rfl:=Option.some.inj h
    obtain ⟨e1,e2⟩:=BN hl
    refine ⟨by simp [e1],fun j z hz=>?_⟩
    cases j with
    | zero=>obtain rfl:=Option.some.inj hz; exact ⟨x,rfl,hx⟩
    | succ j =>
     obtain ⟨x',h1,h2⟩:=e2 j z (by simpa using hz)
     exact ⟨x',by simpa using h1,h2⟩
section
variable {W0 w:World}{Γ Γ':Zu}{hp:List Zh}{bs:Nat}
theorem LP {x:AV}{v:Value}(hf:Yn Γ w Γ' w)(h:Rep Γ w x v)(hn:x.noId1=true):Rep Γ' w x.ro v:=(h.noId hf hn).ro
theorem OwnAt.fix {w':World}{l l':Loc}{x:AV}{v:Value}(hf:Yn Γ w Γ' w')(hb:∀ b n,Γ b=.list n l→Γ' b=.list n l'∧w'.heap[b]? = w.heap[b]?)(h:OwnAt Γ w l x v):OwnAt Γ' w' l' x v:=by
 intro k rows e
 rcases h k rows e with h | ⟨b,cap,e,cur,hv,hg,hh,h1,h2,h3,h4,h5⟩
 ·exact .inl h
 ·obtain ⟨g1,g2⟩:=hb b _ hg
  exact .inr ⟨b,cap,e,cur,hv,g1,g2.trans hh,h1,h2,h3,h4,fun i j r c a1 a2=>⟨(h5 i j r c a1 a2).1,(h5 i j r c a1 a2).2.noId hf (h5 i j r c a1 a2).1⟩⟩
theorem ZbJ (hr:RW W0 Γ w hp):∀ (d:Nat) {v v':AV} {cv:Value},ZcZ bs hp d v=some v'→Rep Γ w v cv→Rep (fun b=>Wp bs (Γ b)) w v' cv∧(∀ k r,v'≠.own k r)∧(v.one=true→v'.one=true):=by
 have hf:Yn Γ w (fun b=>Wp bs (Γ b)) w:=fun _ _ _ h1 h2=>⟨Gp h1,h2⟩
 have hown:∀ b g,Γ b=.own g→g < bs→Wp bs (Γ b)=.own g:=fun b g h hg=>by simp [h,Wp,hg]
 intro d
 induction d with
 | zero =>
  intro v v' cv h hv
  cases v <;> simp only [ZcZ] at h
  case arr g off len k =>
   split at h <;> first | (cases h; done) | skip
   rename_i hg
   obtain rfl:=Option.some.inj h
   cases hv with
   | arr _ _ _ _ cap b hb hc=>exact ⟨.arr _ _ _ _ cap b (hown b g hb hg) hc,by simp,fun h=>h⟩
  case ptr g o =>
   split at h <;> first | (cases h; done) | skip
   rename_i hg
   obtain rfl:=Option.some.inj h
   cases hv with
   | ptr _ _ b hb=>exact ⟨.ptr _ _ b (hown b g hb hg),by simp,fun h=>h⟩
  case map g =>
   split at h <;> first | (cases h; done) | skip
   rename_i hg
   obtain rfl:=Option.some.inj h
   cases hv with
   | map _ b hb=>exact ⟨.map _ b (hown b g hb hg),by simp,fun h=>h⟩
  case agg=>cases h
  case tup=>cases h
  case fn f a cs =>
   split at h <;> first | (cases h; done) | skip
   rename_i hg
   obtain rfl:=Option.some.inj h
   refine ⟨?_,by simp,fun h=>h⟩
   have:=hv.noId hf (by simpa [AV.noId1] using hg)
   obtain ⟨rfl,rfl⟩:a=[]∧cs=[]:=by simpa using hg
   exact this
  case undef=>cases h; cases hv; exact ⟨.undef,by simp [AV.ro],fun h=>h⟩
  all_goals
   obtain rfl:=Option.some.inj h
   exact ⟨LP hf hv rfl,fun _ _=>Xu,fun h=>by rw [BZ]; exact h⟩
 | succ d ih =>
  intro v v' cv h hv
  cases v <;> simp only [ZcZ] at h
  case arr g off len k =>
   split at h
   ·rename_i hg
    obtain rfl:=Option.some.inj h
    cases hv with
    | arr _ _ _ _ cap b hb hc=>exact ⟨.arr _ _ _ _ cap b (hown b g hb hg) hc,by simp,fun h=>h⟩
   ·rename_i hg
    split at h <;> first | (cases h; done) | skip
    rename_i cs t hobj
    split at h <;> first | (cases h; done) | skip
    rename_i hfit
    obtain ⟨cs',h1,h2⟩:=Option.bind_eq_some_iff.1 h
    split at h2 <;> first | (cases h2; done) | skip
    rename_i hid
    obtain rfl:=Option.some.inj h2
    obtain ⟨m1,m2⟩:=BN h1
    cases hv with
    | arr _ _ _ _ cap b hb hc =>
     obtain ⟨b',C,o1,o2,o3,o4⟩:=hr.objs g _ hobj
     obtain rfl:=hr.inj b b' g hb o1
     have hlen:cs'.length=len * k:=by rw [m1]; simp; omega
     have hrow:∀ (i:Nat) (r:List AV),(chunk k len cs')[i]? = some r→i < len∧r.length=k∧∀ (j:Nat) (c:AV),r[j]? = some c→j < k∧cs'[i * k + j]? = some c:=by
      intro i r hi
      have hil:=Zn hi
      rw [Vr] at hil
      have he:=Aa k len _ i r hi
      have hle:(i + 1) * k≤len * k:=Nat.mul_le_mul_right k hil
      rw [Nat.add_mul,Nat.one_mul] at hle
      refine ⟨hil,by rw [he]; simp; omega,fun j c hj=>?_⟩
      rw [he,List.getElem?_take] at hj
      split at hj
      ·rename_i hjk
       refine ⟨hjk,?_⟩
       rw [List.getElem?_drop] at hj
       exact hj
      ·cases hj
     have hcell:∀ (p:Nat) (c:AV),cs'[p]? = some c→off + p < C.size∧Rep (fun b=>Wp bs (Γ b)) w c (C.getD (off + p) Go.undef)∧c.noId1=true:=by
      intro p c hp
      obtain ⟨x,x1,x2⟩:=m2 p c hp
      have hpl:=Zn hp
      rw [List.getElem?_take,if_pos (by omega),List.getElem?_drop] at x1
      obtain ⟨_,q2,_⟩:=o4 _ x x1
      exact ⟨by omega,(ih x2 q2).1,List.all_eq_true.1 hid c (List.mem_of_getElem? hp)⟩
     refine ⟨?_,by simp,fun _=>rfl⟩
     have hl:(chunk k len cs').length=len:=Vr k len cs'
     have key:=Rep.lst (Γ := fun b=>Wp bs (Γ b)) (w := w) k (chunk k len cs') b off cap (fun i j=>C.getD (off + (i * k + j)) Go.undef) (by rw [hl]; exact hc) (fun r hr=>?_) (fun i j r c hi hj=>?_) (fun i j r c hi hj=>?_)
     ·rw [hl] at key; exact key
     ·obtain ⟨i,hi⟩:=List.mem_iff_getElem?.1 hr
      exact (hrow i r hi).2.1
     ·obtain ⟨_,_,h3⟩:=hrow i r hi
      obtain ⟨_,h4⟩:=h3 j c hj
      obtain ⟨q1,q2,q3⟩:=hcell _ c h4
      refine ⟨?_,?_,q3⟩
      ·rw [cell_of_row w b _ C t (0,0) o2]
       exact YX q1
      ·show QR _ (Wp bs (Γ b))
       rw [hb]
       simp only [Wp,if_neg hg]
       trivial
     ·obtain ⟨_,_,h3⟩:=hrow i r hi
      obtain ⟨_,h4⟩:=h3 j c hj
      exact (hcell _ c h4).2.1
  case ptr g o =>
   split at h <;> first | (cases h; done) | skip
   rename_i hg
   obtain rfl:=Option.some.inj h
   cases hv with
   | ptr _ _ b hb=>exact ⟨.ptr _ _ b (hown b g hb hg),by simp,fun h=>h⟩
  case map g =>
   split at h <;> first | (cases h; done) | skip
   rename_i hg
   obtain rfl:=Option.some.inj h
   cases hv with
   | map _ b hb=>exact ⟨.map _ b (hown b g hb hg),by simp,fun h=>h⟩
  case agg=>cases h
  case tup=>cases h
  case fn f a cs =>
   split at h <;> first | (cases h; done) | skip
   rename_i hg
   obtain rfl:=Option.some.inj h
   refine ⟨?_,by simp,fun h=>h⟩
   have:=hv.noId hf (by simpa [AV.noId1] using hg)
   obtain ⟨rfl,rfl⟩:a=[]∧cs=[]:=by simpa using hg
   exact this
  case undef=>cases h; cases hv; exact ⟨.undef,by simp [AV.ro],fun h=>h⟩
  all_goals
   obtain rfl:=Option.some.inj h
   exact ⟨LP hf hv rfl,fun _ _=>Xu,fun h=>by rw [BZ]; exact h⟩
theorem Pm (hr:RW W0 Γ w hp){v v':AV}{cv:Value}(h:ZaS bs hp v=some v')(hv:Rep Γ w v cv):Rep (fun b=>Wp bs (Γ b)) w v' cv∧∀ k r,v'≠.own k r:=by
 unfold ZaS at h
 split at h
 ·rename_i cs
  obtain ⟨cs',h1,rfl⟩:=Option.map_eq_some_iff.1 h
  obtain ⟨m1,m2⟩:=BN h1
  cases hv with
  | agg _ u hs k1 kn kr =>
   refine ⟨.agg cs' u (by rw [hs,m1]) (fun j c hc=>?_) (fun j k r hc=>?_) (fun j c hc=>?_),by simp⟩
   ·obtain ⟨x,x1,x2⟩:=m2 j c hc
    exact (ZbJ hr 4 x2 (kr j x x1)).2.2 (k1 j x x1)
   ·obtain ⟨x,x1,x2⟩:=m2 j _ hc
    exact absurd rfl ((ZbJ hr 4 x2 (kr j x x1)).2.1 k r)
   ·obtain ⟨x,x1,x2⟩:=m2 j c hc
    exact (ZbJ hr 4 x2 (kr j x x1)).1
 ·obtain ⟨h1,h2,_⟩:=ZbJ hr 4 h hv
  exact ⟨h1,h2⟩
theorem ZnP (hr:RW W0 Γ w hp){v v':AV}{cv:Value}(h:frz bs hp v=some v')(hv:Rep Γ w v cv)(ho:OwnAt Γ w .res v cv):Rep (fun b=>Wp bs (Γ b)) w v' cv∧OwnAt (fun b=>Wp bs (Γ b)) w .res v' cv:=by
 have hf:Yn Γ w (fun b=>Wp bs (Γ b)) w:=fun _ _ _ h1 h2=>⟨Gp h1,h2⟩
 unfold frz at h
 split at h
 ·rename_i vs
  obtain ⟨vs',h1,rfl⟩:=Option.map_eq_some_iff.1 h
  obtain ⟨m1,m2⟩:=BN h1
  cases hv with
  | tup _ u hs kr =>
   refine ⟨.tup vs' u (by rw [hs,m1]) fun j c hc=>?_,.of_ne (by simp)⟩
   obtain ⟨x,x1,x2⟩:=m2 j c hc
   exact (Pm hr x2 (kr j x x1)).1
 ·obtain rfl:=Option.some.inj h
  exact ⟨hv.noId hf rfl,ho.fix hf fun b n hb=>⟨by simp [hb,Wp],rfl⟩⟩
 ·obtain ⟨h1,h2⟩:=Pm hr h hv
  exact ⟨h1,.of_ne h2⟩
theorem CZ {x:AV}{cv:Value}(hx:x.under1 bs=true)(hv:Rep Γ w x cv):Rep (fun b=>Wp bs (Γ b)) w x cv:=by
 have hf:Yn Γ w (fun b=>Wp bs (Γ b)) w:=fun _ _ _ h1 h2=>⟨Gp h1,h2⟩
 have hown:∀ b g,Γ b=.own g→g < bs→Wp bs (Γ b)=.own g:=fun b g h hg=>by simp [h,Wp,hg]
 unfold AV.under1 at hx
 split at hx
 ·cases hv with
  | arr _ _ _ _ cap b hb hc=>exact .arr _ _ _ _ cap b (hown b _ hb (by simpa using hx)) hc
 ·cases hv with
  | ptr _ _ b hb=>exact .ptr _ _ b (hown b _ hb (by simpa using hx))
 ·cases hv with
  | map _ b hb=>exact .map _ b (hown b _ hb (by simpa using hx))
 ·exact hv.noId hf hx
theorem Zn7 {x:AV}{cv:Value}(hx:x.under bs=true)(hv:Rep Γ w x cv):Rep (fun b=>Wp bs (Γ b)) w x cv:=by
 unfold AV.under at hx
 split at hx
 ·simp only [Bool.and_eq_true,List.all_eq_true] at hx
  cases hv with
  | fn f a cs u v hs1 hr1 hs hr=>exact .fn _ _ _ u v hs1 (fun j c hc=>CZ (hx.1 c (List.mem_of_getElem? hc)) (hr1 j c hc)) hs (fun j c hc=>CZ (hx.2 c (List.mem_of_getElem? hc)) (hr j c hc))
 ·exact CZ hx hv
theorem BH {s:Za}{Γ0:Zu}{w0:World}{hp0:List Zh}{v:AV}{cv:Value}{v':AV}{hp':List Zh}{e':Eff}(h0:RW W0 Γ0 w0 hp0)(hbs:s.bs=hp0.length)(hle:s.bs≤s.hp.length)(base:∀ b n g i,Γ0 b=.list n (.cell g i)→g < s.bs)
  (hr:RW W0 Γ w s.hp) (hfr:Frame Γ0 w0 Γ w s.ef) (hbk:∀ b g,Γ b=.own g→g < s.bs→Γ0 b=.own g) (hv:Rep Γ w v cv) (ho:OwnAt Γ w .res v cv) {keep:Bool} (h:(if keep then (v.nm,s.hp,s.ef) else finish v s hp0)=(v',hp',e')) :
  ∃ Γ',RW W0 Γ' w hp'∧Rep Γ' w v' cv∧OwnAt Γ' w .res v' cv∧Frame Γ0 w0 Γ' w e'∧hp0.length≤hp'.length∧∀ b g,Γ' b=.own g→g < hp0.length→Γ0 b=.own g:=by
 have hf:Yn Γ w (fun b=>Wp s.bs (Γ b)) w:=fun _ _ _ h1 h2=>⟨Gp h1,h2⟩
 have asis:(v.nm,s.hp,s.ef)=(v',hp',e')→∃ Γ',RW W0 Γ' w hp'∧Rep Γ' w v' cv∧OwnAt Γ' w .res v' cv∧Frame Γ0 w0 Γ' w e'∧hp0.length≤hp'.length∧∀ b g,Γ' b=.own g→g < hp0.length→Γ0 b=.own g:=by
  intro e
  cases e
  exact ⟨Γ,hr,hv.nm,.of_ne fun _ _=>Gv,hfr,by omega,fun b g hb hl=>hbk b g hb (by omega)⟩
 have base1:∀ b g,Γ0 b=.own g→g < s.bs:=fun b g hb=>by rw [hbs]; exact h0.lt b g hb
 have same0:∀ b,b < w0.heap.size→Kept s.ef (Γ0 b)→Wp s.bs (Γ b)=Γ0 b∧w.heap[b]? = w0.heap[b]?:=fun b hb hk=>by
  obtain ⟨e1,e2⟩:=hfr.keep b hb hk
  refine ⟨?_,e2⟩
  rw [e1]
  cases hg:Γ0 b with
  | imm=>rfl
  | own g=>simp [Wp,base1 b g hg]
  | list n l =>
   cases l with
   | cell g i=>simp [Wp,base b n g i hg]
   | _=>rfl
 have fr:Frame Γ0 w0 (fun b=>Wp s.bs (Γ b)) w s.ef :=
  ⟨hfr.os,hfr.tape,hfr.output,hfr.size,hfr.fix.trans hf,fun b g hb=>by simp [hfr.own b g hb,Wp,base1 b g hb],same0⟩
 have inj':∀ b b' g,Wp s.bs (Γ b)=.own g→Wp s.bs (Γ b')=.own g→b=b':=fun b b' g h1 h2=>hr.inj b b' g (QU h1).1 (QU h2).1
 have imm':∀ b,Γ b=.imm→Wp s.bs (Γ b)=.imm:=fun b hb=>by rw [hb]; rfl
 split at h
 ·exact asis h
 unfold finish at h
 split at h
 case h_2=>exact asis h
 rename_i u hu
 obtain ⟨r1,r2⟩:=ZnP hr hu hv ho
 split at h
 ·rename_i he
  cases h
  rw [he] at fr
  refine ⟨_,⟨fun g o hg=>?_,inj',fun b hb=>imm' b (hr.fresh b hb),fun b g hb=>by rw [← hbs]; exact (QU hb).2,hr.old,fun b hb=>imm' b (hr.oldImm b hb),fun g hg b hb=>h0.dead g hg b (hbk b g (QU hb).1 (QU hb).2)⟩,r1,r2,fr,Nat.le_refl _,fun b g hb hl=>hbk b g (QU hb).1 (QU hb).2⟩
  refine (h0.objs g o hg).step (X := fun b=>¬ Kept none (Γ0 b)) ⟨fr.os,fr.tape,fr.output,fr.size,fun b hb hx=>fr.keep b hb (Classical.not_not.1 hx),fr.fix,fr.own⟩ h0.fresh (fun b hx e=>hx ?_) (fun b n i hx e=>hx ?_)
  ·rw [e]; exact fun _ _ e=>by cases e
  ·rw [e]; exact fun _ _ e=>by cases e
 ·rename_i e he
  split at h
  ·rename_i hall
   cases h
   rw [he] at fr
   have hlen:(s.hp.take s.bs).length=s.bs:=by simp; omega
   refine ⟨_,⟨fun g o hg=>?_,inj',fun b hb=>imm' b (hr.fresh b hb),fun b g hb=>by rw [hlen]; exact (QU hb).2,hr.old,fun b hb=>imm' b (hr.oldImm b hb),fun g hg b hb=>hr.dead g (by have hgl:=Zn hg; rw [hlen] at hgl; rw [List.getElem?_take,if_pos hgl] at hg; exact hg) b (QU hb).1⟩,r1,r2,fr,by omega,fun b g hb hl=>hbk b g (QU hb).1 (QU hb).2⟩
   have hgl:=Zn hg
   rw [hlen] at hgl
   have hund:=List.all_eq_true.1 hall o (List.mem_of_getElem? hg)
   rw [List.getElem?_take,if_pos hgl] at hg
   have:=hr.objs g o hg
   cases o with
   | dead=>trivial
   | cells cs t =>
    obtain ⟨b,C,h1,h2,h3,h4⟩:=this
    refine ⟨b,C,by simp [h1,Wp,hgl],h2,h3,fun i c hc=>?_⟩
    obtain ⟨a1,a2,a3⟩:=h4 i c hc
    exact ⟨a1,Zn7 (List.all_eq_true.1 hund c (List.mem_of_getElem? hc)) a2,a3.fix hf fun b n hb=>⟨by simp [hb,Wp,hgl],rfl⟩⟩
   | map es =>
    obtain ⟨b,ms,clk,h1,h2,h3,h4⟩:=this
    exact ⟨b,ms,clk,by simp [h1,Wp,hgl],h2,h3,h4⟩
   | iter l pos =>
    obtain ⟨b,h1,h2⟩:=this
    exact ⟨b,by simp [h1,Wp,hgl],h2⟩
   | buf _ _ _ _ =>
    obtain ⟨b,C,h1,h2,h3⟩:=this
    exact ⟨b,C,by simp [h1,Wp,hgl],h2,h3.mono fun b n i hb=>⟨by simp [hb,Wp,hgl],rfl⟩⟩
  ·exact asis h
end
end Go.Proofs.YthkdlifcknpadaaGreat.Abs
end
section
namespace Go.Proofs.YthkdlifcknpadaaGreat.Abs
open Go Go.RowKit
def Ub (call:FuncId→List AV→List Zh→Option (AV×List Zh×Eff))(f:FuncId)(args:List AV)(hp:List Zh):Option (AV×List Zh×Eff) :=
 match call f args hp with
 | some (v,hp',none)=>match frz hp.length hp' v with
  | some v'=>some (v',hp,none)
  | none=>none
 | _=>none
theorem Zjd {call:FuncId→List AV→List Zh→Option (AV×List Zh×Eff)}:∀ f args hp v hp' e,Ub call f args hp=some (v,hp',e)→hp'=hp∧e=none:=by
 intro f args hp v hp' e h
 unfold Ub at h
 split at h <;> first | (cases h; done) | skip
 split at h <;> first | (cases h; done) | skip
 cases h
 exact ⟨rfl,rfl⟩
theorem EZ {P:Program}{W0:World}{call:FuncId→List AV→List Zh→Option (AV×List Zh×Eff)}(hS:ZT P W0 call):ZT P W0 (Ub call):=by
 intro f args hp v hp' e h Γ w xs hr ht hs hx
 unfold Ub at h
 split at h <;> first | (cases h; done) | skip
 rename_i v0 hp0 hc
 split at h <;> first | (cases h; done) | skip
 rename_i v1 hf
 cases h
 refine (hS f args hp v0 hp0 none hc Γ w xs hr ht hs hx).mono fun cv w' ⟨Γ',r1,r2,r3,r4,r5⟩=>?_
 exact BH (s := ⟨[],hp0,none,hp.length⟩) hr rfl r5.1 (fun b n g i hb=>ht.cell b n g i hb) r1 r4 r5.2 r2 r3 (keep := false) (by simp only [finish,hf]; rfl)
def V4:Kind→Kind
 | .own _=>.list 0 .outer
 | .list n (.cell _ _)=>.list n .outer
 | k=>k
def VM:Kind→Bool
 | .own _=>true
 | .list _ (.cell _ _)=>true
 | _=>false
theorem Zdp {k:Kind}{o:Nat}(h:QR o k):QR o (V4 k):=by
 cases k with
 | imm=>trivial
 | own g=>exact h.elim
 | list n l=>cases l <;> exact h
theorem Zdq {k:Kind}{g:Nat}:V4 k≠.own g:=by
 cases k with
 | imm=>simp [V4]
 | own g=>simp [V4]
 | list n l=>cases l <;> simp [V4]
theorem ZhJ {k:Kind}(h:VM k=false):V4 k=k:=by
 cases k with
 | imm=>rfl
 | own g=>cases h
 | list n l=>cases l <;> first | rfl | cases h
theorem ZhI {k:Kind}(h:VM k=true):Kept none (V4 k):=by
 cases k with
 | imm=>cases h
 | own g=>trivial
 | list n l=>cases l <;> first | trivial | cases h
theorem Zfa {k:Kind}{o:Nat}(h:VM k=true)(hf:QR o (V4 k)):QR o k:=by
 cases k with
 | imm=>cases h
 | own g=>exact absurd hf (Nat.not_lt_zero _)
 | list n l=>cases l <;> first | exact hf | cases h
theorem Rep.bare {Γ Γ':Zu}{w:World}{x:AV}{v:Value}(hf:Yn Γ w Γ' w)(h:Rep Γ w x v)(hb:x.bare=true):Rep Γ' w x v:=by
 cases h with
 | agg cells cv hs h1 hn hr =>
  refine .agg cells cv hs h1 hn fun j c hc=>(hr j c hc).noId hf ?_
  exact List.all_eq_true.1 hb c (List.mem_of_getElem? hc)
 | _=>exact Rep.noId hf (by constructor <;> assumption) hb
theorem Gj {P:Program}{W0:World}{call:FuncId→List AV→List Zh→Option (AV×List Zh×Eff)}(hS:ZT P W0 call):ZT P W0 (Yd call):=by
 intro f args hp v hp' e h Γ w xs hr ht hs hx
 have hc:args.all AV.bare=true∧Ub call f args []=some (v,[],none)∧hp'=hp∧e=none:=by
  unfold Yd at h
  split at h <;> first | (cases h; done) | skip
  rename_i hb
  split at h <;> first | (cases h; done) | skip
  rename_i v0 hp0 hc
  split at h <;> first | (cases h; done) | skip
  rename_i v1 hf
  cases h
  refine ⟨hb,?_,rfl,rfl⟩
  unfold Ub
  rw [hc]
  simp only [List.length_nil]
  rw [hf]
 obtain ⟨hb,hc,rfl,rfl⟩:=hc
 have f1:Yn Γ w (fun b=>V4 (Γ b)) w:=fun _ _ _ h1 h2=>⟨Zdp h1,h2⟩
 have hr1:RW W0 (fun b=>V4 (Γ b)) w []:=⟨fun g o hg=>by simp at hg,fun b b' g hb=>absurd hb Zdq,fun b hb=>by simp [hr.fresh b hb,V4],fun b g hb=>absurd hb Zdq,hr.old,fun b hb=>by simp [hr.oldImm b hb,V4],fun g hg=>by simp at hg⟩
 have ht1:Tidy (fun b=>V4 (Γ b)) 0:=by
  refine ⟨fun b m h=>?_,fun b m j h=>?_,fun b m g i h=>?_⟩
  ·have:=ht.res b m
   cases hg:Γ b with
   | imm=>simp [hg,V4] at h
   | own g=>simp [hg,V4] at h
   | list n l=>cases l <;> simp [hg,V4] at h this <;> omega
  ·have:=ht.arg b m j
   cases hg:Γ b with
   | imm=>simp [hg,V4] at h
   | own g=>simp [hg,V4] at h
   | list n l=>cases l <;> simp [hg,V4] at h this <;> omega
  ·cases hg:Γ b with
   | imm=>simp [hg,V4] at h
   | own g=>simp [hg,V4] at h
   | list n l=>cases l <;> simp [hg,V4] at h
 refine (EZ hS f args [] v [] none hc (fun b=>V4 (Γ b)) w xs hr1 ht1 hs fun j x hj=>?_).mono fun cv w' ⟨Γ',r1,r2,r3,r4,r5⟩=>?_
 ·obtain ⟨q1,q2⟩:=hx j x hj
  have hbx:=List.all_eq_true.1 hb x (List.mem_of_getElem? hj)
  refine ⟨q1.bare f1 hbx,fun k rows e=>?_⟩
  rcases q2 k rows e with h | ⟨b,cap,e,cur,h1,h2,h3,h4,h5,h6,h7,h8⟩
  ·exact .inl h
  ·exact .inr ⟨b,cap,e,cur,h1,by simp [h2,V4],h3,h4,h5,h6,h7,fun i j r c hi hj=>⟨(h8 i j r c hi hj).1,(h8 i j r c hi hj).2.noId f1 (h8 i j r c hi hj).1⟩⟩
 ·have lt:∀ b,Γ b≠.imm→b < w.heap.size:=fun b hb=>by
   rcases Nat.lt_or_ge b w.heap.size with h' | h'
   ·exact h'
   ·exact absurd (hr.fresh b h') hb
  have lost:∀ b,VM (Γ b)=true→Γ' b=V4 (Γ b)∧w'.heap[b]? = w.heap[b]?:=fun b hb=>r4.keep b (lt b fun e=>by rw [e] at hb; cases hb) (ZhI hb)
  let Γ2:Zu:=fun b=>if VM (Γ b)=true then Γ b else Γ' b
  have g1:∀ b,VM (Γ b)=true→Γ2 b=Γ b:=fun b hb=>if_pos hb
  have g2:∀ b,¬ VM (Γ b)=true→Γ2 b=Γ' b:=fun b hb=>if_neg hb
  have fix:Yn Γ w Γ2 w':=fun b o y h1 h2=>by
   obtain ⟨k1,k2⟩:=r4.fix b o y (Zdp h1) h2
   refine ⟨?_,k2⟩
   unfold IC
   by_cases hb:VM (Γ b)=true
   ·rw [g1 b hb]; exact h1
   ·rw [g2 b hb]; exact k1
  have own:YB Γ Γ2:=fun b g hb=>by rw [g1 b (by rw [hb]; rfl)]; exact hb
  have ownI:∀ b g,Γ2 b=.own g→Γ b=.own g:=fun b g hb=>by
   by_cases hl:VM (Γ b)=true
   ·rw [g1 b hl] at hb; exact hb
   ·rw [g2 b hl] at hb; exact absurd (r1.lt b g hb) (Nat.not_lt_zero _)
  have fix2:Yn Γ' w' Γ2 w':=fun b o y h1 h2=>by
   refine ⟨?_,h2⟩
   unfold IC at h1 ⊢
   by_cases hb:VM (Γ b)=true
   ·rw [g1 b hb]
    rw [(lost b hb).1] at h1
    exact Zfa hb h1
   ·rw [g2 b hb]; exact h1
  have own2:YB Γ' Γ2:=fun b g hb=>absurd (r1.lt b g hb) (Nat.not_lt_zero _)
  have keepL:∀ b,VM (Γ b)=true→Γ2 b=Γ b∧w'.heap[b]? = w.heap[b]?:=fun b hb=>⟨g1 b hb,(lost b hb).2⟩
  have imm2:∀ b,Γ' b=.imm→VM (Γ b)=false→Γ2 b=.imm:=fun b h1 h2=>by rw [g2 b (by rw [h2]; simp)]; exact h1
  refine ⟨Γ2,⟨fun g o hg=>?_,fun b b' g h1 h2=>hr.inj b b' g (ownI b g h1) (ownI b' g h2),fun b hb=>?_,fun b g hb=>hr.lt b g (ownI b g hb),r1.old,fun b hb=>?_,fun g hg b hb=>hr.dead g hg b (ownI b g hb)⟩,r2.mono fix2 own2,r3.mono fix2 own2 fun b n hb=>⟨?_,rfl⟩,
   ⟨r4.os,r4.tape,r4.output,r4.size,fix,own,fun b hb hk=>?_⟩,Nat.le_refl _,fun b g hb _=>ownI b g hb⟩
  ·have hold:=hr.objs g o hg
   cases o with
   | dead=>trivial
   | cells cs t =>
    obtain ⟨b,C,h1,h2,h3,h4⟩:=hold
    obtain ⟨k1,k2⟩:=keepL b (by rw [h1]; rfl)
    refine ⟨b,C,k1.trans h1,k2.trans h2,h3,fun i c hc=>?_⟩
    obtain ⟨a1,a2,a3⟩:=h4 i c hc
    refine ⟨a1,a2.mono fix own,a3.mono fix own fun b n hb=>?_⟩
    obtain ⟨k1,k2⟩:=keepL b (by rw [hb]; rfl)
    exact ⟨k1.trans hb,k2⟩
   | map es =>
    obtain ⟨b,ms,clk,h1,h2,h3,h4⟩:=hold
    obtain ⟨k1,k2⟩:=keepL b (by rw [h1]; rfl)
    exact ⟨b,ms,clk,k1.trans h1,k2.trans h2,h3,h4⟩
   | iter l pos =>
    obtain ⟨b,h1,h2⟩:=hold
    obtain ⟨k1,k2⟩:=keepL b (by rw [h1]; rfl)
    exact ⟨b,k1.trans h1,k2.trans h2⟩
   | buf _ _ _ _ =>
    obtain ⟨b,C,h1,h2,h3⟩:=hold
    obtain ⟨k1,k2⟩:=keepL b (by rw [h1]; rfl)
    refine ⟨b,C,k1.trans h1,k2.trans h2,h3.mono fun b n i hb=>?_⟩
    obtain ⟨k1,k2⟩:=keepL b (by rw [hb]; rfl)
    exact ⟨k1.trans hb,k2⟩
  ·refine imm2 b (r1.fresh b hb) ?_
   rw [hr.fresh b (Nat.le_trans r4.size hb)]; rfl
  ·refine imm2 b (r1.oldImm b hb) ?_
   rw [hr.oldImm b hb]; rfl
  ·by_cases hl:VM (Γ b)=true
   ·have:=(lost b hl).1
    rw [hb] at this
    cases hg:Γ b with
    | imm=>simp [hg,V4] at this
    | own g=>simp [hg,V4] at this
    | list n l=>cases l <;> simp [hg,V4] at this <;> (rw [hg] at hl; cases hl)
   ·rw [g2 b hl]; exact hb
  ·by_cases hl:VM (Γ b)=true
   ·exact keepL b hl
   ·have hsame:=ZhJ (by simpa using hl:VM (Γ b)=false)
    obtain ⟨k1,k2⟩:=r4.keep b hb (by show Kept none (V4 (Γ b)); rw [hsame]; exact hk)
    exact ⟨by rw [g2 b hl,k1]; exact hsame,k2⟩
def Zre:AV→Bool
 | .own _ r=>r.all fun l=>l.all AV.flat1
 | v=>v.flat
def Zfm (call:FuncId→List AV→List Zh→Option (AV×List Zh×Eff))(f:FuncId)(args:List AV)(hp:List Zh):Option (AV×List Zh×Eff) :=
 match args.mapM (frz 0 hp) with
 | some as=>match call f as [] with
  | some (v,hp',none)=>match frz 0 hp' v with
   | some v'=>if Zre v' then some (v',hp,none) else none
   | none=>none
  | _=>none
 | none=>none
theorem ZaP {k:Kind}{g:Nat}:Wp 0 k≠.own g:=fun h=>absurd (QU h).2 (Nat.not_lt_zero _)
theorem Ae {k:Kind}(h:VM k=false):Wp 0 k=k:=by
 cases k with
 | imm=>rfl
 | own g=>cases h
 | list n l=>cases l <;> first | rfl | cases h
theorem L9 {k:Kind}(h:VM k=true):Wp 0 k=.imm:=by
 cases k with
 | imm=>cases h
 | own g=>rfl
 | list n l=>cases l <;> first | rfl | cases h
theorem Zmq {P:Program}{W0:World}{call:FuncId→List AV→List Zh→Option (AV×List Zh×Eff)}(hS:ZT P W0 call):ZT P W0 (Zfm call):=by
 intro f args hp v hp' e h Γ w xs hr ht hs hx
 unfold Zfm at h
 split at h <;> first | (cases h; done) | skip
 rename_i as hm
 have hc:Ub call f as []=some (v,[],none)∧Zre v=true∧hp'=hp∧e=none:=by
  split at h <;> first | (cases h; done) | skip
  rename_i v0 hp0 hc
  split at h <;> first | (cases h; done) | skip
  rename_i v1 hf
  split at h <;> first | (cases h; done) | skip
  rename_i hfree
  cases h
  refine ⟨?_,hfree,rfl,rfl⟩
  unfold Ub
  rw [hc]
  simp only [List.length_nil]
  rw [hf]
 clear h
 obtain ⟨hc,hfree,rfl,rfl⟩:=hc
 obtain ⟨m1,m2⟩:=BN hm
 have f1:Yn Γ w (fun b=>Wp 0 (Γ b)) w:=fun _ _ _ h1 h2=>⟨Gp h1,h2⟩
 have hr1:RW W0 (fun b=>Wp 0 (Γ b)) w []:=⟨fun g o hg=>by simp at hg,fun b b' g hb=>absurd hb ZaP,fun b hb=>by simp [hr.fresh b hb,Wp],fun b g hb=>absurd hb ZaP,hr.old,fun b hb=>by simp [hr.oldImm b hb,Wp],fun g hg=>by simp at hg⟩
 have keepL:∀ k m l,Wp 0 k=.list m l→k=.list m l:=fun k m l h=>by
  cases hl:VM k with
  | true=>rw [L9 hl] at h; cases h
  | false=>rw [Ae hl] at h; exact h
 have ht1:Tidy (fun b=>Wp 0 (Γ b)) 0:=by
  refine ⟨fun b m h=>ht.res b m (keepL _ _ _ h),fun b m j h=>ht.arg b m j (keepL _ _ _ h),fun b m g i h=>?_⟩
  have:=keepL _ _ _ h
  rw [this] at h
  cases h
 refine (EZ hS f as [] v [] none hc (fun b=>Wp 0 (Γ b)) w xs hr1 ht1 (by rw [hs,m1]) fun j x hj=>?_).mono fun cv w' ⟨Γ',r1,r2,r3,r4,r5⟩=>?_
 ·obtain ⟨y,y1,y2⟩:=m2 j x hj
  obtain ⟨q1,q2⟩:=hx j y y1
  have other:ZaS 0 hp' y=some x→Rep (fun b=>Wp 0 (Γ b)) w x (xs.getD j Go.undef)∧OwnAt (fun b=>Wp 0 (Γ b)) w (.slot j) x (xs.getD j Go.undef):=fun h=>by
   obtain ⟨h1,h2⟩:=Pm hr h q1
   exact ⟨h1,.of_ne h2⟩
  cases y with
  | own k r =>
   have:x=.own k r:=(Option.some.inj y2).symm
   subst this
   exact ⟨q1.noId f1 rfl,q2.fix f1 fun b n hb=>⟨by simp [hb,Wp],rfl⟩⟩
  | tup vs =>
   obtain ⟨h1,h2⟩:=ZnP hr y2 q1 (.of_ne (by simp))
   obtain ⟨vs',_,e⟩:=Option.map_eq_some_iff.1 (show (vs.mapM (ZaS 0 hp')).map AV.tup=some x from y2)
   subst e
   exact ⟨h1,.of_ne (by simp)⟩
  | _=>exact other y2
 ·have lt:∀ b,Γ b≠.imm→b < w.heap.size:=fun b hb=>by
   rcases Nat.lt_or_ge b w.heap.size with h' | h'
   ·exact h'
   ·exact absurd (hr.fresh b h') hb
  have lost:∀ b,VM (Γ b)=true→Γ' b=.imm∧w'.heap[b]? = w.heap[b]?:=fun b hb=>by
   obtain ⟨k1,k2⟩:=r4.keep b (lt b fun e=>by rw [e] at hb; cases hb) (by show Kept none (Wp 0 (Γ b)); rw [L9 hb]; trivial)
   exact ⟨k1.trans (L9 hb),k2⟩
  let Γ2:Zu:=fun b=>if VM (Γ b)=true then Γ b else Γ' b
  have g1:∀ b,VM (Γ b)=true→Γ2 b=Γ b:=fun b hb=>if_pos hb
  have g2:∀ b,¬ VM (Γ b)=true→Γ2 b=Γ' b:=fun b hb=>if_neg hb
  have fix:Yn Γ w Γ2 w':=fun b o y h1 h2=>by
   obtain ⟨k1,k2⟩:=r4.fix b o y (Gp h1) h2
   refine ⟨?_,k2⟩
   unfold IC
   by_cases hb:VM (Γ b)=true
   ·rw [g1 b hb]; exact h1
   ·rw [g2 b hb]; exact k1
  have own:YB Γ Γ2:=fun b g hb=>by rw [g1 b (by rw [hb]; rfl)]; exact hb
  have ownI:∀ b g,Γ2 b=.own g→Γ b=.own g:=fun b g hb=>by
   by_cases hl:VM (Γ b)=true
   ·rw [g1 b hl] at hb; exact hb
   ·rw [g2 b hl] at hb; exact absurd (r1.lt b g hb) (Nat.not_lt_zero _)
  have keepO:∀ b,VM (Γ b)=true→Γ2 b=Γ b∧w'.heap[b]? = w.heap[b]?:=fun b hb=>⟨g1 b hb,(lost b hb).2⟩
  have imm2:∀ b,Γ' b=.imm→VM (Γ b)=false→Γ2 b=.imm:=fun b h1 h2=>by rw [g2 b (by rw [h2]; simp)]; exact h1
  have resOwn:OwnAt Γ2 w' .res v cv:=fun k rows e=>by
   subst e
   rcases r3 k rows rfl with h | ⟨b,cap,e,cur,h1,h2,h3,h4,h5,h6,h7,h8⟩
   ·exact .inl h
   ·refine .inr ⟨b,cap,e,cur,h1,?_,h3,h4,h5,h6,h7,fun i j r c hi hj=>⟨(h8 i j r c hi hj).1,Gq (h8 i j r c hi hj).2 ?_⟩⟩
    ·rw [g2 b fun hl=>by rw [(lost b hl).1] at h2; cases h2]; exact h2
    ·have:=List.all_eq_true.1 (show (rows.all fun l=>l.all AV.flat1)=true from hfree) r (List.mem_of_getElem? hi)
     exact List.all_eq_true.1 this c (List.mem_of_getElem? hj)
  have resRep:Rep Γ2 w' v cv:=by
   cases v with
   | own k rows=>exact resOwn.rep
   | _=>exact ZgT r2 hfree
  refine ⟨Γ2,⟨fun g o hg=>?_,fun b b' g h1 h2=>hr.inj b b' g (ownI b g h1) (ownI b' g h2),fun b hb=>?_,fun b g hb=>hr.lt b g (ownI b g hb),r1.old,fun b hb=>?_,fun g hg b hb=>hr.dead g hg b (ownI b g hb)⟩,resRep,resOwn,
   ⟨r4.os,r4.tape,r4.output,r4.size,fix,own,fun b hb hk=>?_⟩,Nat.le_refl _,fun b g hb _=>ownI b g hb⟩
  ·have hold:=hr.objs g o hg
   cases o with
   | dead=>trivial
   | cells cs t =>
    obtain ⟨b,C,h1,h2,h3,h4⟩:=hold
    obtain ⟨k1,k2⟩:=keepO b (by rw [h1]; rfl)
    refine ⟨b,C,k1.trans h1,k2.trans h2,h3,fun i c hc=>?_⟩
    obtain ⟨a1,a2,a3⟩:=h4 i c hc
    refine ⟨a1,a2.mono fix own,a3.mono fix own fun b n hb=>?_⟩
    obtain ⟨k1,k2⟩:=keepO b (by rw [hb]; rfl)
    exact ⟨k1.trans hb,k2⟩
   | map es =>
    obtain ⟨b,ms,clk,h1,h2,h3,h4⟩:=hold
    obtain ⟨k1,k2⟩:=keepO b (by rw [h1]; rfl)
    exact ⟨b,ms,clk,k1.trans h1,k2.trans h2,h3,h4⟩
   | iter l pos =>
    obtain ⟨b,h1,h2⟩:=hold
    obtain ⟨k1,k2⟩:=keepO b (by rw [h1]; rfl)
    exact ⟨b,k1.trans h1,k2.trans h2⟩
   | buf _ _ _ _ =>
    obtain ⟨b,C,h1,h2,h3⟩:=hold
    obtain ⟨k1,k2⟩:=keepO b (by rw [h1]; rfl)
    refine ⟨b,C,k1.trans h1,k2.trans h2,h3.mono fun b n i hb=>?_⟩
    obtain ⟨k1,k2⟩:=keepO b (by rw [hb]; rfl)
    exact ⟨k1.trans hb,k2⟩
  ·refine imm2 b (r1.fresh b hb) ?_
   rw [hr.fresh b (Nat.le_trans r4.size hb)]; rfl
  ·refine imm2 b (r1.oldImm b hb) ?_
   rw [hr.oldImm b hb]; rfl
  ·by_cases hl:VM (Γ b)=true
   ·exact keepO b hl
   ·have hsame:=Ae (by simpa using hl:VM (Γ b)=false)
    obtain ⟨k1,k2⟩:=r4.keep b hb (by show Kept none (Wp 0 (Γ b)); rw [hsame]; exact hk)
    exact ⟨by rw [g2 b hl,k1]; exact hsame,k2⟩
def Zfu (S:List Nat)(call:FuncId→List AV→List Zh→Option (AV×List Zh×Eff))(f:FuncId)(args:List AV)(hp:List Zh):Option (AV×List Zh×Eff) :=
 match S.elem f with
 | true=>Zfm call f args hp
 | false=>call f args hp
theorem Zm9 {P:Program}{W0:World}{call:FuncId→List AV→List Zh→Option (AV×List Zh×Eff)}(S:List Nat)(hS:ZT P W0 call):ZT P W0 (Zfu S call):=by
 intro f args hp v hp' e h
 unfold Zfu at h
 split at h
 ·exact Zmq hS f args hp v hp' e h
 ·exact hS f args hp v hp' e h
end Go.Proofs.YthkdlifcknpadaaGreat.Abs
end
section
namespace Go.Proofs.YthkdlifcknpadaaGreat.Abs
open Go Go.RowKit
section
variable {G:Nat→Option (List AV)}{call:FuncId→List AV→List Zh→Option (AV×List Zh×Eff)}
theorem Zj7 {s s':Za}{ao:AOp}{v:AV}(h:Zc G call s ao=some (v,s')):s'.bs=s.bs:=by
 cases ao <;> simp only [Zc] at h <;> (repeat' split at h) <;> first
  | (cases h; done)
  | (obtain ⟨_,rfl⟩:=YN h; rfl)
  | (cases h; rfl)
  | (obtain ⟨x,_,e⟩:=Option.map_eq_some_iff.1 h; cases e; rfl)
theorem Zoh (s:Za)(d:Option Nat)(v:AV):(s.put d v).bs=s.bs:=by cases d <;> rfl
theorem VY:∀ {l:List ZF} {s s':Za},Z7 G call l s=some s'→s'.bs=s.bs
 | [],s,s',h=>by cases h; rfl
 | o :: l,s,s',h=>by
  simp only [Z7] at h
  split at h <;> first | (cases h; done) | skip
  rename_i s1 h1
  rw [VY h]
  simp only [Zt] at h1
  split at h1 <;> first | (cases h1; done) | skip
  ·split at h1 <;> first | (cases h1; done) | skip
   rename_i v s2 h2
   obtain rfl:=Option.some.inj h1
   rw [Zoh,Zj7 h2]
  ·obtain rfl:=Option.some.inj h1
   rw [Zoh]
theorem Zfo {f:Za→Option (U3×Za)}(hf:∀ {s:Za} {r:U3×Za},f s=some r→r.2.bs=s.bs):∀ (n:Nat) {s:Za} {r:U3×Za},iter f n s=some r→r.2.bs=s.bs
 | 0,_,_,h=>by cases h
 | n + 1,s,r,h=>by
  simp only [iter] at h
  split at h
  ·rename_i s1 h1
   rw [Zfo hf n h]
   exact hf h1
  ·exact hf h
theorem Zfi (L:Nat):∀ {c:Wh} {s:Za} {r:U3×Za},Zq G call L c s=some r→r.2.bs=s.bs:=by
 intro c
 induction c with
 | skip=>intro s r h; cases h; rfl
 | region draw ops =>
  intro s r h
  cases draw with
  | false =>
   simp only [Zq] at h
   obtain ⟨s1,h1,rfl⟩:=Option.map_eq_some_iff.1 h
   exact VY h1
  | true =>
   simp only [Zq] at h
   obtain ⟨s1,h1,rfl⟩:=Option.map_eq_some_iff.1 h
   exact VY h1
 | regionB ops =>
  intro s r h
  simp only [Zq] at h
  obtain ⟨s1,h1,rfl⟩:=Option.map_eq_some_iff.1 h
  exact VY h1
 | seq x y ihx ihy =>
  intro s r h
  simp only [Zq] at h
  split at h
  ·rename_i s1 h1
   rw [ihy h]; exact ihx h1
  ·exact ihx h
 | cond c x y ihx ihy =>
  intro s r h
  simp only [Zq] at h
  split at h <;> first | (cases h; done) | skip
  ·exact ihx h
  ·exact ihy h
 | block id c ih =>
  intro s r h
  simp only [Zq] at h
  split at h
  ·rename_i i s1 h1
   have:=ih h1
   split at h <;> (obtain rfl:=Option.some.inj h; exact this)
  ·exact ih h
 | loop c ih =>
  intro s r h
  simp only [Zq] at h
  exact Zfo ih L h
 | scope c ih=>intro s r h; simp only [Zq] at h; exact ih h
 | exit id=>intro s r h; cases h; rfl
 | ret=>intro s r h; cases h; rfl
 | bad=>intro s r h; cases h
end
structure Zdf (P:Program)(W0:World)(C:Cfg):Prop where
 mixed:P.follows .mixedOrders=true
 globals:GOk C.G W0
 table:∀ f af,C.T f=some af→∃ fn takes,P.funcs[f]? = some fn∧(fn.name == "runtime.NumGoroutine")=false∧cFn P takes fn=some af
 oracle:ZT P W0 C.O
theorem BG {P:Program}{f:FuncId}{fn:Func}{c:Code}(hf:P.funcs[f]? = some fn)(hn:(fn.name == "runtime.NumGoroutine")=false)(hb:fn.body=some c)(xs:Array Value)(w:World):(callFunc f xs).run P w=.ok (.enter f xs) w:=by
 have hn':¬ fn.name = "runtime.NumGoroutine" := by simpa using hn
 simp [callFunc,program,hf,hn',hb,Sem.run]
theorem WV {P:Program}{W0:World}{C:Cfg}(h:Zdf P W0 C):∀ n,ZT P W0 (Zy C n):=by
 intro n
 induction n with
 | zero=>intro f args hp v hp' e hc; cases hc
 | succ n ih =>
  intro f args hp v hp' e hc Γ w xs hr ht hs hx
  simp only [Zy] at hc
  split at hc
  case h_2=>exact h.oracle f args hp v hp' e hc Γ w xs hr ht hs hx
  rename_i af haf
  obtain ⟨fn,takes,hf,hname,hcf⟩:=h.table f af haf
  unfold cFn at hcf
  split at hcf <;> first | (cases hcf; done) | skip
  rename_i c rs hb hrs
  obtain ⟨ac,hac,rfl⟩:=Option.map_eq_some_iff.1 hcf
  split at hc
  ·cases hc
  ·rename_i x s hne hev
   split at hc <;> first | (cases hc; done) | skip
   rename_i u hu
   have hfin:=Option.some.inj hc
   refine ⟨BG hf hname hb xs w,?_⟩
   have hbs:s.bs=hp.length:=Zfi C.L hev
   have hI:Inv ⟨W0,Γ,w⟩ ⟨args ++ List.replicate (fn.ntmps - args.length) .undef,hp,none,hp.length⟩ Γ { tmps := xs ++ Array.replicate (fn.ntmps - xs.size) Go.undef,defers := [] } w:=by
    have get:∀ (t:Nat) (y:AV),(args ++ List.replicate (fn.ntmps - args.length) AV.undef)[t]? = some y→(args[t]? = some y∧(xs ++ Array.replicate (fn.ntmps - xs.size) Go.undef).getD t Go.undef=xs.getD t Go.undef)∨(y=.undef∧(xs ++ Array.replicate (fn.ntmps - xs.size) Go.undef).getD t Go.undef=Go.undef):=by
     intro t y hy
     rw [List.getElem?_append] at hy
     split at hy
     ·rename_i hlt
      refine .inl ⟨hy,?_⟩
      rw [Array.getD_eq_getD_getElem?,Array.getD_eq_getD_getElem?,Array.getElem?_append_left (by omega)]
     ·rename_i hge
      have hm:=List.mem_of_getElem? hy
      have:=List.eq_of_mem_replicate hm
      refine .inr ⟨this,?_⟩
      have hlt:=Zn hy
      simp only [List.length_replicate] at hlt
      rw [Array.getD_eq_getD_getElem?,Array.getElem?_append_right (by omega),Array.getElem?_replicate,if_pos (by omega)]
      rfl
    refine ⟨rfl,⟨by simp [hs],fun t y hy=>?_,fun t y hy=>?_⟩,hr,.refl _ _ _,fun b g hb=>hr.lt b g hb,fun b m g i hb=>ht.cell b m g i hb,Nat.le_refl _,fun _ _ hb _=>hb⟩
    ·rcases get t y hy with ⟨h1,h2⟩ | ⟨rfl,h2⟩
     ·rw [h2]; exact (hx t y h1).1
     ·rw [h2]; exact .undef
    ·rcases get t y hy with ⟨h1,h2⟩ | ⟨rfl,h2⟩
     ·rw [h2]; exact (hx t y h1).2
     ·exact .of_ne (by simp)
   have hw:=Zff h.mixed h.globals ih (Gj ih) C.L hac hev hI
   refine calls_of_wp hf hb (Go.wp_mono hw fun en a' w' he=>?_)
   obtain ⟨k1,Γ',i1⟩:=he
   have fin:a'.defers=[]∧∃ cv,(results fn a'.tmps).run P w'=.ok cv w'∧∃ v',Ending.returned cv=.returned v'∧∃ Γ',RW W0 Γ' w' hp'∧Rep Γ' w' v v'∧OwnAt Γ' w' .res v v'∧Frame Γ w Γ' w' e∧hp.length≤hp'.length∧∀ b g,Γ' b=.own g→g < hp.length→Γ b=.own g:=by
    obtain ⟨cv,Γ2,q1,q2,q3,q4,q5,q6⟩:=ZkY i1 hrs hu
    obtain ⟨Γ3,p1,p2,p3,p4,p5⟩:=BH hr hbs (by rw [hbs]; have:=i1.le; simpa [hbs] using this) (fun b m g i hb=>by rw [hbs]; exact ht.cell b m g i hb) q2 q3 q6 q4 q5 hfin
    exact ⟨i1.defers,cv,q1,cv,rfl,Γ3,p1,p2,p3,p4,p5⟩
   cases x with
   | exit i=>exact (hne i rfl).elim
   | normal=>cases en <;> first | exact k1.elim | exact fin
   | ret=>cases en <;> first | exact k1.elim | exact fin
  ·cases hc
end Go.Proofs.YthkdlifcknpadaaGreat.Abs
end
section
namespace Go.Proofs.YthkdlifcknpadaaGreat.Abs
open Go Go.RowKit
def still:Zu:=fun _=>.imm
theorem Dn (W:World):RW W still W [] :=
 ⟨fun g o hg=>by simp at hg,fun b b' g h=>(by cases h),fun _ _=>rfl,fun b g h=>(by cases h),⟨rfl,rfl,rfl,Nat.le_refl _,fun _ _=>rfl⟩,fun _ _=>rfl,fun g hg=>by simp at hg⟩
theorem PI:Tidy still 0:=⟨fun _ _ h=>(by cases h),fun _ _ _ h=>(by cases h),fun _ _ _ _ h=>(by cases h)⟩
theorem Zrz {P:Program}{W:World}{C:Cfg}(h:Zdf P W C){n:Nat}{f:FuncId}{avs:List AV}{hp:List Zh}{e:Eff}(hev:Zy C n f avs []=some (.bool true,hp,e)){args:Array Value}
  (hs:args.size=avs.length) (hr:∀ (j:Nat) (x:AV),avs[j]? = some x→Rep still W x (args.getD j Go.undef)∧∀ k r,x≠.own k r) :
  Calls P f args W fun e W'=>e=.returned (.bool true)∧Below W.heap.size W W':=by
 obtain ⟨_,hw⟩:=WV h n f avs [] _ _ _ hev still W args (Dn W) PI hs fun j x hx=>⟨(hr j x hx).1,.of_ne (hr j x hx).2⟩
 refine hw.mono fun en W' ⟨cv,hv,Γ',r1,r2,_,r4,_⟩=>?_
 subst hv
 cases r2
 exact ⟨rfl,r4.os,r4.tape,r4.output,r4.size,fun b hb=>(r4.keep b hb trivial).2⟩
end Go.Proofs.YthkdlifcknpadaaGreat.Abs
end
section
namespace Go.Proofs.YthkdlifcknpadaaGreat.Abs
open Go Go.RowKit
def SV (P:Program)(W0:World)(f:FuncId)(args:List AV)(v:AV):Prop :=
 (∀ k r,v≠.own k r)∧∀ (Γ:Zu) (w:World) (xs:Array Value),Below W0.heap.size W0 w→(∀ b,w.heap.size≤b→Γ b=.imm)→xs.size=args.length→(∀ (j:Nat) (x:AV),args[j]? = some x→Rep Γ w x (xs.getD j Go.undef)) →
  Zox P f xs w fun cv w'=>Below w.heap.size w w'∧Rep Γ w' v cv
theorem OL {P:Program}{W0:World}{O:FuncId→List AV→Option AV}(h:∀ f args v,O f args=some v→SV P W0 f args v) :
  ZT P W0 fun f args hp=>(O f args).map fun v=>(v,hp,none):=by
 intro f args hp v hp' e ho Γ w xs hr _ hs hx
 obtain ⟨u,hu,e1⟩:=Option.map_eq_some_iff.1 ho
 cases e1
 obtain ⟨hown,hrun⟩:=h f args v hu
 refine (hrun Γ w xs hr.old hr.fresh hs fun j x hj=>(hx j x hj).1).mono fun cv w' ⟨hb,hv⟩=>?_
 have st:Step Γ w Γ w' fun _=>False:=⟨hb.os,hb.tape,hb.output,hb.size,fun b hbl _=>⟨rfl,hb.block b hbl⟩,fun b o v h1 h2=>⟨h1,(J6 (hb.block b (lt_of_cell h2))).trans h2⟩,.refl _⟩
 obtain ⟨o1,o2⟩:=Gl hr.old hr.oldImm st fun _ hx=>hx.elim
 refine ⟨Γ,⟨fun g o hg=>(hr.objs g o hg).step st hr.fresh (fun _ hx=>hx.elim) (fun _ _ _ hx=>hx.elim),hr.inj,fun b hbl=>hr.fresh b (Nat.le_trans hb.size hbl),hr.lt,o1,o2,hr.dead⟩,hv,.of_ne hown,⟨hb.os,hb.tape,hb.output,hb.size,st.fix,.refl _,fun b hbl _=>⟨rfl,hb.block b hbl⟩⟩,Nat.le_refl _,fun _ _ hb _=>hb⟩
theorem DI {P:Program}{f:FuncId}{fn:Func}{c:Code}{xs:Array Value}{w:World}{R:Value→World→Prop}(hf:P.funcs[f]? = some fn)(hn:(fn.name == "runtime.NumGoroutine")=false)(hb:fn.body=some c)
  (h:Calls P f xs w fun e w'=>∃ v,e=.returned v∧R v w'):Zox P f xs w R:=⟨BG hf hn hb xs w,h⟩
end Go.Proofs.YthkdlifcknpadaaGreat.Abs
end
section
namespace Go.Proofs.YthkdlifcknpadaaGreat.Abs
open Go
inductive KV where
 | raw (v:AV)
 | cln (v:AV)
def KV.val:KV→AV
 | .raw v=>v
 | .cln v=>v
def KV.rd:KV→AV
 | .raw v=>v.ro
 | .cln v=>v
abbrev TL {α:Type}(b:Bool)(x y:α):α :=
 match b with
 | true=>x
 | false=>y
abbrev Env:=Nat→KV
def Env.set (e:Env)(t:Nat)(v:KV):Env:=fun u=>TL (Nat.beq u t) v (e u)
def Env.put (e:Env)(d:Option Nat)(v:KV):Env :=
 match d with
 | some d=>e.set d v
 | none=>e
abbrev KR:=Option (AV×List Zh×Eff)
abbrev Lh:=Env→List Zh→Eff→KR
abbrev rdK {α:Type}(x:Option α)(k:α→KR):KR :=
 match x with
 | some v=>k v
 | none=>none
def Ye {α:Type}(x:Option α)(k:α→KR):KR :=
 match x with
 | some v=>k v
 | none=>none
def Ec {α β:Type}(x:Option (α×β))(k:α→β→KR):KR :=
 match x with
 | some (a,b)=>k a b
 | none=>none
def Ky {α β γ:Type}(x:Option (α×β×γ))(k:α→β→γ→KR):KR :=
 match x with
 | some (a,b,c)=>k a b c
 | none=>none
def ifK (v:AV)(a b:KR):KR :=
 match v with
 | .bool true=>a
 | .bool false=>b
 | _=>none
def MX (want:Bool):AV→Option Bool
 | .bool b=>some (b == want)
 | .undef=>some false
 | _=>none
def MZ (g:Option Bool)(x:KR)(hp:List Zh)(ef:Eff)(k:AV→List Zh→Eff→KR):KR :=
 match g with
 | some true=>Ky x k
 | some false=>k .undef hp ef
 | none=>none
def ZnS (g:Option Bool)(a b:KR):KR :=
 match g with
 | some true=>a
 | some false=>b
 | none=>none
def Aw (c:AV)(want:Bool)(x:KR)(other:Option AV)(hp:List Zh)(ef:Eff)(k:AV→List Zh→Eff→KR):KR :=
 match c with
 | .bool b=>match b == want with
  | true=>Ky x k
  | false=>Ye other fun v=>k v hp ef
 | _=>none
def Zl4 {α:Type}(x:α)(k:α→KR):KR:=k x
def SE (bs:Nat)(ef:Eff)(g v:Nat):Eff:=if g < bs then Eff.or ef (some (g,v)) else ef
def XP (bs:Nat)(ef:Eff):Eff→Eff
 | some (a,b)=>if a < bs then Eff.or ef (some (a,b)) else ef
 | none=>ef
def Zar (c a b:AV):Option AV :=
 match c with
 | .bool true=>some a
 | .bool false=>some b
 | _=>none
def Zl2 (n:Nat)(v:AV):Option (List AV):=if v.cells.length=n∧v.laid=true then some v.cells else none
def ZtV (e:TypeId)(k:Nat)(vs:List AV)(hp:List Zh):Option (AV×List Zh) :=
 if vs.all (fun v=>v.cells.length == k && v.cells.all AV.noId1) then some (.own k (vs.map fun v=>v.cells.map AV.ro),hp)
 else if vs.all (fun v=>v.cells.length == k && v.laid) then some (.arr hp.length 0 vs.length k,hp ++ [.cells (vs.map AV.cells).flatten e]) else none
def Zr3 (e:TypeId)(k:Nat)(vs:List AV)(hp:List Zh):Option (AV×List Zh) :=
 if vs.all (fun v=>v.cells.length == k && v.laid) then some (.arr hp.length 0 vs.length k,hp ++ [.cells (vs.map AV.cells).flatten e]) else none
def Zu5 (bs:Nat)(p:AV)(hp:List Zh)(ef:Eff):Option (AV×List Zh×Eff) :=
 match p with
 | .ptr g o=>match hp[g]? with
  | some (.cells cs t)=>match cs[o]? with
   | some v=>some (v.up,hp.set g (.cells (cs.set o v.ro) t),SE bs ef g 0)
   | none=>none
  | _=>none
 | _=>none
def stV (bs n:Nat)(p v:AV)(hp:List Zh)(ef:Eff):Option (List Zh×Eff) :=
 match p with
 | .ptr g o=>match hp[g]? with
  | some (.cells cs t)=>if v.cells.length=n∧o + n≤cs.length∧v.laid=true then some (hp.set g (.cells (splice cs o v.cells) t),SE bs ef g 0) else none
  | _=>none
 | _=>none
def Zlo (bs:Nat)(p v:AV)(hp:List Zh)(ef:Eff):Option (List Zh×Eff) :=
 match p with
 | .ptr g o=>match hp[g]? with
  | some (.cells cs t)=>if v.one=true∧o < cs.length then some (hp.set g (.cells (cs.set o v) t),SE bs ef g 0) else none
  | _=>none
 | _=>none
def Zcc:AV→Option AV
 | .ref c=>some (.ref c)
 | .ptr g o=>some (.ptr g o)
 | .fn f a c=>some (.fn f a c)
 | _=>none
def ZrC (e:TypeId)(zero:List AV)(n:AV)(hp:List Zh):Option (AV×List Zh) :=
 match n with
 | .int _ n=>if 0≤n∧n≤4294967296 then some (.arr hp.length 0 n.toNat zero.length,hp ++ [.cells (List.flatten (List.replicate n.toNat zero)) e]) else none
 | _=>none
def ZrD (bs:Nat)(sh:KSh)(m k v:AV)(hp:List Zh)(ef:Eff):Option (List Zh×Eff) :=
 match m with
 | .map g=>match hp[g]? with
  | some (.map es)=>if Kw sh k && v.flat1 then match update sh k v es with
    | some es'=>some (hp.set g (.map es'),SE bs ef g 0)
    | none=>none
   else none
  | _=>none
 | _=>none
def Zoi (x:AV)(hp:List Zh):Option (AV×List Zh) :=
 match x with
 | .str b=>some (.ptr hp.length 0,hp ++ [.iter b 0])
 | _=>none
def ZrE (bs:Nat)(x:AV)(hp:List Zh)(ef:Eff):Option (AV×List Zh×Eff) :=
 match x with
 | .ptr g 0=>match hp[g]? with
  | some (.iter b pos)=>if pos < b.length then
    some (.tup [.bool true,.int .i64 pos,.int .i32 (Utf8.decode ⟨b.toArray⟩ pos).1],hp.set g (.iter b (pos + (Utf8.decode ⟨b.toArray⟩ pos).2)),SE bs ef g 0)
   else some (.tup [.bool false],hp,ef)
  | _=>none
 | _=>none
def Tn (x:AV)(i:Nat):Option AV :=
 match x with
 | .tup vs=>(vs[i]?).map AV.ro
 | _=>none
def Ztp (k bytes:Nat)(s x:AV)(hp:List Zh):Option AV :=
 match s with
 | .own k' r=>match rowsOf hp x with
  | some (k'',r')=>if k=k'∧k=k''∧r'.all (·.all AV.noId1)∧(r.length + r'.length) * bytes≤140737488355328 then some (.own k (r ++ r')) else none
  | none=>none
 | _=>none
def ZqJ (bytes:Nat)(s x:AV):Option AV :=
 match s,x with
 | .own k r,.str l=>if k=1∧(r.length + l.length) * bytes≤140737488355328 then some (.own 1 (r ++ l.map byteRow)) else none
 | _,_=>none
def ZqI (k bytes:Nat)(x:AV)(hp:List Zh):Option AV :=
 match rowsOf hp x with
 | some (k'',r')=>if k=k''∧r'.all (·.all AV.noId1)∧r'.length * bytes≤140737488355328 then some (.own k r') else none
 | none=>none
def copyV (bs k:Nat)(d x:AV)(hp:List Zh)(ef:Eff):Option (AV×List Zh×Eff) :=
 match d with
 | .arr g off len k''=>match rowsOf hp x,hp[g]? with
  | some (k',r),some (.cells cs t)=>if k=k'∧k=k''∧off + Nat.min r.length len * k≤cs.length∧((r.take (Nat.min r.length len)).flatten.map AV.ro).all AV.one=true then
    some (.int .i64 (Nat.min r.length len:Nat),hp.set g (.cells (splice cs off ((r.take (Nat.min r.length len)).flatten.map AV.ro)) t),SE bs ef g 0) else none
  | _,_=>none
 | .lst _ []=>match rowsOf hp x with
  | some (k',_)=>if k=k' then some (.int .i64 0,hp,ef) else none
  | none=>none
 | _=>none
def ZrA:List AV→Option AV
 | .int .i64 n :: l=>(minL n l).map fun n=>.int .i64 n
 | _=>none
def Zr8:List AV→Option AV
 | .int .i64 n :: l=>(maxL n l).map fun n=>.int .i64 n
 | _=>none
def ZqQ (K:FuncId→List AV→List Zh→KR)(f:AV)(vs:List AV)(hp:List Zh):KR :=
 match f with
 | .fn f first caps=>K f (first.map AV.nm ++ vs ++ caps.map AV.nm) hp
 | _=>none
def VN:List Nat→Nat→Bool
 | [],_=>true
 | u :: l,t=>TL (Nat.beq u t) false (VN l t)
def rm (d:Nat):List Nat→List Nat
 | []=>[]
 | u :: l=>TL (Nat.beq u d) (rm d l) (u :: rm d l)
def rmO (d:Option Nat)(P:List Nat):List Nat :=
 match d with
 | some d=>rm d P
 | none=>P
def Xy:AOp→Bool
 | .take _ | .stt .. | .app .. | .apps .. => true
 | .call _ args=>args.any fun
  | .inl _=>true
  | .inr _=>false
 | _=>false
def QD (N t:Nat)(want:Bool)(P:List Nat):List Nat→List ZF→Nat
 | _,[]=>0
 | ds,o :: l=>match o.guard,o.dst with
  | some (u,w),some d =>
   TL (((Nat.beq u t && (w == want)) || !VN ds u) && !Nat.beq d t && !VN P d && !Xy o.op && Nat.blt d N) (QD N t want P (d :: ds) l + 1) 0
  | _,_=>0
def inA (t:Nat)(w:Bool):List (Nat×Bool)→Bool
 | []=>false
 | (u,v) :: l=>TL (Nat.beq u t && (v == w)) true (inA t w l)
section
variable (G:Nat→Option (List AV))(N bs:Nat)(P:List Nat)
def WN (e:Env):Yl→Option AV
 | .tmp t=>TL ((Nat.blt t N && VN P t)) (some (e t).rd) (none)
 | .const v=>some v
 | .glob g=>(G g).map .ref
def La (e:Env):List Yl→Option (List AV)
 | []=>some []
 | x :: l=>match WN G N P e x with
  | some v=>match La e l with
   | some vs=>some (v :: vs)
   | none=>none
  | none=>none
def Ed (e:Env):Option Yl→Option (Option AV)
 | none=>some none
 | some x=>match WN G N P e x with
  | some v=>some (some v)
  | none=>none
def mvK (e:Env)(x:Yl)(k:KV→KR):KR :=
 match x with
 | .tmp t=>TL ((Nat.blt t N && VN P t)) (k (.cln (e t).rd)) none
 | .const v=>k (.raw v)
 | .glob g=>Ye (G g) fun c=>k (.cln (.ref c))
def Zbz:Env→List (Nat ⊕ Yl)→Option (List AV×Env)
 | e,[]=>some ([],e)
 | e,.inl t :: l=>TL ((Nat.blt t N && VN P t)) (match Zbz (e.set t (.cln (e t).rd)) l with
  | some (vs,e')=>some ((e t).val :: vs,e')
  | none=>none) none
 | e,.inr x :: l=>match WN G N P e x with
  | some v=>match Zbz e l with
   | some (vs,e')=>some (v :: vs,e')
   | none=>none
  | none=>none
variable (K:FuncId→List AV→List Zh→KR)
def opK (e:Env)(hp:List Zh)(ef:Eff)(op:AOp)(k:KV→Env→List Zh→Eff→KR):KR :=
 match op with
 | .bad=>none
 | .mv x=>mvK G N P e x fun v=>k v e hp ef
 | .take t=>TL ((Nat.blt t N && VN P t)) (k (e t) (e.set t (.cln (e t).rd)) hp ef) none
 | .pick c a b=>rdK (WN G N P e c) fun c=>rdK (WN G N P e a) fun a=>rdK (WN G N P e b) fun b=>Ye (Zar c a b) fun v=>k (.raw v) e hp ef
 | .mk t cells=>k (.cln (.ptr hp.length 0)) e (hp ++ [.cells cells t]) ef
 | .box t n x=>rdK (WN G N P e x) fun v=>Ye (Zl2 n v) fun cs=>k (.cln (.ptr hp.length 0)) e (hp ++ [.cells cs t]) ef
 | .build zero parts=>rdK (La G N P e (parts.map (·.2.2))) fun vs=>Ye (fill zero ((parts.zip vs).map fun (p,v)=>(p.1,p.2.1,v.nm))) fun cs=>k (.cln (.agg cs)) e hp ef
 | .lit t n parts=>rdK (La G N P e parts) fun vs=>Ec (ZtV t n vs hp) fun v hp'=>k (.raw v) e hp' ef
 | .lita t n parts=>rdK (La G N P e parts) fun vs=>Ec (Zr3 t n vs hp) fun v hp'=>k (.raw v) e hp' ef
 | .ldc p=>rdK (WN G N P e p) fun p=>Ye (ZN hp p) fun v=>k (.cln v) e hp ef
 | .lda n p=>rdK (WN G N P e p) fun p=>Ye (YA hp n p) fun v=>k (.cln v) e hp ef
 | .ldt p=>rdK (WN G N P e p) fun p=>Ky (Zu5 bs p hp ef) fun v hp' ef'=>k (.raw v) e hp' ef'
 | .st n p x=>rdK (WN G N P e p) fun p=>rdK (WN G N P e x) fun v=>Ec (stV bs n p v hp ef) fun hp' ef'=>k (.cln .undef) e hp' ef'
 | .stt p t=>rdK (WN G N P e p) fun p=>TL ((Nat.blt t N && VN P t)) (Ec (Zlo bs p (e t).val hp ef) (fun hp' ef'=>k (.cln .undef) (e.set t (.cln (e t).rd)) hp' ef')) none
 | .nilchk x=>rdK (WN G N P e x) fun x=>Ye (Zcc x) fun v=>k (.cln v) e hp ef
 | .bin op sh x y=>rdK (WN G N P e x) fun a=>rdK (WN G N P e y) fun b=>Ye (ZB op sh a b) fun v=>k (.cln v) e hp ef
 | .un op x=>rdK (WN G N P e x) fun a=>Ye (PK op a) fun v=>k (.cln v) e hp ef
 | .conv c x=>rdK (WN G N P e x) fun a=>Ye (QL hp c a) fun v=>k (.cln v) e hp ef
 | .mkfn f first caps=>rdK (La G N P e first) fun us=>rdK (La G N P e caps) fun vs=>k (.cln (.fn f us vs)) e hp ef
 | .mkmap=>k (.cln (.map hp.length)) e (hp ++ [.map []]) ef
 | .mksl t zero n=>rdK (WN G N P e n) fun n=>Ec (ZrC t zero n hp) fun v hp'=>k (.cln v) e hp' ef
 | .slice sh x lo hi=>rdK (WN G N P e x) fun x=>rdK (Ed G N P e lo) fun lo=>rdK (Ed G N P e hi) fun hi=>Ye (Xi sh x lo hi) fun v=>k (.cln v) e hp ef
 | .slice3 sh x hi mx=>rdK (WN G N P e x) fun x=>rdK (WN G N P e hi) fun hi=>rdK (WN G N P e mx) fun mx=>Ye (G6 sh x hi mx) fun v=>k (.cln v) e hp ef
 | .fa off x=>rdK (WN G N P e x) fun x=>Ye (WE off x) fun v=>k (.cln v) e hp ef
 | .fld off n agg x=>rdK (WN G N P e x) fun x=>Ye (MW off n agg x) fun v=>k (.cln v) e hp ef
 | .ia sh x i=>rdK (WN G N P e x) fun x=>rdK (WN G N P e i) fun i=>Ye (Ud sh x i) fun v=>k (.cln v) e hp ef
 | .idx x i=>rdK (WN G N P e x) fun x=>rdK (WN G N P e i) fun i=>Ye (AA x i) fun v=>k (.cln v) e hp ef
 | .look sh zero x i ok=>rdK (WN G N P e x) fun x=>rdK (WN G N P e i) fun i=>Ye (AZ hp sh zero x i ok) fun v=>k (.raw v) e hp ef
 | .mupd sh m i v=>rdK (WN G N P e m) fun m=>rdK (WN G N P e i) fun i=>rdK (WN G N P e v) fun v=>Ec (ZrD bs sh m i v hp ef) fun hp' ef'=>k (.cln .undef) e hp' ef'
 | .range x=>rdK (WN G N P e x) fun x=>Ec (Zoi x hp) fun v hp'=>k (.cln v) e hp' ef
 | .next x=>rdK (WN G N P e x) fun x=>Ky (ZrE bs x hp ef) fun v hp' ef'=>k (.cln v) e hp' ef'
 | .extract x i=>rdK (WN G N P e x) fun x=>Ye (Tn x i) fun v=>k (.cln v) e hp ef
 | .len sh x=>rdK (WN G N P e x) fun x=>Ye (Qh hp sh x) fun v=>k (.cln v) e hp ef
 | .app n bytes t x=>TL ((Nat.blt t N && VN P t)) (rdK (WN G N P e x) (fun x=>Ye (Ztp n bytes (e t).val x hp) fun v=>k (.raw v) (e.set t (.cln (e t).rd)) hp ef)) none
 | .apps bytes t x=>TL ((Nat.blt t N && VN P t)) (rdK (WN G N P e x) (fun x=>Ye (ZqJ bytes (e t).val x) fun v=>k (.raw v) (e.set t (.cln (e t).rd)) hp ef)) none
 | .appn n bytes x=>rdK (WN G N P e x) fun x=>Ye (ZqI n bytes x hp) fun v=>k (.raw v) e hp ef
 | .copy n d x=>rdK (WN G N P e d) fun d=>rdK (WN G N P e x) fun x=>Ky (copyV bs n d x hp ef) fun v hp' ef'=>k (.cln v) e hp' ef'
 | .min xs=>rdK (La G N P e xs) fun vs=>Ye (ZrA vs) fun v=>k (.cln v) e hp ef
 | .max xs=>rdK (La G N P e xs) fun vs=>Ye (Zr8 vs) fun v=>k (.cln v) e hp ef
 | .call f args=>rdK (WN G N P e f) fun f=>rdK (Zbz G N P e args) fun p=>Ky (ZqQ K f p.1 hp) fun v hp' ef'=>k (.raw v) p.2 hp' (XP bs ef ef')
def ZpH (A:List (Nat×Bool))(o:ZF)(e:Env)(hp:List Zh)(ef:Eff)(k:Lh):KR :=
 match o.guard with
 | none=>opK G N bs P K e hp ef o.op fun v e' hp' ef'=>k (e'.put o.dst v) hp' ef'
 | some (t,want)=>TL (inA t want A) (opK G N bs P K e hp ef o.op fun v e' hp' ef'=>k (e'.put o.dst v) hp' ef') (TL (Nat.blt t N && VN P t)
   (TL (Xy o.op)
    (ZnS (MX want (e t).val) (opK G N bs P K e hp ef o.op fun v e' hp' ef'=>k (e'.put o.dst v) hp' ef') (k (e.put o.dst (.cln .undef)) hp ef))
    (MZ (MX want (e t).val) (opK G N bs P K e hp ef o.op fun v _ hp' ef'=>some (v.val,hp',ef')) hp ef fun v hp' ef'=>k (e.put o.dst (.raw v)) hp' ef'))
   none)
end
section
variable (G:Nat→Option (List AV))(N bs:Nat)(K:FuncId→List AV→List Zh→KR)
def ZjG (A:List (Nat×Bool))(P:List Nat)(ops:List ZF):Option (Nat×Bool×Nat×Option Nat×Yl×Yl×List ZF) :=
 match ops with
 | []=>none
 | o :: l=>match o.guard with
  | none=>none
  | some (t,want)=>TL (inA t want A) none
   (match (o :: l).drop (QD N t want P [] (o :: l)) with
   | ⟨d,.pick (.tmp u) a b,none⟩ :: rest=>TL (Nat.beq u t && Nat.blt t N && VN P t && Nat.blt 0 (QD N t want P [] (o :: l))) (some (t,want,QD N t want P [] (o :: l),d,a,b,rest)) none
   | ⟨d,.pick (.tmp u) a b,some (gt,gw)⟩ :: rest=>TL (inA gt gw A && Nat.beq u t && Nat.blt t N && VN P t && Nat.blt 0 (QD N t want P [] (o :: l))) (some (t,want,QD N t want P [] (o :: l),d,a,b,rest)) none
   | _=>none)
def Zj9:Nat→List (Nat×Bool)→List Nat→List ZF→List Nat
 | 0,_,P,_=>P
 | _ + 1,_,P,[]=>P
 | n + 1,A,P,o :: l=>match ZjG N A P (o :: l) with
  | some (_,_,_,d,_,_,rest)=>Zj9 n A (rmO d P) rest
  | none=>Zj9 n A (rmO o.dst P) l
def Zhk:Nat→List (Nat×Bool)→List Nat→List ZF→Lh→Lh
 | _,_,_,[],k=>k
 | 0,_,_,_ :: _,_=>fun _ _ _=>none
 | n + 1,A,P,o :: l,k=>match ZjG N A P (o :: l) with
  | some (t,want,m,d,a,b,rest)=>fun e hp ef=>Aw (e t).val want
    (Zhk n ((t,want) :: A) P ((o :: l).take m) (fun e' hp' ef'=>rdK (WN G N (Zj9 N n ((t,want) :: A) P ((o :: l).take m)) e' (TL want a b)) fun v=>some (v,hp',ef')) e hp ef)
    (WN G N P e (TL want b a)) hp ef fun v hp' ef'=>Zhk n A (rmO d P) rest k (e.put d (.raw v)) hp' ef'
  | none=>fun e hp ef=>ZpH G N bs P K A o e hp ef (Zhk n A (rmO o.dst P) l k)
def Zm5 (id:Nat):List (Nat×Lh)→Lh
 | []=>fun _ _ _=>none
 | (i,k) :: l=>TL (Nat.beq i id) (k) (Zm5 id l)
def ZdI (F:Lh→Lh):Nat→Lh
 | 0=>fun _ _ _=>none
 | n + 1=>F (ZdI F n)
variable (P:List Nat)(L:Nat)
def Xp:Wh→Lh→Lh→List (Nat×Lh)→Lh
 | .skip,n,_,_=>n
 | .region false ops,n,_,_=>Zhk G N bs K ops.length [] P ops n
 | .region true ops,n,_,_=>Zhk G N bs (WX K) ops.length [] P ops n
 | .regionB ops,n,_,_=>Zhk G N bs (Yd K) ops.length [] P ops n
 | .seq a b,n,r,xs=>Xp a (Xp b n r xs) r xs
 | .cond c a b,n,r,xs=>fun e hp ef=>rdK (WN G N P e c) fun v=>ifK v (Xp a n r xs e hp ef) (Xp b n r xs e hp ef)
 | .block id c,n,r,xs=>Xp c n r ((id,n) :: xs)
 | .loop c,_,r,xs=>ZdI (fun n'=>Xp c n' r xs) L
 | .scope c,n,r,xs=>Xp c n r xs
 | .exit id,_,_,xs=>Zm5 id xs
 | .ret,_,r,_=>r
 | .bad,_,_,_=>fun _ _ _=>none
end
def Zth (e:Env)(N:Nat)(P:List Nat)(hp:List Zh):En→Option AV
 | .tmp t=>TL ((Nat.blt t N && VN P t)) (some (e t).val) (none)
 | .one t=>TL ((Nat.blt t N && VN P t)) (ZN hp (e t).val) (none)
 | .agg t n=>TL ((Nat.blt t N && VN P t)) (YA hp n (e t).val) (none)
def Znt (e:Env)(N:Nat)(P:List Nat)(hp:List Zh):List En→(List AV→KR)→KR
 | [],k=>k []
 | r :: l,k=>rdK (Zth e N P hp r) fun v=>Znt e N P hp l fun vs=>k (v.nm :: vs)
def Zgh (e:Env)(N:Nat)(P:List Nat)(hp:List Zh):List En→(AV→KR)→KR
 | [r],k=>rdK (Zth e N P hp r) k
 | rs,k=>Znt e N P hp rs fun vs=>k (.tup vs)
def Zd7 (keep:Bool)(hp0:List Zh)(v:AV)(hp:List Zh)(ef:Eff):AV×List Zh×Eff :=
 bif keep then (v.nm,hp,ef) else finish v ⟨[],hp,ef,hp0.length⟩ hp0
def Zdb (P:List Nat)(fn:AFn)(hp0:List Zh):Lh:=fun e hp ef=>Zgh e fn.ntmps P hp fn.results fun v=>some (Zd7 fn.keep hp0 v hp ef)
def Zl1:List AV→Env
 | []=>fun _=>.raw .undef
 | v :: l=>fun t=>match t with
  | 0=>.raw v
  | t + 1=>Zl1 l t
def fnK (G:Nat→Option (List AV))(K:FuncId→List AV→List Zh→KR)(P:List Nat)(L:Nat)(fn:AFn)(args:List AV)(hp:List Zh):KR :=
 Xp G fn.ntmps hp.length K P L fn.code (Zdb P fn hp) (Zdb P fn hp) [] (Zl1 args) hp none
end Go.Proofs.YthkdlifcknpadaaGreat.Abs
end
section
namespace Go.Proofs.YthkdlifcknpadaaGreat.Abs
open Go
theorem Yp {α:Type}{x:Option α}{k:α→KR}{r:AV×List Zh×Eff}(h:Ye x k=some r):∃ v,x=some v∧k v=some r:=by
 cases x with
 | none=>cases h
 | some v=>exact ⟨v,rfl,h⟩
theorem UG {α β:Type}{x:Option (α×β)}{k:α→β→KR}{r:AV×List Zh×Eff}(h:Ec x k=some r):∃ a b,x=some (a,b)∧k a b=some r:=by
 cases x with
 | none=>cases h
 | some v=>exact ⟨v.1,v.2,rfl,h⟩
theorem Ov {α β γ:Type}{x:Option (α×β×γ)}{k:α→β→γ→KR}{r:AV×List Zh×Eff}(h:Ky x k=some r):∃ a b c,x=some (a,b,c)∧k a b c=some r:=by
 cases x with
 | none=>cases h
 | some v=>exact ⟨v.1,v.2.1,v.2.2,rfl,h⟩
theorem BC {α:Type}(x y:α):TL true x y=x:=rfl
theorem Tf {α:Type}(x y:α):TL false x y=y:=rfl
theorem Z4 {α:Type}{x:Option α}{k:α→KR}{r:AV×List Zh×Eff}(h:rdK x k=some r):∃ v,x=some v∧k v=some r:=by
 cases x with
 | none=>cases h
 | some v=>exact ⟨v,rfl,h⟩
theorem V5 {α:Type}{b:Bool}{x:Option α}{r:α}(h:TL b x none=some r):b=true∧x=some r:=by
 cases b with
 | false=>cases h
 | true=>exact ⟨rfl,h⟩
def ZeT (v:KV):Prop:=v.val.ro=v.rd
theorem Oq (v:AV):ZeT (.raw v):=rfl
theorem JZ {v:AV}(h:v.ro=v):ZeT (.cln v):=h
theorem Zbo (v:AV):v.ro.ro=v.ro:=by cases v <;> rfl
theorem Zrx {v:KV}(h:ZeT v):ZeT (.cln v.rd):=by
 show v.rd.ro=v.rd
 rw [← h,Zbo]
theorem UF:∀ {P:List Nat} {t:Nat},VN P t=true↔t ∉ P
 | [],t=>by simp [VN]
 | u :: l,t=>by
  simp only [VN,List.mem_cons,not_or]
  cases hb:Nat.beq u t with
  | true =>
   have:=Nat.eq_of_beq_eq_true hb
   subst this
   simp
  | false =>
   have:t≠u:=fun h=>by subst h; rw [Nat.beq_refl] at hb; cases hb
   simp [this,← UF]
theorem Zhd:∀ {P:List Nat} {d t:Nat},t ∈ rm d P↔t ∈ P∧t≠d
 | [],d,t=>by simp [rm]
 | u :: l,d,t=>by
  simp only [rm]
  cases hb:Nat.beq u d with
  | true =>
   have:=Nat.eq_of_beq_eq_true hb
   subst this
   simp only [Zhd,List.mem_cons]
   constructor
   ·rintro ⟨a,b⟩; exact ⟨.inr a,b⟩
   ·rintro ⟨a | a,b⟩
    ·exact absurd a b
    ·exact ⟨a,b⟩
  | false =>
   have:u≠d:=fun h=>by subst h; rw [Nat.beq_refl] at hb; cases hb
   simp only [List.mem_cons,Zhd]
   constructor
   ·rintro (a | ⟨a,b⟩)
    ·subst a; exact ⟨.inl rfl,this⟩
    ·exact ⟨.inr a,b⟩
   ·rintro ⟨a | a,b⟩
    ·exact .inl a
    ·exact .inr ⟨a,b⟩
structure WJ (N:Nat)(P:List Nat)(e:Env)(sl:List AV):Prop where
 len:sl.length=N
 val:∀ t,t < N→t ∉ P→sl[t]? = some (e t).val
 ok:∀ t,ZeT (e t)
theorem WJ.mono {N:Nat}{P P':List Nat}{e:Env}{sl:List AV}(h:WJ N P e sl)(hp:∀ t,t ∈ P→t ∈ P'):WJ N P' e sl:=⟨h.len,fun t ht hn=>h.val t ht fun hm=>hn (hp t hm),h.ok⟩
theorem WJ.set {N:Nat}{P:List Nat}{e:Env}{sl:List AV}(h:WJ N P e sl)(d:Nat){v:KV}(hv:ZeT v):WJ N (rm d P) (e.set d v) (sl.set d v.val):=by
 refine ⟨by rw [List.length_set]; exact h.len,fun t ht hn=>?_,fun t=>?_⟩
 ·rw [List.getElem?_set]
  by_cases e1:d=t
  ·subst e1
   simp [Env.set,h.len,ht]
  ·have:Nat.beq t d=false:=by cases hb:Nat.beq t d with | false=>rfl | true=>exact absurd (Nat.eq_of_beq_eq_true hb).symm e1
   simp [e1,Env.set,this,h.val t ht fun hm=>hn (Zhd.2 ⟨hm,fun h=>e1 h.symm⟩)]
 ·show ZeT (TL (Nat.beq t d) v (e t))
  cases Nat.beq t d
  ·exact h.ok t
  ·exact hv
theorem WJ.put {N:Nat}{P:List Nat}{e:Env}{sl:List AV}(h:WJ N P e sl)(d:Option Nat){v:KV}(hv:ZeT v){hp:List Zh}{ef:Eff}{bs:Nat}:WJ N (rmO d P) (e.put d v) (Za.put ⟨sl,hp,ef,bs⟩ d v.val).sl:=by
 cases d with
 | none=>exact h
 | some d=>exact h.set d hv
theorem WJ.let_ {N:Nat}{P:List Nat}{e:Env}{sl:List AV}(h:WJ N P e sl)(t:Nat):WJ N P (e.set t (.cln (e t).rd)) (sl.modify t AV.ro):=by
 refine ⟨by rw [List.length_modify]; exact h.len,fun u hu hn=>?_,fun u=>?_⟩
 ·rw [List.getElem?_modify]
  by_cases e1:t=u
  ·subst e1
   simp only [if_true,h.val t hu hn,Env.set,Nat.beq_refl,KV.val]
   have:=h.ok t
   simp only [ZeT] at this
   simp only [KV.val] at this
   rw [Option.map_eq_map,Option.map_some,← this]
  ·have:Nat.beq u t=false:=by cases hb:Nat.beq u t with | false=>rfl | true=>exact absurd (Nat.eq_of_beq_eq_true hb).symm e1
   simp [e1,Env.set,this,h.val u hu hn]
 ·show ZeT (TL (Nat.beq u t) (.cln (e t).rd) (e u))
  cases Nat.beq u t
  ·exact h.ok u
  ·exact Zrx (h.ok t)
section
variable {G:Nat→Option (List AV)}{N:Nat}{P:List Nat}{e:Env}{sl:List AV}
theorem ZdJ {t N:Nat}{P:List Nat}(h:(Nat.blt t N && VN P t)=true):t < N∧t ∉ P:=by
 rw [Bool.and_eq_true] at h
 exact ⟨Nat.le_of_ble_eq_true h.1,UF.1 h.2⟩
theorem WJ.get (h:WJ N P e sl){t:Nat}(ht:(Nat.blt t N && VN P t)=true):sl[t]? = some (e t).val:=h.val t (ZdJ ht).1 (ZdJ ht).2
theorem WJ.read (h:WJ N P e sl){t:Nat}(ht:(Nat.blt t N && VN P t)=true):(sl[t]?).map AV.ro=some (e t).rd:=by
 rw [h.get ht,Option.map_some,h.ok t]
theorem WJ.opnd (h:WJ N P e sl){x:Yl}{v:AV}(hx:WN G N P e x=some v):Abs.opnd G sl x=some v:=by
 cases x with
 | tmp t =>
  obtain ⟨h1,h2⟩:=V5 (show TL (Nat.blt t N && VN P t) (some (e t).rd) none=some v from hx)
  cases h2
  exact h.read h1
 | const v=>exact hx
 | glob g=>exact hx
theorem WJ.opnds (h:WJ N P e sl):∀ {xs:List Yl} {vs:List AV},La G N P e xs=some vs→Abs.opnds G sl xs=some vs
 | [],vs,hx=>hx
 | x :: l,vs,hx=>by
  simp only [La] at hx
  split at hx
  ·rename_i v hv
   split at hx
   ·rename_i us hus
    cases hx
    simp only [Abs.opnds,h.opnd hv,h.opnds hus,Option.map_some]
   ·cases hx
  ·cases hx
theorem WJ.optOpnd (h:WJ N P e sl){x:Option Yl}{v:Option AV}(hx:Ed G N P e x=some v):Abs.optOpnd G sl x=some v:=by
 cases x with
 | none=>exact hx
 | some x =>
  simp only [Ed] at hx
  split at hx
  ·rename_i u hu
   cases hx
   simp only [Abs.optOpnd,h.opnd hu,Option.map_some]
  ·cases hx
theorem WJ.mvK (h:WJ N P e sl){x:Yl}{k:KV→KR}{r:AV×List Zh×Eff}(hx:mvK G N P e x k=some r):∃ v,Abs.opnd G sl x=some v.val∧ZeT v∧k v=some r:=by
 cases x with
 | tmp t =>
  obtain ⟨h1,h2⟩:=V5 (show TL (Nat.blt t N && VN P t) (k (KV.cln (e t).rd)) none=some r from hx)
  exact ⟨KV.cln (e t).rd,h.read h1,Zrx (h.ok t),h2⟩
 | const v=>exact ⟨_,rfl,Oq v,hx⟩
 | glob g =>
  obtain ⟨c,h1,h2⟩:=Yp (show Ye (G g) (fun c=>k (.cln (.ref c)))=some r from hx)
  exact ⟨KV.cln (.ref c),by simp only [Abs.opnd,h1,Option.map_some]; rfl,rfl,h2⟩
theorem WJ.args:∀ {as:List (Nat ⊕ Yl)} {e e':Env} {sl:List AV} {vs:List AV},WJ N P e sl→Zbz G N P e as=some (vs,e')→∃ sl',WQ G sl as=some (vs,sl')∧WJ N P e' sl'
 | [],e,e',sl,vs,h,ha=>by
  cases ha
  exact ⟨sl,rfl,h⟩
 | .inl t :: l,e,e',sl,vs,h,ha=>by
  simp only [Zbz] at ha
  obtain ⟨h1,h2⟩:=V5 ha
  split at h2
  ·rename_i us e1 hus
   cases h2
   obtain ⟨sl',a1,a2⟩:=WJ.args (h.let_ t) hus
   refine ⟨sl',?_,a2⟩
   simp only [WQ,h.get h1,a1,Option.map_some]
  ·cases h2
 | .inr x :: l,e,e',sl,vs,h,ha=>by
  simp only [Zbz] at ha
  split at ha
  ·rename_i v hv
   split at ha
   ·rename_i us e1 hus
    cases ha
    obtain ⟨sl',a1,a2⟩:=WJ.args h hus
    refine ⟨sl',?_,a2⟩
    simp only [WQ,h.opnd hv,a1,Option.map_some]
   ·cases ha
  ·cases ha
end
theorem Znw {op:BinOp}{x y:List UInt8}{v:AV}(h:ZcP op x y=some v):v.ro=v:=by
 cases op <;> simp only [ZcP] at h <;> first | (cases h; done) | (cases h; rfl) | (split at h <;> cases h; rfl)
theorem Zlb {op:BinOp}{k:IntKind}{x y:Int}{v:AV}(h:JY op k x y=some v):v.ro=v:=by
 cases op <;> simp only [JY] at h <;> first | (cases h; done) | (cases h; rfl) | (split at h <;> cases h; rfl)
theorem Zgi {op:BinOp}{k:IntKind}{x y:Int}{v:AV}(h:Dt op k x y=some v):v.ro=v:=by
 simp only [Dt] at h
 split at h
 ·cases h
 ·cases op <;> simp only at h <;> first | (cases h; done) | (cases h; rfl)
theorem Zla {op:BinOp}{sh:Zg1}{x y v:AV}(h:ZB op sh x y=some v):v.ro=v:=by
 unfold ZB at h
 split at h
 ·split at h
  ·split at h
   ·exact Zgi h
   ·split at h
    ·exact Zlb h
    ·cases h
  ·exact Znw h
  ·cases h
 ·split at h
  ·obtain ⟨b,_,rfl⟩:=Option.map_eq_some_iff.1 h; rfl
  ·obtain ⟨b,_,rfl⟩:=Option.map_eq_some_iff.1 h; rfl
  ·cases h
theorem Znx {op:UnOp}{x v:AV}(h:PK op x=some v):v.ro=v:=by
 unfold PK at h
 split at h <;> cases h <;> rfl
theorem Zi4 {hp:List Zh}{c:Conv}{x v:AV}(h:QL hp c x=some v):v.ro=v:=by
 unfold QL at h
 split at h
 ·cases h; rfl
 ·cases h; rfl
 ·cases h; rfl
 ·split at h
  ·obtain ⟨b,_,rfl⟩:=Option.map_eq_some_iff.1 h; rfl
  ·cases h
 ·cases h
theorem Zs5 {hp:List Zh}{x v:AV}(h:ZN hp x=some v):v.ro=v:=by
 unfold ZN at h
 split at h
 ·cases h; exact Zbo _
 ·split at h
  ·obtain ⟨b,_,rfl⟩:=Option.map_eq_some_iff.1 h; exact Zbo _
  ·split at h <;> first | (cases h; done) | skip
   obtain ⟨b,_,rfl⟩:=Option.map_eq_some_iff.1 h; exact Zbo _
  ·cases h
 ·cases h
theorem Zs4 {hp:List Zh}{n:Nat}{x v:AV}(h:YA hp n x=some v):v.ro=v:=by
 unfold YA at h
 split at h
 ·split at h <;> cases h; rfl
 ·split at h
  ·split at h <;> cases h; rfl
  ·cases h
 ·cases h
theorem Zlc {x v:AV}(h:Zcc x=some v):v.ro=v:=by
 unfold Zcc at h
 split at h <;> cases h <;> rfl
theorem Zld {sh:Shape}{x v hi mx:AV}(h:G6 sh x hi mx=some v):v.ro=v:=by
 unfold G6 at h
 split at h <;> first | (cases h; done) | skip
 ·split at h <;> cases h; rfl
 ·split at h <;> cases h; split <;> rfl
 ·split at h <;> cases h; split <;> rfl
theorem Znv {sh:Shape}{x v:AV}{lo hi:Option AV}(h:Xi sh x lo hi=some v):v.ro=v:=by
 unfold Xi at h
 split at h
 ·split at h
  ·split at h <;> cases h; rfl
  ·cases h
 ·split at h
  ·split at h
   ·split at h <;> cases h; rfl
   ·cases h
  ·cases h
 ·split at h
  ·split at h
   ·split at h
    ·split at h <;> cases h <;> rfl
    ·cases h
   ·cases h
  ·cases h
 ·split at h
  ·split at h
   ·split at h <;> cases h <;> rfl
   ·cases h
  ·cases h
 ·cases h
theorem Zun {off:Nat}{x v:AV}(h:WE off x=some v):v.ro=v:=by
 unfold WE at h
 split at h <;> cases h <;> rfl
theorem Zs0 {off n:Nat}{a:Bool}{x v:AV}(h:MW off n a x=some v):v.ro=v:=by
 unfold MW at h
 split at h
 ·split at h
  ·split at h
   ·cases h; rfl
   ·obtain ⟨b,_,rfl⟩:=Option.map_eq_some_iff.1 h; exact Zbo _
  ·cases h
 ·cases h
theorem Zup {sh:Shape}{x i v:AV}(h:Ud sh x i=some v):v.ro=v:=by
 unfold Ud at h
 split at h
 ·split at h
  ·obtain ⟨b,_,rfl⟩:=Option.map_eq_some_iff.1 h; rfl
  ·cases h
 all_goals first | (cases h; done) | (split at h <;> cases h; rfl)
theorem Zs2 {x i v:AV}(h:AA x i=some v):v.ro=v:=by
 unfold AA at h
 split at h
 ·split at h
  ·obtain ⟨b,_,rfl⟩:=Option.map_eq_some_iff.1 h; rfl
  ·cases h
 ·cases h
theorem Zi5 {x:AV}{i:Nat}{v:AV}(h:Tn x i=some v):v.ro=v:=by
 unfold Tn at h
 split at h
 ·obtain ⟨b,_,rfl⟩:=Option.map_eq_some_iff.1 h; exact Zbo _
 ·cases h
theorem Zs6 {hp:List Zh}{sh:ZeU}{x v:AV}(h:Qh hp sh x=some v):v.ro=v:=by
 unfold Qh at h
 split at h
 ·cases h; rfl
 ·cases h; rfl
 ·cases h; rfl
 ·cases h; rfl
 ·split at h <;> cases h; rfl
 ·cases h
theorem ZsA {xs:List AV}{v:AV}(h:ZrA xs=some v):v.ro=v:=by
 unfold ZrA at h
 split at h
 ·obtain ⟨b,_,rfl⟩:=Option.map_eq_some_iff.1 h; rfl
 ·cases h
theorem Zs9 {xs:List AV}{v:AV}(h:Zr8 xs=some v):v.ro=v:=by
 unfold Zr8 at h
 split at h
 ·obtain ⟨b,_,rfl⟩:=Option.map_eq_some_iff.1 h; rfl
 ·cases h
end Go.Proofs.YthkdlifcknpadaaGreat.Abs
end
section
namespace Go.Proofs.YthkdlifcknpadaaGreat.Abs
open Go
section
variable {G:Nat→Option (List AV)}{N bs:Nat}{P:List Nat}{K:FuncId→List AV→List Zh→KR}
def ZqG (G:Nat→Option (List AV))(N bs:Nat)(P:List Nat)(K:FuncId→List AV→List Zh→KR)(sl:List AV)(hp:List Zh)(ef:Eff)(op:AOp)(k:KV→Env→List Zh→Eff→KR)(r:AV×List Zh×Eff):Prop :=
 ∃ (v:KV) (e':Env) (sl':List AV) (hp':List Zh) (ef':Eff),Zc G K ⟨sl,hp,ef,bs⟩ op=some (v.val,⟨sl',hp',ef',bs⟩)∧WJ N P e' sl'∧ZeT v∧k v e' hp' ef'=some r
theorem Py (sl:List AV)(hp:List Zh)(ef:Eff)(bs g v:Nat):Za.note ⟨sl,hp,ef,bs⟩ g v=SE bs ef g v:=rfl
theorem ZlG (sl:List AV)(hp:List Zh)(ef:Eff)(bs:Nat)(e:Eff):Za.after ⟨sl,hp,ef,bs⟩ e=XP bs ef e:=by
 cases e with
 | none=>rfl
 | some p=>rfl
theorem ZrZ {e:Env}{sl:List AV}(he:WJ N P e sl){hp:List Zh}{ef:Eff}{op:AOp}{k:KV→Env→List Zh→Eff→KR}{r:AV×List Zh×Eff}(h:opK G N bs P K e hp ef op k=some r):ZqG G N bs P K sl hp ef op k r:=by
 cases op <;> simp only [opK] at h
 case bad=>cases h
 case mv x =>
  obtain ⟨v,a1,a2,h2⟩:=he.mvK h
  exact ⟨v,e,sl,hp,ef,by simp only [Zc,a1,Option.map_some],he,a2,h2⟩
 case take t =>
  obtain ⟨h1,h2⟩:=V5 h
  refine ⟨e t,_,sl.modify t AV.ro,hp,ef,?_,he.let_ t,he.ok t,h2⟩
  simp only [Zc,he.get h1,Za.let_]
 case pick c a b =>
  obtain ⟨c',h1,h⟩:=Z4 h
  obtain ⟨a',h2,h⟩:=Z4 h
  obtain ⟨b',h3,h⟩:=Z4 h
  obtain ⟨v,h4,h⟩:=Yp h
  refine ⟨_,e,sl,hp,ef,?_,he,Oq _,h⟩
  unfold Zar at h4
  split at h4 <;> cases h4
  ·simp only [Zc,he.opnd h1,he.opnd h2,Option.map_some,KV.val]
  ·simp only [Zc,he.opnd h1,he.opnd h3,Option.map_some,KV.val]
 case mk t cells=>exact ⟨_,e,sl,_,ef,rfl,he,(by rfl),h⟩
 case box t n x =>
  obtain ⟨v,h1,h⟩:=Z4 h
  obtain ⟨cs,h2,h⟩:=Yp h
  unfold Zl2 at h2
  split at h2 <;> cases h2
  rename_i hc
  refine ⟨_,e,sl,_,ef,?_,he,(by rfl),h⟩
  simp only [Zc,he.opnd h1,hc,and_self,if_true,KV.val]
 case build zero parts =>
  obtain ⟨vs,h1,h⟩:=Z4 h
  obtain ⟨cs,h2,h⟩:=Yp h
  refine ⟨_,e,sl,hp,ef,?_,he,(by rfl),h⟩
  simp only [Zc,he.opnds h1,h2,Option.map_some,KV.val]
 case lit t n parts =>
  obtain ⟨vs,h1,h⟩:=Z4 h
  obtain ⟨v,hp',h2,h⟩:=UG h
  refine ⟨_,e,sl,hp',ef,?_,he,Oq _,h⟩
  unfold ZtV at h2
  split at h2
  ·rename_i hc
   cases h2
   simp only [Zc,he.opnds h1,hc,if_true,KV.val]
  ·rename_i hc
   split at h2
   ·rename_i hc'
    cases h2
    simp only [Zc,he.opnds h1,hc,hc',if_true,KV.val]
    rfl
   ·cases h2
 case lita t n parts =>
  obtain ⟨vs,h1,h⟩:=Z4 h
  obtain ⟨v,hp',h2,h⟩:=UG h
  refine ⟨_,e,sl,hp',ef,?_,he,Oq _,h⟩
  unfold Zr3 at h2
  split at h2
  ·rename_i hc
   cases h2
   simp only [Zc,he.opnds h1,hc,if_true,KV.val]
  ·cases h2
 case ldc p =>
  obtain ⟨v,h1,h⟩:=Z4 h
  obtain ⟨u,h2,h⟩:=Yp h
  exact ⟨_,e,sl,hp,ef,by simp only [Zc,he.opnd h1,h2,Option.map_some,KV.val],he,JZ (Zs5 h2),h⟩
 case lda n p =>
  obtain ⟨v,h1,h⟩:=Z4 h
  obtain ⟨u,h2,h⟩:=Yp h
  exact ⟨_,e,sl,hp,ef,by simp only [Zc,he.opnd h1,h2,Option.map_some,KV.val],he,JZ (Zs4 h2),h⟩
 case ldt p =>
  obtain ⟨v,h1,h⟩:=Z4 h
  obtain ⟨u,hp',ef',h2,h⟩:=Ov h
  refine ⟨_,e,sl,hp',ef',?_,he,Oq _,h⟩
  unfold Zu5 at h2
  split at h2
  ·split at h2
   ·rename_i hg
    split at h2
    ·rename_i hc
     cases h2
     simp only [Zc,he.opnd h1,hg,hc,Py,KV.val]
    ·cases h2
   ·cases h2
  ·cases h2
 case st n p x =>
  obtain ⟨v,h1,h⟩:=Z4 h
  obtain ⟨u,h2,h⟩:=Z4 h
  obtain ⟨hp',ef',h3,h⟩:=UG h
  refine ⟨_,e,sl,hp',ef',?_,he,(by rfl),h⟩
  unfold stV at h3
  split at h3
  ·split at h3
   ·rename_i hg
    split at h3
    ·rename_i hc
     cases h3
     simp only [Zc,he.opnd h1,he.opnd h2,hg,hc,Py,KV.val,and_self,if_true]
    ·cases h3
   ·cases h3
  ·cases h3
 case stt p t =>
  obtain ⟨v,h1,h⟩:=Z4 h
  obtain ⟨h2,h⟩:=V5 h
  obtain ⟨hp',ef',h3,h⟩:=UG h
  refine ⟨_,_,sl.modify t AV.ro,hp',ef',?_,he.let_ t,(by rfl),h⟩
  unfold Zlo at h3
  split at h3
  ·split at h3
   ·rename_i hg
    split at h3
    ·rename_i hc
     cases h3
     simp only [Zc,he.opnd h1,he.get h2,hg,Py,Za.let_]
     rw [if_pos hc]
     rfl
    ·cases h3
   ·cases h3
  ·cases h3
 case nilchk x =>
  obtain ⟨v,h1,h⟩:=Z4 h
  obtain ⟨u,h2,h⟩:=Yp h
  refine ⟨_,e,sl,hp,ef,?_,he,JZ (Zlc h2),h⟩
  unfold Zcc at h2
  split at h2 <;> cases h2 <;> simp only [Zc,he.opnd h1,KV.val]
 case bin op sh x y =>
  obtain ⟨v,h1,h⟩:=Z4 h
  obtain ⟨u,h2,h⟩:=Z4 h
  obtain ⟨w,h3,h⟩:=Yp h
  exact ⟨_,e,sl,hp,ef,by simp only [Zc,he.opnd h1,he.opnd h2,h3,Option.map_some,KV.val],he,JZ (Zla h3),h⟩
 case un op x =>
  obtain ⟨v,h1,h⟩:=Z4 h
  obtain ⟨u,h2,h⟩:=Yp h
  exact ⟨_,e,sl,hp,ef,by simp only [Zc,he.opnd h1,h2,Option.map_some,KV.val],he,JZ (Znx h2),h⟩
 case conv c x =>
  obtain ⟨v,h1,h⟩:=Z4 h
  obtain ⟨u,h2,h⟩:=Yp h
  exact ⟨_,e,sl,hp,ef,by simp only [Zc,he.opnd h1,h2,Option.map_some,KV.val],he,JZ (Zi4 h2),h⟩
 case mkfn f first caps =>
  obtain ⟨v,h1,h⟩:=Z4 h
  obtain ⟨u,h2,h⟩:=Z4 h
  exact ⟨_,e,sl,hp,ef,by simp only [Zc,he.opnds h1,he.opnds h2,KV.val],he,(by rfl),h⟩
 case mkmap=>exact ⟨_,e,sl,_,ef,rfl,he,(by rfl),h⟩
 case mksl t zero n =>
  obtain ⟨v,h1,h⟩:=Z4 h
  obtain ⟨u,hp',h2,h⟩:=UG h
  unfold ZrC at h2
  split at h2
  ·split at h2
   ·rename_i hc
    cases h2
    exact ⟨_,e,sl,_,ef,by simp only [Zc,he.opnd h1,hc,and_self,if_true,KV.val],he,(by rfl),h⟩
   ·cases h2
  ·cases h2
 case slice sh x lo hi =>
  obtain ⟨v,h1,h⟩:=Z4 h
  obtain ⟨u1,h2,h⟩:=Z4 h
  obtain ⟨u2,h3,h⟩:=Z4 h
  obtain ⟨u,h4,h⟩:=Yp h
  exact ⟨_,e,sl,hp,ef,by simp only [Zc,he.opnd h1,he.optOpnd h2,he.optOpnd h3,h4,Option.map_some,KV.val],he,JZ (Znv h4),h⟩
 case slice3 sh x hi mx =>
  obtain ⟨v,h1,h⟩:=Z4 h
  obtain ⟨u1,h2,h⟩:=Z4 h
  obtain ⟨u2,h3,h⟩:=Z4 h
  obtain ⟨u,h4,h⟩:=Yp h
  exact ⟨_,e,sl,hp,ef,by simp only [Zc,he.opnd h1,he.opnd h2,he.opnd h3,h4,Option.map_some,KV.val],he,JZ (Zld h4),h⟩
 case fa off x =>
  obtain ⟨v,h1,h⟩:=Z4 h
  obtain ⟨u,h2,h⟩:=Yp h
  exact ⟨_,e,sl,hp,ef,by simp only [Zc,he.opnd h1,h2,Option.map_some,KV.val],he,JZ (Zun h2),h⟩
 case fld off n agg x =>
  obtain ⟨v,h1,h⟩:=Z4 h
  obtain ⟨u,h2,h⟩:=Yp h
  exact ⟨_,e,sl,hp,ef,by simp only [Zc,he.opnd h1,h2,Option.map_some,KV.val],he,JZ (Zs0 h2),h⟩
 case ia sh x i =>
  obtain ⟨v,h1,h⟩:=Z4 h
  obtain ⟨u,h2,h⟩:=Z4 h
  obtain ⟨w,h3,h⟩:=Yp h
  exact ⟨_,e,sl,hp,ef,by simp only [Zc,he.opnd h1,he.opnd h2,h3,Option.map_some,KV.val],he,JZ (Zup h3),h⟩
 case idx x i =>
  obtain ⟨v,h1,h⟩:=Z4 h
  obtain ⟨u,h2,h⟩:=Z4 h
  obtain ⟨w,h3,h⟩:=Yp h
  exact ⟨_,e,sl,hp,ef,by simp only [Zc,he.opnd h1,he.opnd h2,h3,Option.map_some,KV.val],he,JZ (Zs2 h3),h⟩
 case look sh zero x i ok =>
  obtain ⟨v,h1,h⟩:=Z4 h
  obtain ⟨u,h2,h⟩:=Z4 h
  obtain ⟨w,h3,h⟩:=Yp h
  exact ⟨_,e,sl,hp,ef,by simp only [Zc,he.opnd h1,he.opnd h2,h3,Option.map_some,KV.val],he,Oq _,h⟩
 case mupd sh m i x =>
  obtain ⟨v,h1,h⟩:=Z4 h
  obtain ⟨u,h2,h⟩:=Z4 h
  obtain ⟨w,h3,h⟩:=Z4 h
  obtain ⟨hp',ef',h4,h⟩:=UG h
  refine ⟨_,e,sl,hp',ef',?_,he,(by rfl),h⟩
  unfold ZrD at h4
  split at h4
  ·split at h4
   ·rename_i hg
    split at h4
    ·rename_i hc
     split at h4
     ·rename_i hu
      cases h4
      simp only [Zc,he.opnd h1,he.opnd h2,he.opnd h3,hg,hc,hu,Py,KV.val,if_true]
     ·cases h4
    ·cases h4
   ·cases h4
  ·cases h4
 case range x =>
  obtain ⟨v,h1,h⟩:=Z4 h
  obtain ⟨u,hp',h2,h⟩:=UG h
  unfold Zoi at h2
  split at h2 <;> cases h2
  exact ⟨_,e,sl,_,ef,by simp only [Zc,he.opnd h1,KV.val],he,(by rfl),h⟩
 case next x =>
  obtain ⟨v,h1,h⟩:=Z4 h
  obtain ⟨u,hp',ef',h2,h⟩:=Ov h
  unfold ZrE at h2
  split at h2
  ·split at h2
   ·rename_i hg
    split at h2
    ·rename_i hc
     cases h2
     exact ⟨_,e,sl,_,_,by simp only [Zc,he.opnd h1,hg,hc,if_true,Py,KV.val],he,(by rfl),h⟩
    ·rename_i hc
     cases h2
     exact ⟨_,e,sl,_,_,by simp only [Zc,he.opnd h1,hg,hc,if_false,KV.val],he,(by rfl),h⟩
   ·cases h2
  ·cases h2
 case extract x i =>
  obtain ⟨v,h1,h⟩:=Z4 h
  obtain ⟨u,h2,h⟩:=Yp h
  refine ⟨_,e,sl,hp,ef,?_,he,JZ (Zi5 h2),h⟩
  unfold Tn at h2
  split at h2
  ·rename_i vs
   obtain ⟨b,hb,rfl⟩:=Option.map_eq_some_iff.1 h2
   simp only [Zc,he.opnd h1,hb,Option.map_some,KV.val]
  ·cases h2
 case len sh x =>
  obtain ⟨v,h1,h⟩:=Z4 h
  obtain ⟨u,h2,h⟩:=Yp h
  exact ⟨_,e,sl,hp,ef,by simp only [Zc,he.opnd h1,h2,Option.map_some,KV.val],he,JZ (Zs6 h2),h⟩
 case app n bytes t x =>
  obtain ⟨h1,h⟩:=V5 h
  obtain ⟨v,h2,h⟩:=Z4 h
  obtain ⟨u,h3,h⟩:=Yp h
  refine ⟨_,_,sl.modify t AV.ro,hp,ef,?_,he.let_ t,Oq _,h⟩
  have hv:=he.get h1
  unfold Ztp at h3
  split at h3
  ·rename_i k' r0 hs
   split at h3
   ·rename_i k'' r' hr
    split at h3
    ·rename_i hc
     cases h3
     rw [hs] at hv
     simp only [Zc,hv,he.opnd h2,hr,KV.val,Za.let_]
     rw [if_pos hc]
    ·cases h3
   ·cases h3
  ·cases h3
 case apps bytes t x =>
  obtain ⟨h1,h⟩:=V5 h
  obtain ⟨v,h2,h⟩:=Z4 h
  obtain ⟨u,h3,h⟩:=Yp h
  refine ⟨_,_,sl.modify t AV.ro,hp,ef,?_,he.let_ t,Oq _,h⟩
  have hv:=he.get h1
  unfold ZqJ at h3
  split at h3
  ·rename_i k' r0 l hs
   split at h3
   ·rename_i hc
    cases h3
    rw [hs] at hv
    simp only [Zc,hv,he.opnd h2,KV.val,Za.let_]
    rw [if_pos hc]
   ·cases h3
  ·cases h3
 case appn n bytes x =>
  obtain ⟨v,h2,h⟩:=Z4 h
  obtain ⟨u,h3,h⟩:=Yp h
  refine ⟨_,_,sl,hp,ef,?_,he,Oq _,h⟩
  unfold ZqI at h3
  split at h3
  ·rename_i k'' r' hr
   split at h3
   ·rename_i hc
    cases h3
    simp only [Zc,he.opnd h2,hr,KV.val]
    rw [if_pos hc]
   ·cases h3
  ·cases h3
 case copy n d x =>
  obtain ⟨v,h1,h⟩:=Z4 h
  obtain ⟨u,h2,h⟩:=Z4 h
  obtain ⟨w,hp',ef',h3,h⟩:=Ov h
  refine ⟨_,e,sl,hp',ef',?_,he,?_,h⟩
  ·unfold copyV at h3
   split at h3
   ·split at h3
    ·rename_i hr hg
     split at h3
     ·rename_i hc
      cases h3
      simp only [Zc,he.opnd h1,he.opnd h2,hr,hg,Py,KV.val]
      rw [if_pos hc]
     ·cases h3
    ·cases h3
   ·split at h3
    ·rename_i hr
     split at h3
     ·rename_i hc
      cases h3
      simp only [Zc,he.opnd h1,he.opnd h2,hr,KV.val]
      rw [if_pos hc]
     ·cases h3
    ·cases h3
   ·cases h3
  ·unfold copyV at h3
   split at h3
   ·split at h3
    ·split at h3 <;> cases h3; rfl
    ·cases h3
   ·split at h3
    ·split at h3 <;> cases h3; rfl
    ·cases h3
   ·cases h3
 case min xs =>
  obtain ⟨v,h1,h⟩:=Z4 h
  obtain ⟨u,h2,h⟩:=Yp h
  refine ⟨_,e,sl,hp,ef,?_,he,JZ (ZsA h2),h⟩
  unfold ZrA at h2
  split at h2
  ·obtain ⟨b,hb,rfl⟩:=Option.map_eq_some_iff.1 h2
   simp only [Zc,he.opnds h1,hb,Option.map_some,KV.val]
  ·cases h2
 case max xs =>
  obtain ⟨v,h1,h⟩:=Z4 h
  obtain ⟨u,h2,h⟩:=Yp h
  refine ⟨_,e,sl,hp,ef,?_,he,JZ (Zs9 h2),h⟩
  unfold Zr8 at h2
  split at h2
  ·obtain ⟨b,hb,rfl⟩:=Option.map_eq_some_iff.1 h2
   simp only [Zc,he.opnds h1,hb,Option.map_some,KV.val]
  ·cases h2
 case call f args =>
  obtain ⟨fv,h1,h⟩:=Z4 h
  obtain ⟨⟨vs,e'⟩,h2,h⟩:=Z4 h
  obtain ⟨v,hp',ef',h3,h4⟩:=Ov h
  obtain ⟨sl',a1,a2⟩:=he.args h2
  clear h
  unfold ZqQ at h3
  split at h3
  ·refine ⟨_,e',sl',hp',_,?_,a2,Oq _,h4⟩
   simp only [Zc,he.opnd h1,a1,h3,ZlG,KV.val]
  ·cases h3
theorem Az {want:Bool}{v:AV}{sl:List AV}{t:Nat}{s:Za}(hs:s.sl=sl)(h:sl[t]? = some v):Yb s (some (t,want))=MX want v:=by
 simp only [Yb,hs,h]
 cases v <;> rfl
def ZlE (N bs:Nat)(P:List Nat)(x:Option Za)(k:Lh)(r:AV×List Zh×Eff):Prop :=
 ∃ (e':Env) (sl':List AV) (hp':List Zh) (ef':Eff),x=some ⟨sl',hp',ef',bs⟩∧WJ N P e' sl'∧k e' hp' ef'=some r
theorem put_eq (sl:List AV)(hp:List Zh)(ef:Eff)(bs:Nat)(d:Option Nat)(v:AV):Za.put ⟨sl,hp,ef,bs⟩ d v=⟨(Za.put ⟨sl,hp,ef,bs⟩ d v).sl,hp,ef,bs⟩:=by cases d <;> rfl
theorem ZkU {e:Env}{hp:List Zh}{ef:Eff}{op:AOp}(hq:Xy op=false){k:KV→Env→List Zh→Eff→KR} :
  opK G N bs P K e hp ef op k=opK G N bs P K e hp ef op fun v _ hp' ef'=>k v e hp' ef':=by
 cases op <;> first | rfl | (cases hq; done) | skip
 case call f args =>
  have:∀ (as:List (Nat ⊕ Yl)) (e:Env) (vs:List AV) (e':Env),(as.any fun | .inl _=>true | .inr _=>false)=false→Zbz G N P e as=some (vs,e')→e'=e:=by
   intro as
   induction as with
   | nil=>intro e vs e' _ h; cases h; rfl
   | cons a l ih =>
    intro e vs e' hn h
    cases a with
    | inl t=>simp at hn
    | inr x =>
     simp only [Zbz] at h
     split at h
     ·split at h
      ·rename_i us e1 hus
       cases h
       exact ih e us e' (by simpa using hn) hus
      ·cases h
     ·cases h
  simp only [opK]
  congr 1
  funext f
  cases ha:Zbz G N P e args with
  | none=>rfl
  | some p =>
   obtain ⟨vs,e'⟩:=p
   cases this args e vs e' hq ha
   rfl
theorem ZaF:∀ {as:List (Nat ⊕ Yl)} {sl sl':List AV} {vs:List AV},(as.any fun | .inl _=>true | .inr _=>false)=false→WQ G sl as=some (vs,sl')→sl'=sl
 | [],sl,sl',vs,_,h=>by cases h; rfl
 | .inl t :: l,sl,sl',vs,hn,h=>by simp at hn
 | .inr x :: l,sl,sl',vs,hn,h=>by
  simp only [WQ] at h
  split at h
  ·obtain ⟨p,hp,e⟩:=Option.map_eq_some_iff.1 h
   cases e
   exact ZaF (by simpa using hn) hp
  ·cases h
theorem Zr7 {α:Type}{s s':Za}{x:Option α}{f:α→AV}{v:AV}(h:x.map (fun a=>(f a,s))=some (v,s')):s'.sl=s.sl:=by
 obtain ⟨w,_,e⟩:=Option.map_eq_some_iff.1 h
 exact (congrArg (fun p=>p.2.sl) e).symm
theorem Zqp {s s':Za}{v w:AV}(h:some (w,s)=some (v,s')):s'.sl=s.sl:=(congrArg (fun p=>p.2.sl) (Option.some.inj h)).symm
theorem Zn2 {s s' s1:Za}{v w:AV}(h:some (w,s1)=some (v,s'))(h1:s1.sl=s.sl):s'.sl=s.sl:=by
 rw [← h1]; exact (congrArg (fun p=>p.2.sl) (Option.some.inj h)).symm
theorem Zpx {s s':Za}{v:AV}(h:(none:Option (AV×Za))=some (v,s')):s'.sl=s.sl:=nomatch h
theorem Zd3 {call:FuncId→List AV→List Zh→KR}{s s':Za}{op:AOp}{v:AV}(hq:Xy op=false)(h:Zc G call s op=some (v,s')):s'.sl=s.sl:=by
 cases op
 case take t=>cases hq
 case stt p t=>cases hq
 case app k b t x=>cases hq
 case apps b t x=>cases hq
 case call f args =>
  simp only [Zc] at h
  split at h
  ·rename_i hf ha
   split at h
   ·have:=Zqp h
    rw [this]
    exact ZaF hq ha
   ·exact absurd h (by simp)
  ·exact absurd h (by simp)
 all_goals
  simp only [Zc] at h
  repeat'
   first
   | exact Zr7 h
   | exact Zpx h
   | exact Zn2 h rfl
   | split at h
theorem ZdT {α:Type}(x:Option α)(f:α→KR)(k:AV→List Zh→Eff→KR):Ky (Ye x f) k=Ye x fun a=>Ky (f a) k:=by cases x <;> rfl
theorem Znb {α:Type}(x:Option α)(f:α→KR)(k:AV→List Zh→Eff→KR):Ky (rdK x f) k=rdK x fun a=>Ky (f a) k:=by cases x <;> rfl
theorem ZkA {α β:Type}(x:Option (α×β))(f:α→β→KR)(k:AV→List Zh→Eff→KR):Ky (Ec x f) k=Ec x fun a b=>Ky (f a b) k:=by cases x <;> rfl
theorem ZkB {α β γ:Type}(x:Option (α×β×γ))(f:α→β→γ→KR)(k:AV→List Zh→Eff→KR):Ky (Ky x f) k=Ky x fun a b c=>Ky (f a b c) k:=by cases x <;> rfl
theorem Zhn (b:Bool)(x y:KR)(k:AV→List Zh→Eff→KR):Ky (TL b x y) k=TL b (Ky x k) (Ky y k):=by cases b <;> rfl
theorem Zbb (v:AV)(hp:List Zh)(ef:Eff)(k:AV→List Zh→Eff→KR):Ky (some (v,hp,ef)) k=k v hp ef:=rfl
theorem Zba (k:AV→List Zh→Eff→KR):Ky none k=none:=rfl
theorem Zk4 {e:Env}{hp:List Zh}{ef:Eff}{op:AOp}{k:KV→Env→List Zh→Eff→KR} :
  Ky (opK G N bs P K e hp ef op fun v _ hp' ef'=>some (v.val,hp',ef')) (fun v hp' ef'=>k (.raw v) e hp' ef')=opK G N bs P K e hp ef op (fun v _ hp' ef'=>k (.raw v.val) e hp' ef'):=by
 cases op
 case mv x=>cases x <;> simp only [opK,mvK,ZdT,Zhn,Zbb,Zba]
 all_goals simp only [opK,ZdT,Znb,ZkA,ZkB,Zhn,Zbb,Zba]
def Held (A:List (Nat×Bool))(sl:List AV):Prop:=∀ p ∈ A,sl[p.1]? = some (.bool p.2)
def Calm (A:List (Nat×Bool))(ops:List ZF):Prop:=A≠[]→∀ o ∈ ops,Xy o.op=false∧∀ p ∈ A,o.dst≠some p.1
theorem Zfn:∀ {A:List (Nat×Bool)} {t:Nat} {w:Bool},inA t w A=true→(t,w) ∈ A
 | [],t,w,h=>by cases h
 | (u,v) :: l,t,w,h=>by
  simp only [inA] at h
  cases hb:(Nat.beq u t && (v == w)) with
  | true =>
   rw [Bool.and_eq_true] at hb
   have:=Nat.eq_of_beq_eq_true hb.1
   have hv:v=w:=by simpa using hb.2
   subst this; subst hv
   exact .head _
  | false=>rw [hb] at h; exact .tail _ (Zfn h)
theorem Held.put {A:List (Nat×Bool)}{sl:List AV}(h:Held A sl){hp:List Zh}{ef:Eff}{bs:Nat}{d:Option Nat}(hd:∀ p ∈ A,d≠some p.1)(v:AV):Held A (Za.put ⟨sl,hp,ef,bs⟩ d v).sl:=by
 cases d with
 | none=>exact h
 | some d =>
  intro p hp
  show (sl.set d v)[p.1]? = _
  rw [List.getElem?_set,if_neg (fun e=>hd p hp (by rw [e]))]
  exact h p hp
theorem ZmW {A:List (Nat×Bool)}{o:ZF}{e:Env}{sl:List AV}(he:WJ N P e sl)(hA:Held A sl)(hc:Calm A [o]){hp:List Zh}{ef:Eff}{k:Lh}{r:AV×List Zh×Eff}(h:ZpH G N bs P K A o e hp ef k=some r) :
  ∃ (e':Env) (sl':List AV) (hp':List Zh) (ef':Eff),Zt G K o ⟨sl,hp,ef,bs⟩=some ⟨sl',hp',ef',bs⟩∧WJ N (rmO o.dst P) e' sl'∧Held A sl'∧k e' hp' ef'=some r:=by
 unfold ZpH at h
 have run:∀ {k':KV→Env→List Zh→Eff→KR} (hk:∀ v e' hp' ef',k' v e' hp' ef'=some r→∃ v',v'.val=v.val∧(ZeT v→ZeT v')∧k (e'.put o.dst v') hp' ef'=some r) (_:opK G N bs P K e hp ef o.op k'=some r) (_:Yb ⟨sl,hp,ef,bs⟩ o.guard=some true),
   ∃ (e':Env) (sl':List AV) (hp':List Zh) (ef':Eff),Zt G K o ⟨sl,hp,ef,bs⟩=some ⟨sl',hp',ef',bs⟩∧WJ N (rmO o.dst P) e' sl'∧Held A sl'∧k e' hp' ef'=some r:=by
  intro k' hk h hw
  obtain ⟨v,e',sl',hp',ef',h1,h2,h3,h4⟩:=ZrZ he h
  obtain ⟨v',a1,a2,a3⟩:=hk _ _ _ _ h4
  refine ⟨e'.put o.dst v',(Za.put ⟨sl',hp',ef',bs⟩ o.dst v'.val).sl,hp',ef',?_,h2.put o.dst (a2 h3),?_,a3⟩
  ·simp only [Zt,hw,h1,a1]
   rw [put_eq]
  ·by_cases hn:A=[]
   ·subst hn; intro p hp; cases hp
   ·obtain ⟨c1,c2⟩:=hc hn o (.head _)
    have:sl'=sl:=Zd3 (s := ⟨sl,hp,ef,bs⟩) (s':=⟨sl',hp',ef',bs⟩) c1 h1
    subst this
    exact hA.put c2 _
 have skip:∀ (v:KV) (_:ZeT v) (_:v.val=.undef) (_:k (e.put o.dst v) hp ef=some r) (_:Yb ⟨sl,hp,ef,bs⟩ o.guard=some false),
   ∃ (e':Env) (sl':List AV) (hp':List Zh) (ef':Eff),Zt G K o ⟨sl,hp,ef,bs⟩=some ⟨sl',hp',ef',bs⟩∧WJ N (rmO o.dst P) e' sl'∧Held A sl'∧k e' hp' ef'=some r:=by
  intro v hv hu h hw
  refine ⟨e.put o.dst v,(Za.put ⟨sl,hp,ef,bs⟩ o.dst v.val).sl,hp,ef,?_,he.put o.dst hv,?_,h⟩
  ·simp only [Zt,hw,hu]
   rw [put_eq]
  ·by_cases hn:A=[]
   ·subst hn; intro p hp; cases hp
   ·exact hA.put (hc hn o (.head _)).2 _
 split at h
 ·rename_i hg
  exact run (fun v e' hp' ef' hk=>⟨v,rfl,fun a=>a,hk⟩) h (by rw [hg]; rfl)
 ·rename_i t want hg
  cases hi:inA t want A with
  | true =>
   rw [hi,BC] at h
   refine run (fun v e' hp' ef' hk=>⟨v,rfl,fun a=>a,hk⟩) h ?_
   rw [hg,Az rfl (hA _ (Zfn hi))]
   simp [MX]
  | false =>
   rw [hi,Tf] at h
   obtain ⟨h1,h⟩:=V5 h
   have hw:Yb ⟨sl,hp,ef,bs⟩ o.guard=MX want (e t).val:=by rw [hg]; exact Az rfl (he.get h1)
   cases ht:Xy o.op with
   | true =>
    rw [ht,BC] at h
    unfold ZnS at h
    split at h
    ·rename_i hb
     exact run (fun v e' hp' ef' hk=>⟨v,rfl,fun a=>a,hk⟩) h (hw.trans hb)
    ·rename_i hb
     exact skip (.cln .undef) rfl rfl h (hw.trans hb)
    ·cases h
   | false =>
    rw [ht,Tf] at h
    unfold MZ at h
    split at h
    ·rename_i hb
     have h':=Zk4 (k := fun v e' hp' ef'=>k (e'.put o.dst v) hp' ef') ▸ h
     rw [← ZkU ht (k := fun v e' hp' ef'=>k (e'.put o.dst (.raw v.val)) hp' ef')] at h'
     exact run (fun v e' hp' ef' hk=>⟨.raw v.val,rfl,fun _=>rfl,hk⟩) h' (hw.trans hb)
    ·rename_i hb
     exact skip (.raw .undef) rfl rfl h (hw.trans hb)
    ·cases h
theorem MV {call:FuncId→List AV→List Zh→KR}:∀ (a b:List ZF) (s:Za),Z7 G call (a ++ b) s=(Z7 G call a s).bind (Z7 G call b)
 | [],b,s=>rfl
 | o :: l,b,s=>by
  simp only [List.cons_append,Z7]
  cases Zt G call o s with
  | none=>rfl
  | some s'=>exact MV l b s'
theorem ZdC {call:FuncId→List AV→List Zh→KR}{t:Nat}{want:Bool}{P:List Nat}:∀ (ops:List ZF) (ds:List Nat) (sl:List AV) (hp:List Zh) (ef:Eff),sl[t]? = some (.bool (!want))→(∀ d ∈ ds,sl[d]? = some .undef)→sl.length=N →
  ∃ sl',Z7 G call (ops.take (QD N t want P ds ops)) ⟨sl,hp,ef,bs⟩=some ⟨sl',hp,ef,bs⟩∧sl'.length=sl.length∧∀ j,j ∉ P→sl'[j]? = sl[j]?
 | [],ds,sl,hp,ef,_,_,_=>⟨sl,rfl,rfl,fun _ _=>rfl⟩
 | o :: l,ds,sl,hp,ef,h1,h2,h3=>by
  have stay:QD N t want P ds (o :: l)=0→∃ sl',Z7 G call ((o :: l).take (QD N t want P ds (o :: l))) ⟨sl,hp,ef,bs⟩=some ⟨sl',hp,ef,bs⟩∧sl'.length=sl.length∧∀ j,j ∉ P→sl'[j]? = sl[j]?:=by
   intro h0
   rw [h0]
   exact ⟨sl,rfl,rfl,fun _ _=>rfl⟩
  cases hg:o.guard with
  | none=>exact stay (by simp only [QD,hg])
  | some uw =>
   obtain ⟨u,w⟩:=uw
   cases hd:o.dst with
   | none=>exact stay (by simp only [QD,hg,hd])
   | some d =>
    cases hb:(((Nat.beq u t && (w == want)) || !VN ds u) && !Nat.beq d t && !VN P d && !Xy o.op && Nat.blt d N) with
    | false=>exact stay (by simp only [QD,hg,hd,hb])
    | true =>
     have hl:QD N t want P ds (o :: l)=QD N t want P (d :: ds) l + 1:=by simp only [QD,hg,hd,hb]
     rw [hl,List.take_succ_cons]
     simp only [Bool.and_eq_true,Bool.or_eq_true,Bool.not_eq_true'] at hb
     obtain ⟨⟨⟨⟨b1,b2⟩,b3⟩,b4⟩,b5⟩:=hb
     have hdt:d≠t:=fun e=>by subst e; rw [Nat.beq_refl] at b2; cases b2
     have hdP:d ∈ P:=Classical.byContradiction fun hn=>by rw [UF.2 hn] at b3; cases b3
     have hw:Yb ⟨sl,hp,ef,bs⟩ (some (u,w))=some false:=by
      rcases b1 with ⟨c1,c2⟩ | c1
      ·have:=Nat.eq_of_beq_eq_true c1
       have hw:w=want:=by simpa using c2
       subst this; subst hw
       simp [Yb,h1]
      ·have:u ∈ ds:=Classical.byContradiction fun hn=>by rw [UF.2 hn] at c1; cases c1
       simp [Yb,h2 u this]
     obtain ⟨sl',a1,a2,a3⟩:=ZdC l (d :: ds) (sl.set d .undef) hp ef (by rw [List.getElem?_set,if_neg hdt]; exact h1)
      (fun x hx=>by
       rw [List.getElem?_set]
       by_cases e:d=x
       ·subst e; simp [h3,show d < N from Nat.le_of_ble_eq_true b5]
       ·rw [if_neg e]
        rcases List.mem_cons.1 hx with e' | hx
        ·exact absurd e'.symm e
        ·exact h2 x hx)
      (by rw [List.length_set]; exact h3)
     refine ⟨sl',?_,by rw [a2,List.length_set],fun j hj=>?_⟩
     ·simp only [Z7,Zt,hg,hw,hd]
      exact a1
     ·rw [a3 j hj,List.getElem?_set,if_neg (fun (e:d=j)=>hj (e ▸ hdP))]
theorem ZaT {t:Nat}{want:Bool}{P:List Nat}:∀ (ops:List ZF) (ds:List Nat),∀ o ∈ ops.take (QD N t want P ds ops),Xy o.op=false∧o.dst≠some t∧∀ d,o.dst=some d→d ∈ P
 | [],ds,o,ho=>by cases ho
 | o :: l,ds,o',ho=>by
  cases hg:o.guard with
  | none=>rw [show QD N t want P ds (o :: l)=0 by simp only [QD,hg]] at ho; cases ho
  | some uw =>
   obtain ⟨u,w⟩:=uw
   cases hd:o.dst with
   | none=>rw [show QD N t want P ds (o :: l)=0 by simp only [QD,hg,hd]] at ho; cases ho
   | some d =>
    cases hb:(((Nat.beq u t && (w == want)) || !VN ds u) && !Nat.beq d t && !VN P d && !Xy o.op && Nat.blt d N) with
    | false=>rw [show QD N t want P ds (o :: l)=0 by simp only [QD,hg,hd,hb]] at ho; cases ho
    | true =>
     rw [show QD N t want P ds (o :: l)=QD N t want P (d :: ds) l + 1 by simp only [QD,hg,hd,hb],List.take_succ_cons] at ho
     simp only [Bool.and_eq_true,Bool.or_eq_true,Bool.not_eq_true'] at hb
     obtain ⟨⟨⟨⟨b1,b2⟩,b3⟩,b4⟩,b5⟩:=hb
     rcases List.mem_cons.1 ho with e | ho
     ·subst e
      refine ⟨b4,fun e=>?_,fun x hx=>?_⟩
      ·rw [hd] at e; cases e; rw [Nat.beq_refl] at b2; cases b2
      ·rw [hd] at hx; cases hx
       exact Classical.byContradiction fun hn=>by rw [UF.2 hn] at b3; cases b3
     ·exact ZaT l (d :: ds) o' ho
theorem Zf7 {call:FuncId→List AV→List Zh→KR}{P:List Nat}:∀ (ops:List ZF) (s s':Za),(∀ o ∈ ops,Xy o.op=false∧∀ d,o.dst=some d→d ∈ P)→Z7 G call ops s=some s'→s'.sl.length=s.sl.length∧∀ j,j ∉ P→s'.sl[j]? = s.sl[j]?
 | [],s,s',_,h=>by cases h; exact ⟨rfl,fun _ _=>rfl⟩
 | o :: l,s,s',hc,h=>by
  simp only [Z7] at h
  split at h
  ·rename_i s1 h1
   obtain ⟨a1,a2⟩:=Zf7 l s1 s' (fun o ho=>hc o (.tail _ ho)) h
   have one:s1.sl.length=s.sl.length∧∀ j,j ∉ P→s1.sl[j]? = s.sl[j]?:=by
    obtain ⟨c1,c2⟩:=hc o (.head _)
    have putOff:∀ (s2:Za) (v:AV),s2.sl=s.sl→(s2.put o.dst v).sl.length=s.sl.length∧∀ j,j ∉ P→(s2.put o.dst v).sl[j]? = s.sl[j]?:=by
     intro s2 v h2
     cases hd:o.dst with
     | none=>exact ⟨congrArg _ h2,fun _ _=>by show s2.sl[_]? = _; rw [h2]⟩
     | some d=>exact ⟨by show (s2.sl.set d v).length=_; rw [List.length_set,h2],fun j hj=>by show (s2.sl.set d v)[j]? = _; rw [List.getElem?_set,if_neg (fun (e:d=j)=>hj (e ▸ c2 d hd)),h2]⟩
    unfold Zt at h1
    split at h1
    ·split at h1
     ·rename_i hev
      have e1:=Zd3 c1 hev
      cases h1
      exact putOff _ _ e1
     ·cases h1
    ·cases h1
     exact putOff s _ rfl
    ·cases h1
   exact ⟨a1.trans one.1,fun j hj=>(a2 j hj).trans (one.2 j hj)⟩
  ·cases h
theorem Zmk {A:List (Nat×Bool)}{P:List Nat}{ops:List ZF}{t:Nat}{want:Bool}{m:Nat}{d:Option Nat}{a b:Yl}{rest:List ZF}(h:ZjG N A P ops=some (t,want,m,d,a,b,rest)) :
  m=QD N t want P [] ops∧t < N∧t ∉ P∧∃ g,ops.drop m=⟨d,.pick (.tmp t) a b,g⟩ :: rest∧(g=none∨∃ p ∈ A,g=some p):=by
 unfold ZjG at h
 split at h
 ·cases h
 ·rename_i o l
  split at h
  ·cases h
  ·rename_i t' want' hg
   cases hi:inA t' want' A with
   | true=>rw [hi,BC] at h; cases h
   | false =>
    rw [hi,Tf] at h
    split at h
    ·rename_i d' u a' b' rest' hd
     obtain ⟨h1,h2⟩:=V5 h
     simp only [Bool.and_eq_true] at h1
     obtain ⟨⟨⟨c1,c2⟩,c3⟩,c4⟩:=h1
     cases h2
     have:=Nat.eq_of_beq_eq_true c1
     subst this
     exact ⟨rfl,Nat.le_of_ble_eq_true c2,UF.1 c3,none,hd,.inl rfl⟩
    ·rename_i d' u a' b' gt gw rest' hd
     obtain ⟨h1,h2⟩:=V5 h
     simp only [Bool.and_eq_true] at h1
     obtain ⟨⟨⟨⟨c0,c1⟩,c2⟩,c3⟩,c4⟩:=h1
     cases h2
     have:=Nat.eq_of_beq_eq_true c1
     subst this
     exact ⟨rfl,Nat.le_of_ble_eq_true c2,UF.1 c3,some (gt,gw),hd,.inr ⟨_,Zfn c0,rfl⟩⟩
    ·cases h
theorem Zo3:∀ (c w:Bool),(c == w)=false→c=!w:=by decide
theorem Zcl:∀ (n:Nat) {A:List (Nat×Bool)} {P:List Nat} {ops:List ZF} {e:Env} {sl:List AV} (_:WJ N P e sl) (_:Held A sl) (_:Calm A ops) {hp:List Zh} {ef:Eff} {k:Lh} {r:AV×List Zh×Eff},Zhk G N bs K n A P ops k e hp ef=some r →
  ∃ (e':Env) (sl':List AV) (hp':List Zh) (ef':Eff),Z7 G K ops ⟨sl,hp,ef,bs⟩=some ⟨sl',hp',ef',bs⟩∧WJ N (Zj9 N n A P ops) e' sl'∧Held A sl'∧k e' hp' ef'=some r
 | 0,A,P,[],e,sl,he,hA,_,hp,ef,k,r,h=>⟨e,sl,hp,ef,rfl,he,hA,by simpa [Zhk] using h⟩
 | n + 1,A,P,[],e,sl,he,hA,_,hp,ef,k,r,h=>⟨e,sl,hp,ef,rfl,he,hA,by simpa [Zhk] using h⟩
 | 0,A,P,o :: l,e,sl,he,hA,_,hp,ef,k,r,h=>by simp [Zhk] at h
 | n + 1,A,P,o :: l,e,sl,he,hA,hc,hp,ef,k,r,h=>by
  cases hg:ZjG N A P (o :: l) with
  | some gg =>
   obtain ⟨t,want,m,d,a,b,rest⟩:=gg
   simp only [Zhk,hg] at h
   simp only [Zj9,hg]
   obtain ⟨hm,htN,htP,g,hdrop,hgd⟩:=Zmk hg
   have hsplit:o :: l=(o :: l).take m ++ ⟨d,.pick (.tmp t) a b,g⟩ :: rest:=by rw [← hdrop,List.take_append_drop]
   have hcalm:∀ o' ∈ (o :: l).take m,Xy o'.op=false∧o'.dst≠some t∧∀ x,o'.dst=some x→x ∈ P:=by rw [hm]; exact ZaT _ _
   have hcA:A≠[]→∀ p ∈ A,d≠some p.1:=fun hne p hp=>(hc hne ⟨d,.pick (.tmp t) a b,g⟩ (by rw [hsplit]; exact List.mem_append_right _ (.head _))).2 p hp
   have ht:sl[t]? = some (e t).val:=he.val t htN htP
   have behind:∀ (sl1:List AV) (hp1:List Zh) (ef1:Eff) (c:Bool) (v:AV),Z7 G K ((o :: l).take m) ⟨sl,hp,ef,bs⟩=some ⟨sl1,hp1,ef1,bs⟩→sl1.length=sl.length→(∀ j,j ∉ P→sl1[j]? = sl[j]?)→Held A sl1→sl1[t]? = some (.bool c) →
     opnd G sl1 (if c then a else b)=some v→Zhk G N bs K n A (rmO d P) rest k (e.put d (.raw v)) hp1 ef1=some r →
     ∃ (e':Env) (sl':List AV) (hp':List Zh) (ef':Eff),Z7 G K (o :: l) ⟨sl,hp,ef,bs⟩=some ⟨sl',hp',ef',bs⟩∧WJ N (Zj9 N n A (rmO d P) rest) e' sl'∧Held A sl'∧k e' hp' ef'=some r:=by
    intro sl1 hp1 ef1 c v h1 hlen hoff hA1 hc1 hv hk
    have he1:WJ N P e sl1:=⟨hlen.trans he.len,fun j hj hn=>(hoff j hn).trans (he.val j hj hn),he.ok⟩
    have hput:=he1.put d (v := .raw v) (Oq v) (hp := hp1) (ef := ef1) (bs := bs)
    have hA2:Held A (Za.put ⟨sl1,hp1,ef1,bs⟩ d v).sl:=by
     by_cases hne:A=[]
     ·subst hne; intro p hp; cases hp
     ·exact hA1.put (hcA hne) v
    obtain ⟨e',sl',hp',ef',b1,b2,b3,b4⟩:=Zcl n hput hA2 (fun hne o' ho'=>hc hne o' (by rw [hsplit]; exact List.mem_append_right _ (.tail _ ho'))) hk
    refine ⟨e',sl',hp',ef',?_,b2,b3,b4⟩
    rw [hsplit,MV,h1]
    show Z7 G K (⟨d,.pick (.tmp t) a b,g⟩ :: rest) ⟨sl1,hp1,ef1,bs⟩=_
    have hw:Yb ⟨sl1,hp1,ef1,bs⟩ g=some true:=by
     rcases hgd with e0 | ⟨p,hp,e0⟩
     ·subst e0; rfl
     ·subst e0
      obtain ⟨p1,p2⟩:=p
      rw [Az rfl (hA1 _ hp)]
      simp [MX]
    have hop:Zc G K ⟨sl1,hp1,ef1,bs⟩ (.pick (.tmp t) a b)=some (v,⟨sl1,hp1,ef1,bs⟩):=by
     have:opnd G sl1 (.tmp t)=some (.bool c):=by simp only [Abs.opnd,hc1,Option.map_some]; rfl
     cases c with
     | true=>simp only [if_true] at hv; simp only [Zc,this,hv,Option.map_some]
     | false=>simp only [Bool.false_eq_true,if_false] at hv; simp only [Zc,this,hv,Option.map_some]
    simp only [Z7,Zt,hw,hop]
    rw [put_eq]
    exact b1
   unfold Aw at h
   split at h
   ·rename_i c hcv
    rw [hcv] at ht
    split at h
    ·rename_i hcw
     have hcw:c=want:=by simpa using hcw
     subst hcw
     obtain ⟨v,hp1,ef1,h1,h2⟩:=Ov h
     have hA':Held ((t,c) :: A) sl:=by
      intro p hp
      rcases List.mem_cons.1 hp with e0 | hp
      ·subst e0; exact ht
      ·exact hA p hp
     have hc':Calm ((t,c) :: A) ((o :: l).take m):=by
      intro _ o' ho'
      obtain ⟨q1,q2,q3⟩:=hcalm o' ho'
      refine ⟨q1,fun p hp=>?_⟩
      rcases List.mem_cons.1 hp with e0 | hp
      ·subst e0; exact q2
      ·exact (hc (by intro h0; subst h0; cases hp) o' (by rw [hsplit]; exact List.mem_append_left _ ho')).2 p hp
     obtain ⟨e1,sl1,hp2,ef2,b1,b2,b3,b4⟩:=Zcl n he hA' hc' h1
     obtain ⟨v',g1,g2⟩:=Z4 b4
     cases g2
     obtain ⟨o1,o2⟩:=Zf7 (P := P) _ _ _ (fun o' ho'=>⟨(hcalm o' ho').1,(hcalm o' ho').2.2⟩) b1
     refine behind sl1 _ _ c _ b1 o1 o2 (fun p hp=>b3 p (.tail _ hp)) (b3 _ (.head _)) ?_ h2
     have:=b2.opnd g1
     cases c <;> exact this
    ·rename_i hcw
     have hcw:c=!want:=Zo3 _ _ hcw
     subst hcw
     obtain ⟨v,h1,h2⟩:=Yp h
     obtain ⟨sl1,b1,b2,b3⟩:=ZdC (G := G) (N := N) (bs := bs) (call := K) (P := P) (t := t) (want := want) (o :: l) [] sl hp ef ht (fun _ hx=>by cases hx) he.len
     rw [← hm] at b1
     have he1:WJ N P e sl1:=⟨b2.trans he.len,fun j hj hn=>(b3 j hn).trans (he.val j hj hn),he.ok⟩
     have hA1:Held A sl1:=by
      by_cases hne:A=[]
      ·subst hne; intro p hp; cases hp
      ·have hall:∀ o' ∈ (o :: l).take m,∀ p ∈ A,o'.dst≠some p.1:=fun o' ho' p hp=>(hc hne o' (by rw [hsplit]; exact List.mem_append_left _ ho')).2 p hp
       intro p hp
       have:=Zf7 (G := G) (call := K) (P := ((o :: l).take m).filterMap (·.dst)) _ _ _ (fun o' ho'=>⟨(hcalm o' ho').1,fun x hx=>List.mem_filterMap.2 ⟨o',ho',hx⟩⟩) b1
       rw [this.2 p.1 (fun hmem=>by obtain ⟨o',ho',hx⟩:=List.mem_filterMap.1 hmem; exact hall o' ho' p hp hx)]
       exact hA p hp
     refine behind sl1 _ _ (!want) _ b1 b2 b3 hA1 (by rw [b3 t htP]; exact ht) ?_ h2
     have:=he1.opnd h1
     cases want <;> exact this
   ·cases h
  | none =>
   simp only [Zhk,hg] at h
   simp only [Zj9,hg]
   obtain ⟨e1,sl1,hp1,ef1,h1,h2,h3,h4⟩:=ZmW he hA (fun hne o' ho'=>hc hne o' (by rcases List.mem_cons.1 ho' with e0 | e0; (subst e0; exact .head _); cases e0)) h
   obtain ⟨e2,sl2,hp2,ef2,g1,g2,g3,g4⟩:=Zcl n h2 h3 (fun hne o' ho'=>hc hne o' (.tail _ ho')) h4
   exact ⟨e2,sl2,hp2,ef2,by simp only [Z7,h1,g1],g2,g3,g4⟩
theorem Zkq {P:List Nat}{d:Option Nat}{t:Nat}(h:t ∈ rmO d P):t ∈ P:=by
 cases d with
 | none=>exact h
 | some d=>exact (Zhd.1 h).1
theorem Zca:∀ (n:Nat) {A:List (Nat×Bool)} {P:List Nat} {ops:List ZF} {t:Nat},t ∈ Zj9 N n A P ops→t ∈ P
 | 0,A,P,ops,t,h=>by simpa [Zj9] using h
 | n + 1,A,P,[],t,h=>by simpa [Zj9] using h
 | n + 1,A,P,o :: l,t,h=>by
  unfold Zj9 at h
  split at h
  ·exact Zkq (Zca n h)
  ·exact Zkq (Zca n h)
theorem Zck {P:List Nat}{ops:List ZF}{e:Env}{sl:List AV}(he:WJ N P e sl){hp:List Zh}{ef:Eff}{k:Lh}{r:AV×List Zh×Eff}(h:Zhk G N bs K ops.length [] P ops k e hp ef=some r) :
  ZlE N bs P (Z7 G K ops ⟨sl,hp,ef,bs⟩) k r:=by
 obtain ⟨e',sl',hp',ef',h1,h2,_,h4⟩:=Zcl ops.length he (fun p hp=>by cases hp) (fun hne=>absurd rfl hne) h
 exact ⟨e',sl',hp',ef',h1,h2.mono fun t ht=>Zca _ ht,h4⟩
def Goes (N bs:Nat)(P:List Nat)(x:Option (U3×Za))(n rt:Lh)(xs:List (Nat×Lh))(r:AV×List Zh×Eff):Prop :=
 ∃ (ex:U3) (e':Env) (sl':List AV) (hp':List Zh) (ef':Eff),x=some (ex,⟨sl',hp',ef',bs⟩)∧WJ N P e' sl'∧match ex with
  | .normal=>n e' hp' ef'=some r
  | .ret=>rt e' hp' ef'=some r
  | .exit i=>Zm5 i xs e' hp' ef'=some r
variable {L:Nat}
theorem UC (a b:Wh)(n r:Lh)(xs:List (Nat×Lh)):Xp G N bs K P L (.seq a b) n r xs=Xp G N bs K P L a (Xp G N bs K P L b n r xs) r xs:=rfl
theorem Vg (id:Nat)(c:Wh)(n r:Lh)(xs:List (Nat×Lh)):Xp G N bs K P L (.block id c) n r xs=Xp G N bs K P L c n r ((id,n) :: xs):=rfl
theorem Vh (c:Wh)(n r:Lh)(xs:List (Nat×Lh)):Xp G N bs K P L (.scope c) n r xs=Xp G N bs K P L c n r xs:=rfl
theorem VV (c:Yl)(a b:Wh)(n r:Lh)(xs:List (Nat×Lh)):Xp G N bs K P L (.cond c a b) n r xs=fun e hp ef=>rdK (WN G N P e c) fun v=>ifK v (Xp G N bs K P L a n r xs e hp ef) (Xp G N bs K P L b n r xs e hp ef):=rfl
theorem XY:∀ (c:Wh) {n rt:Lh} {xs:List (Nat×Lh)} {e:Env} {sl:List AV} (_:WJ N P e sl) {hp:List Zh} {ef:Eff} {r:AV×List Zh×Eff},Xp G N bs K P L c n rt xs e hp ef=some r →
  Goes N bs P (Zq G K L c ⟨sl,hp,ef,bs⟩) n rt xs r
 | .skip,n,rt,xs,e,sl,he,hp,ef,r,h=>⟨.normal,e,sl,hp,ef,rfl,he,h⟩
 | .region false ops,n,rt,xs,e,sl,he,hp,ef,r,h=>by
  obtain ⟨e',sl',hp',ef',h1,h2,h3⟩:=Zck he h
  exact ⟨.normal,e',sl',hp',ef',by simp only [Zq,h1,Option.map_some],h2,h3⟩
 | .region true ops,n,rt,xs,e,sl,he,hp,ef,r,h=>by
  obtain ⟨e',sl',hp',ef',h1,h2,h3⟩:=Zck he h
  exact ⟨.normal,e',sl',hp',ef',by simp only [Zq,h1,Option.map_some],h2,h3⟩
 | .regionB ops,n,rt,xs,e,sl,he,hp,ef,r,h=>by
  obtain ⟨e',sl',hp',ef',h1,h2,h3⟩:=Zck he h
  exact ⟨.normal,e',sl',hp',ef',by simp only [Zq,h1,Option.map_some],h2,h3⟩
 | .seq a b,n,rt,xs,e,sl,he,hp,ef,r,h=>by
  obtain ⟨ex,e',sl',hp',ef',h1,h2,h3⟩:=XY a he h
  cases ex with
  | normal =>
   obtain ⟨ex,e2,sl2,hp2,ef2,g1,g2,g3⟩:=XY b h2 h3
   exact ⟨ex,e2,sl2,hp2,ef2,by simp only [Zq,h1,g1],g2,g3⟩
  | ret=>exact ⟨.ret,e',sl',hp',ef',by simp only [Zq,h1],h2,h3⟩
  | exit i=>exact ⟨.exit i,e',sl',hp',ef',by simp only [Zq,h1],h2,h3⟩
 | .cond c a b,n,rt,xs,e,sl,he,hp,ef,r,h=>by
  obtain ⟨v,h1,h2⟩:=Z4 (show rdK (WN G N P e c) (fun v=>ifK v (Xp G N bs K P L a n rt xs e hp ef) (Xp G N bs K P L b n rt xs e hp ef))=some r from h)
  unfold ifK at h2
  split at h2
  ·obtain ⟨ex,e',sl',hp',ef',g1,g2,g3⟩:=XY a he h2
   exact ⟨ex,e',sl',hp',ef',by simp only [Zq,he.opnd h1,g1],g2,g3⟩
  ·obtain ⟨ex,e',sl',hp',ef',g1,g2,g3⟩:=XY b he h2
   exact ⟨ex,e',sl',hp',ef',by simp only [Zq,he.opnd h1,g1],g2,g3⟩
  ·cases h2
 | .block id c,n,rt,xs,e,sl,he,hp,ef,r,h=>by
  obtain ⟨ex,e',sl',hp',ef',h1,h2,h3⟩:=XY c he h
  cases ex with
  | normal=>exact ⟨.normal,e',sl',hp',ef',by simp only [Zq,h1],h2,h3⟩
  | ret=>exact ⟨.ret,e',sl',hp',ef',by simp only [Zq,h1],h2,h3⟩
  | exit i =>
   simp only [Zm5] at h3
   by_cases hi:i=id
   ·subst hi
    rw [Nat.beq_refl,BC] at h3
    exact ⟨.normal,e',sl',hp',ef',by simp only [Zq,h1,if_true],h2,h3⟩
   ·have:Nat.beq id i=false:=by cases hb:Nat.beq id i with | false=>rfl | true=>exact absurd (Nat.eq_of_beq_eq_true hb).symm hi
    rw [this,Tf] at h3
    exact ⟨.exit i,e',sl',hp',ef',by simp only [Zq,h1,if_neg hi],h2,h3⟩
 | .loop c,n,rt,xs,e,sl,he,hp,ef,r,h=>by
  have go:∀ (m:Nat) {e:Env} {sl:List AV} (_:WJ N P e sl) {hp:List Zh} {ef:Eff},ZdI (fun n'=>Xp G N bs K P L c n' rt xs) m e hp ef=some r →
    Goes N bs P (iter (Zq G K L c) m ⟨sl,hp,ef,bs⟩) n rt xs r:=by
   intro m
   induction m with
   | zero=>intro e sl he hp ef h; cases h
   | succ m ih =>
    intro e sl he hp ef h
    obtain ⟨ex,e',sl',hp',ef',h1,h2,h3⟩:=XY c he (show Xp G N bs K P L c (ZdI (fun n'=>Xp G N bs K P L c n' rt xs) m) rt xs e hp ef=some r from h)
    cases ex with
    | normal =>
     obtain ⟨ex,e2,sl2,hp2,ef2,g1,g2,g3⟩:=ih h2 h3
     exact ⟨ex,e2,sl2,hp2,ef2,by simp only [iter,h1,g1],g2,g3⟩
    | ret=>exact ⟨.ret,e',sl',hp',ef',by simp only [iter,h1],h2,h3⟩
    | exit i=>exact ⟨.exit i,e',sl',hp',ef',by simp only [iter,h1],h2,h3⟩
  exact go L he h
 | .scope c,n,rt,xs,e,sl,he,hp,ef,r,h=>XY c he h
 | .exit id,n,rt,xs,e,sl,he,hp,ef,r,h=>⟨.exit id,e,sl,hp,ef,rfl,he,h⟩
 | .ret,n,rt,xs,e,sl,he,hp,ef,r,h=>⟨.ret,e,sl,hp,ef,rfl,he,h⟩
 | .bad,n,rt,xs,e,sl,he,hp,ef,r,h=>by cases h
end
theorem ZkW {e:Env}{N:Nat}{P:List Nat}{sl:List AV}(he:WJ N P e sl){hp:List Zh}{ef:Eff}{bs:Nat}{r:En}{v:AV}(h:Zth e N P hp r=some v):Iy ⟨sl,hp,ef,bs⟩ r=some v:=by
 cases r <;> simp only [Zth] at h <;> obtain ⟨h1,h2⟩:=V5 h
 ·cases h2; exact he.get h1
 ·simp only [Iy,he.get h1,h2]
 ·simp only [Iy,he.get h1,h2]
theorem Zh3 {e:Env}{N:Nat}{P:List Nat}{sl:List AV}(he:WJ N P e sl){hp:List Zh}{ef:Eff}{bs:Nat}:∀ {rs:List En} {k:List AV→KR} {q:AV×List Zh×Eff},Znt e N P hp rs k=some q→∃ vs,JR ⟨sl,hp,ef,bs⟩ rs=some vs∧k vs=some q
 | [],k,q,h=>⟨[],rfl,h⟩
 | r :: l,k,q,h=>by
  simp only [Znt] at h
  obtain ⟨v,hv,h⟩:=Z4 h
  obtain ⟨vs,hvs,h⟩:=Zh3 (ef := ef) (bs := bs) he h
  exact ⟨v.nm :: vs,by simp only [JR,ZkW he hv,hvs],h⟩
theorem Zbn {e:Env}{N:Nat}{P:List Nat}{sl:List AV}(he:WJ N P e sl){hp:List Zh}{ef:Eff}{bs:Nat}{rs:List En}{k:AV→KR}{q:AV×List Zh×Eff}(h:Zgh e N P hp rs k=some q):∃ v,Qk ⟨sl,hp,ef,bs⟩ rs=some v∧k v=some q:=by
 unfold Zgh at h
 split at h
 ·obtain ⟨v,hv,h⟩:=Z4 h
  exact ⟨v,ZkW he hv,h⟩
 ·rename_i hne
  obtain ⟨vs,hvs,h⟩:=Zh3 (ef := ef) (bs := bs) he h
  refine ⟨_,?_,h⟩
  unfold Qk
  split
  ·exact absurd rfl (hne _)
  ·rw [hvs]; rfl
theorem SY:∀ (args:List AV) (t:Nat),Zl1 args t=.raw (args.getD t .undef)
 | [],t=>by simp [Zl1]
 | v :: l,0=>rfl
 | v :: l,t + 1=>by
  show Zl1 l t=_
  rw [SY l t]
  rfl
theorem ZeZ {args:List AV}{N:Nat}{P:List Nat}(h:args.length≤N):WJ N P (Zl1 args) (args ++ List.replicate (N - args.length) .undef):=by
 refine ⟨by simp; omega,fun t ht _=>?_,fun t=>by rw [SY]; rfl⟩
 rw [SY,List.getD_eq_getElem?_getD]
 by_cases h1:t < args.length
 ·rw [List.getElem?_append_left h1]; simp [h1,KV.val]
 ·rw [List.getElem?_append_right (by omega),List.getElem?_replicate]
  simp [show t - args.length < N - args.length by omega,show args[t]? = none from List.getElem?_eq_none (by omega),KV.val]
theorem Zrd {C:Cfg}{P:List Nat}{f:FuncId}{fn:AFn}(hT:C.T f=some fn){n:Nat}{args:List AV}{hp:List Zh}{r:AV×List Zh×Eff}(hl:args.length≤fn.ntmps)(h:fnK C.G (Zy C n) P C.L fn args hp=some r) :
  Zy C (n + 1) f args hp=some r:=by
 obtain ⟨ex,e',sl',hp',ef',h1,h2,h3⟩:=XY fn.code (ZeZ hl) h
 have hret:∀ (_:Zdb P fn hp e' hp' ef'=some r),∃ v,Qk ⟨sl',hp',ef',hp.length⟩ fn.results=some v∧(if fn.keep then (v.nm,hp',ef') else finish v ⟨sl',hp',ef',hp.length⟩ hp)=r:=by
  intro h
  obtain ⟨v,a1,a2⟩:=Zbn h2 h
  refine ⟨v,a1,?_⟩
  cases a2
  unfold Zd7
  cases fn.keep <;> rfl
 rw [Zy]
 simp only [hT,h1]
 cases ex with
 | normal =>
  obtain ⟨v,a1,a2⟩:=hret h3
  simp only [a1,a2]
 | ret =>
  obtain ⟨v,a1,a2⟩:=hret h3
  simp only [a1,a2]
 | exit i=>cases h3
end Go.Proofs.YthkdlifcknpadaaGreat.Abs
end
section
namespace Go.Proofs.YthkdlifcknpadaaGreat.Abs
open Go
theorem Zse {α:Type}(v:α)(k:α→KR):Ye (some v) k=k v:=rfl
theorem Zsc {α β:Type}(a:α)(b:β)(k:α→β→KR):Ec (some (a,b)) k=k a b:=rfl
theorem Zsd {α β γ:Type}(a:α)(b:β)(c:γ)(k:α→β→γ→KR):Ky (some (a,b,c)) k=k a b c:=rfl
theorem ZtF (b:Bool)(x y:KR):ifK (.bool b) x y=if b=true then x else y:=by cases b <;> rfl
theorem Zmm (x:KR)(hp:List Zh)(ef:Eff)(k:AV→List Zh→Eff→KR):MZ (some true) x hp ef k=Ky x k:=rfl
theorem Zml (x:KR)(hp:List Zh)(ef:Eff)(k:AV→List Zh→Eff→KR):MZ (some false) x hp ef k=k .undef hp ef:=rfl
theorem ZjI (b:Bool):MX true (.bool b)=some b:=by cases b <;> rfl
theorem ZjH (b:Bool):MX false (.bool b)=some (!b):=by cases b <;> rfl
theorem Zqa (a b:AV):Zar (.bool true) a b=some a:=rfl
theorem ZpZ (a b:AV):Zar (.bool false) a b=some b:=rfl
theorem Zr1 {α:Type}(x:α)(k:α→KR):Zl4 x k=k x:=rfl
theorem Zqj (b:Bool):AV.ro (.bool b)=.bool b:=rfl
theorem Zs3 (k:IntKind)(n:Int):AV.ro (.int k n)=.int k n:=rfl
theorem ZsE (s:List UInt8):AV.ro (.str s)=.str s:=rfl
theorem Zs7 (k:Nat)(r:List (List AV)):AV.ro (.lst k r)=.lst k r:=rfl
theorem ZsB (k:Nat)(r:List (List AV)):AV.ro (.own k r)=.lst k r:=rfl
theorem Zsz (c:List AV):AV.ro (.agg c)=.agg c:=rfl
theorem ZsF (c:List AV):AV.ro (.tup c)=.tup c:=rfl
theorem ZsC (g o:Nat):AV.ro (.ptr g o)=.ptr g o:=rfl
theorem Zs8 (g:Nat):AV.ro (.map g)=.map g:=rfl
theorem ZsD (c:List AV):AV.ro (.ref c)=.ref c:=rfl
theorem Zuo (f:FuncId)(a c:List AV):AV.ro (.fn f a c)=.fn f a c:=rfl
theorem Zny:AV.ro .undef=.undef:=rfl
theorem Zpu (b:Bool):AV.nm (.bool b)=.bool b:=rfl
theorem ZrG (k:IntKind)(n:Int):AV.nm (.int k n)=.int k n:=rfl
theorem ZrK (s:List UInt8):AV.nm (.str s)=.str s:=rfl
theorem ZrH (k:Nat)(r:List (List AV)):AV.nm (.lst k r)=.lst k r:=rfl
theorem Zku (k:Nat)(r:List (List AV)):AV.nm (.own k r)=.lst k r:=rfl
theorem ZrF (c:List AV):AV.nm (.agg c)=.agg (c.map AV.ro):=rfl
theorem ZrJ (g o:Nat):AV.nm (.ptr g o)=.ptr g o:=rfl
theorem ZrI (g:Nat):AV.nm (.map g)=.map g:=rfl
theorem ZtY (f:FuncId)(a c:List AV):AV.nm (.fn f a c)=.fn f a c:=rfl
theorem Zjo (c:List AV):AV.cells (.agg c)=c:=rfl
theorem ZqK (op:BinOp)(a b:List UInt8):ZB op .prim (.str a) (.str b)=ZcP op a b:=rfl
theorem Ztq (k:IntKind)(a b:Int):ZB .add .prim (.int k a) (.int k b)=some (.int k (k.wrap (a + b))):=by simp [ZB,VZ,JY]
theorem Ztw (k:IntKind)(a b:Int):ZB .sub .prim (.int k a) (.int k b)=some (.int k (k.wrap (a - b))):=by simp [ZB,VZ,JY]
theorem Ztt (k:IntKind)(a b:Int):ZB .mul .prim (.int k a) (.int k b)=some (.int k (k.wrap (a * b))):=by simp [ZB,VZ,JY]
theorem ZuD (k:IntKind)(a b:Int):ZB .eql .prim (.int k a) (.int k b)=some (.bool (decide (a=b))):=by
 simp only [ZB,VZ,JY,Bool.false_eq_true,if_false,if_true]; congr 2
theorem ZuI (k:IntKind)(a b:Int):ZB .neq .prim (.int k a) (.int k b)=some (.bool (decide (a≠b))):=by
 simp only [ZB,VZ,JY,Bool.false_eq_true,if_false,if_true]
 by_cases h:a=b <;> simp [h]
theorem ZuH (k:IntKind)(a b:Int):ZB .lss .prim (.int k a) (.int k b)=some (.bool (decide (a < b))):=by simp [ZB,VZ,JY]
theorem ZuG (k:IntKind)(a b:Int):ZB .leq .prim (.int k a) (.int k b)=some (.bool (decide (a≤b))):=by simp [ZB,VZ,JY]
theorem ZuF (k:IntKind)(a b:Int):ZB .gtr .prim (.int k a) (.int k b)=some (.bool (decide (b < a))):=by simp [ZB,VZ,JY]
theorem ZuE (k:IntKind)(a b:Int):ZB .geq .prim (.int k a) (.int k b)=some (.bool (decide (b≤a))):=by simp [ZB,VZ,JY]
theorem ZuQ (a b:List UInt8):ZB .eql .prim (.str a) (.str b)=some (.bool (decide (a=b))):=by
 rw [ZqK,ZcP]; congr 2
 by_cases h:a=b <;> simp [h]
theorem ZuR (a b:List UInt8):ZB .neq .prim (.str a) (.str b)=some (.bool (decide (a≠b))):=by
 rw [ZqK,ZcP]; congr 2
 by_cases h:a=b <;> simp [h]
theorem Zuv (b:Bool):PK .not (.bool b)=some (.bool (!b)):=rfl
theorem Zuu (k:IntKind)(n:Int):PK .neg (.int k n)=some (.int k (k.wrap (0 - n))):=rfl
theorem ZtS (hp:List Zh)(s:List UInt8):Qh hp .str (.str s)=some (.int .i64 s.length):=rfl
theorem ZtL (hp:List Zh)(k:Nat)(r:List (List AV)):Qh hp .slice (.lst k r)=some (.int .i64 r.length):=rfl
theorem Zt1 (hp:List Zh)(k k':IntKind)(n:Int):QL hp (.int k) (.int k' n)=some (.int k (k.wrap n)):=rfl
theorem Zuz (l:List AV)(i:Nat):Tn (.tup l) i=(l[i]?).map AV.ro:=rfl
theorem ZhH (bs:Nat)(ef:Eff):XP bs ef none=ef:=rfl
theorem Zmc (hp0:List Zh)(b:Bool)(hp:List Zh):Zd7 false hp0 (.bool b) hp none=(.bool b,hp0,none):=rfl
theorem ZoS (hp0:List Zh)(k:IntKind)(n:Int)(hp:List Zh):Zd7 false hp0 (.int k n) hp none=(.int k n,hp0,none):=rfl
theorem ZoV (hp0:List Zh)(s:List UInt8)(hp:List Zh):Zd7 false hp0 (.str s) hp none=(.str s,hp0,none):=rfl
theorem ZoT (hp0:List Zh)(k:Nat)(r:List (List AV))(hp:List Zh):Zd7 false hp0 (.lst k r) hp none=(.lst k r,hp0,none):=rfl
theorem ZoU (hp0:List Zh)(k:Nat)(r:List (List AV))(hp:List Zh):Zd7 false hp0 (.own k r) hp none=(.own k r,hp0,none):=rfl
theorem Zmg (bs:Nat)(hp:List Zh)(k:IntKind)(n:Int):ZaS bs hp (.int k n)=some (.int k n):=rfl
theorem Zmi (bs:Nat)(hp:List Zh)(s:List UInt8):ZaS bs hp (.str s)=some (.str s):=rfl
theorem ZjC (bs:Nat)(hp:List Zh)(b:Bool):ZaS bs hp (.bool b)=some (.bool b):=rfl
theorem Zmh (bs:Nat)(hp:List Zh)(k:Nat)(r:List (List AV)):ZaS bs hp (.lst k r)=some (.lst k r):=rfl
theorem XZ (h:List Zh)(x:Zh):(h ++ [x])[h.length]? = some x:=by simp
theorem ZbW (h:List Zh)(x y:Zh):(h ++ [x]).set h.length y=h ++ [y]:=by simp
theorem Zuh (ks:List CK)(k:IntKind)(x y:Int)(l m:List AV):Yk (.int :: ks) (.int k x :: l) (.int k y :: m)=if x=y then Yk ks l m else some false:=by
 by_cases h:x=y
 ·subst h; simp [Yk,Wq]
 ·have:(x == y)=false:=by simpa using h
  simp [Yk,Wq,h,this]
theorem Zuj (ks:List CK)(x y:List UInt8)(l m:List AV):Yk (.str :: ks) (.str x :: l) (.str y :: m)=if x=y then Yk ks l m else some false:=by
 by_cases h:x=y
 ·subst h; simp [Yk,Wq]
 ·have:(x == y)=false:=by simpa using h
  simp [Yk,Wq,h,this]
theorem Zsy (ks:List CK)(x y:Bool)(l m:List AV):Yk (.bool :: ks) (.bool x :: l) (.bool y :: m)=if x=y then Yk ks l m else some false:=by
 cases x <;> cases y <;> simp [Yk,Wq]
theorem Zui:Yk [] [] []=some true:=rfl
theorem ZuP (p:Prop)[Decidable p](b:Bool):(if p then some b else some false)=some (decide p && b):=by by_cases h:p <;> simp [h]
theorem Zts (ks:List CK)(a b:List AV):ZB .eql (.struct ks) (.agg a) (.agg b)=(Yk ks a b).map .bool:=rfl
theorem Ztv (ks:List CK)(a b:List AV):ZB .neq (.struct ks) (.agg a) (.agg b)=(Yk ks a b).map fun b=>.bool (!b):=rfl
theorem Ztr (a b:Bool):ZB .eql .bool (.bool a) (.bool b)=some (.bool (a == b)):=rfl
theorem Ztu (a b:Bool):ZB .neq .bool (.bool a) (.bool b)=some (.bool (!(a == b))):=rfl
def gif (b:Bool)(v:AV):AV:=if b=true then v else .undef
theorem Zt6 (v:AV):gif true v=v:=rfl
theorem Zfl (b:Bool)(v:AV)(hp:List Zh)(ef:Eff)(k:AV→List Zh→Eff→KR):MZ (some b) (some (v,hp,ef)) hp ef k=k (gif b v) hp ef:=by cases b <;> rfl
theorem Zs1 (b:Bool)(v:AV):AV.ro (gif b v)=gif b (AV.ro v):=by cases b <;> rfl
theorem Znk (b c:Bool):Zar (.bool b) (gif b (.bool c)) (.bool false)=some (.bool (b && c)):=by cases b <;> rfl
theorem Znl (b c:Bool):Zar (.bool b) (.bool true) (gif (!b) (.bool c))=some (.bool (b || c)):=by cases b <;> rfl
theorem ZoY (b c:Bool)(hp:List Zh)(ef:Eff)(k:AV→List Zh→Eff→KR):Aw (.bool b) true (some (.bool c,hp,ef)) (some (.bool false)) hp ef k=k (.bool (b && c)) hp ef:=by cases b <;> rfl
theorem Zri (b c:Bool)(hp:List Zh)(ef:Eff)(k:AV→List Zh→Eff→KR):Aw (.bool b) false (some (.bool c,hp,ef)) (some (.bool true)) hp ef k=k (.bool (b || c)) hp ef:=by cases b <;> rfl
theorem Zrk (x:KR)(o:Option AV)(hp:List Zh)(ef:Eff)(k:AV→List Zh→Eff→KR):Aw (.bool true) true x o hp ef k=Ky x k:=rfl
theorem Zrh (x:KR)(v:AV)(hp:List Zh)(ef:Eff)(k:AV→List Zh→Eff→KR):Aw (.bool false) true x (some v) hp ef k=k v hp ef:=rfl
theorem Zrj (x:KR)(v:AV)(hp:List Zh)(ef:Eff)(k:AV→List Zh→Eff→KR):Aw (.bool true) false x (some v) hp ef k=k v hp ef:=rfl
theorem Zrg (x:KR)(o:Option AV)(hp:List Zh)(ef:Eff)(k:AV→List Zh→Eff→KR):Aw (.bool false) false x o hp ef k=Ky x k:=rfl
@[congr] theorem Zq7 {c c':AV}{w:Bool}{x x':KR}{o:Option AV}{hp:List Zh}{ef:Eff}{k:AV→List Zh→Eff→KR}(hc:c=c')(hx:x=x'):Aw c w x o hp ef k=Aw c' w x' o hp ef k:=by rw [hc,hx]
@[congr] theorem ZnR {b b':Bool}{x x':KR}{hp:List Zh}{ef:Eff}{k:AV→List Zh→Eff→KR}(hb:b=b')(hx:b'=true→x=x'):MZ (some b) x hp ef k=MZ (some b') x' hp ef k:=by
 subst hb
 cases b with
 | false=>rfl
 | true=>rw [hx rfl]
@[congr] theorem ZqD {α:Type}{x x':Option α}{k:α→KR}(h:x=x'):Ye x k=Ye x' k:=by rw [h]
@[congr] theorem ZqB {α β:Type}{x x':Option (α×β)}{k:α→β→KR}(h:x=x'):Ec x k=Ec x' k:=by rw [h]
@[congr] theorem ZqC {α β γ:Type}{x x':Option (α×β×γ)}{k:α→β→γ→KR}(h:x=x'):Ky x k=Ky x' k:=by rw [h]
@[congr] theorem ZqA {α:Type}{x x':α}{k:α→KR}(h:x=x'):Zl4 x k=Zl4 x' k:=by rw [h]
@[congr] theorem Zru {x x':AV}{a b:KR}(h:x=x'):ifK x a b=ifK x' a b:=by rw [h]
theorem Zn3 (bs n:Nat)(h:List Zh)(cs:List AV)(t:TypeId)(o:Nat)(v:AV)(ef:Eff)(h1:v.cells.length=n)(h2:o + n≤cs.length)(h3:v.laid=true)(h4:bs≤h.length) :
  stV bs n (.ptr h.length o) v (h ++ [.cells cs t]) ef=some (h ++ [.cells (splice cs o v.cells) t],ef):=by
 simp only [stV,XZ,h1,h2,h3,and_self,if_true,ZbW,SE]
 rw [if_neg (by omega)]
theorem Zm0 (h:List Zh)(cs:List AV)(t:TypeId)(o:Nat):ZN (h ++ [.cells cs t]) (.ptr h.length o)=(cs[o]?).map AV.ro:=by
 simp only [ZN,XZ]
theorem JP {hp:List Zh}{g:Nat}{cs:List AV}{t:TypeId}(h:hp[g]? = some (.cells cs t))(o:Nat):ZN hp (.ptr g o)=(cs[o]?).map AV.ro:=by
 simp only [ZN,h]
theorem Zpj {hp:List Zh}{g:Nat}{cs:List AV}{t:TypeId}(h:hp[g]? = some (.cells cs t))(n o:Nat)(h1:o + n≤cs.length):YA hp n (.ptr g o)=some (.agg (((cs.drop o).take n).map AV.ro)):=by
 simp only [YA,h,h1,if_true]
theorem i64_in {x:Int}(h1:-9223372036854775808≤x)(h2:x≤9223372036854775807):IntKind.i64.wrap x=x:=IntWalk.i64_in x ⟨h1,h2⟩
theorem Zn9 (n:Nat)(h:n < 4611686018427387904):IntKind.i64.wrap ((n:Int) + 1)=((n + 1:Nat):Int):=by rw [i64_in (by omega) (by omega)]; omega
theorem Zpk (hp:List Zh)(n:Nat)(c:List AV)(h:n≤c.length):YA hp n (.ref c)=some (.agg ((c.take n).map AV.ro)):=by simp [YA,h]
theorem Zpl (hp:List Zh)(c:AV)(l:List AV):ZN hp (.ref (c :: l))=some c.ro:=rfl
theorem ZnN (o:Nat)(c:List AV):WE o (.ref c)=some (.ref (c.drop o)):=rfl
theorem ZnM (o g p:Nat):WE o (.ptr g p)=some (.ptr g (p + o)):=rfl
theorem Zo7 (n:Nat)(c:List AV)(h:c.length=n):Zl2 n (.agg c)=some c:=by simp [Zl2,AV.cells,AV.laid,h]
end Go.Proofs.YthkdlifcknpadaaGreat.Abs
end
end
