import Derived.Deep.Quiet
import Derived.Orders
import Derived.LoopN
import Derived.Scope
import Derived.IntWalk
import Derived.Test.YtcfjcimhjmpkiaaGreatDoorHTb0
set_option linter.all false
section
section
namespace Go.Proofs.YtcfjcimhjmpkiaaGreatDoor.Abs
open Go Go.RowKit
section
variable {P:Program}{w:World}
def EntRel (e:AV×AV)(m:MapEntry):Prop:=e.1.flat=true∧e.2.flat1=true∧m.key=e.1.conc∧m.val=e.2.conc1
theorem eqCell_same {c:CK}{a b:AV}(h:eqCell c a b=some true):a.conc1=b.conc1:=by
 cases c <;> cases a <;> cases b <;> simp only [eqCell] at h <;> first | (cases h; done) | skip
 ·split at h
  ·rename_i e
   subst e
   simp only [Option.some.injEq,beq_iff_eq] at h
   rw [h]
  ·cases h
 ·simp only [Option.some.injEq,beq_iff_eq] at h
  rw [h]
 ·simp only [Option.some.injEq,beq_iff_eq] at h
  rw [h]
theorem eqCell_flat {c:CK}{a b:AV}{q:Bool}(h:eqCell c a b=some q):a.flat1=true∧b.flat1=true:=by
 cases c <;> cases a <;> cases b <;> simp only [eqCell] at h <;> first | (cases h; done) | exact ⟨rfl,rfl⟩
theorem flat1_conc {a:AV}(h:a.flat1=true):a.conc=a.conc1:=by cases a <;> first | rfl | (cases h)
theorem keySh_one {kt:TypeId}{c:CK}(hk:keySh P kt=some (.one c)):cKind P kt=some c:=by
 unfold keySh at hk
 split at hk
 ·split at hk
  ·split at hk <;> cases hk
  ·cases hk
 ·obtain ⟨c',h1,h2⟩:=Option.map_eq_some_iff.1 hk
  cases h2; exact h1
theorem keySh_pair {kt:TypeId}{c:CK}(hk:keySh P kt=some (.pair c)):∃ e,P.underlying kt=some (.array 2 e)∧cKind P e=some c∧P.cellsOf e=1:=by
 unfold keySh at hk
 split at hk
 ·rename_i n e hu
  split at hk
  ·rename_i c' hc
   split at hk
   ·rename_i h2
    cases hk
    obtain ⟨hsz,rfl⟩:=h2
    exact ⟨e,hu,hc,hsz⟩
   ·cases hk
  ·cases hk
 ·obtain ⟨_,_,e⟩:=Option.map_eq_some_iff.1 hk; cases e
theorem keyEq_run {kt:TypeId}{sh:KSh}{a b:AV}{q:Bool}(hk:keySh P kt=some sh)(h:keyEq sh a b=some q)(w:World):(Op.equal kt a.conc b.conc).run P w=.ok q w∧(q=true→a.conc=b.conc):=by
 cases sh with
 | one c =>
  have hc:=keySh_one hk
  obtain ⟨f1,f2⟩:=eqCell_flat h
  rw [flat1_conc f1,flat1_conc f2]
  exact ⟨eqCell_run (Γ := fun _=>.imm) (w := w) hc (conc1_rep f1 _ w) (conc1_rep f2 _ w) h 9999 w,fun e=>by subst e; exact eqCell_same h⟩
 | pair c =>
  obtain ⟨e,hu,hc,hsz⟩:=keySh_pair hk
  unfold keyEq at h
  split at h <;> first | (cases h; done) | skip
  ·rename_i e; cases e
  rename_i c' x0 x1 y0 y1 e'
  cases e'
  obtain ⟨g1,g2⟩:=cKind_one hc
  obtain ⟨ie,hie⟩:=info_of_underlying g2
  have hp:∀ (z0 z1:Value) (W:World),(part e #[z0,z1] 0).run P W=.ok z0 W∧(part e #[z0,z1] 1).run P W=.ok z1 W:=fun z0 z1 W=>⟨part_cell g1 g2 rfl W,part_cell g1 g2 rfl W⟩
  have he:∀ {x y:AV} {r:Bool},eqCell c x y=some r→∀ W,(Op.equalIn 9999 e x.conc1 y.conc1).run P W=.ok r W:=fun hr W=>by
   obtain ⟨f1,f2⟩:=eqCell_flat hr
   exact eqCell_run (Γ := fun _=>.imm) (w := W) hc (conc1_rep f1 _ W) (conc1_rep f2 _ W) hr 9998 W
  have hrun:∀ {q0:Bool},eqCell c x0 y0=some q0→∀ q1,(q0=true→eqCell c x1 y1=some q1)→(Op.equal kt (AV.agg [x0,x1]).conc (AV.agg [y0,y1]).conc).run P w=.ok (q0 && q1) w:=by
   intro q0 h0 q1 h1
   have e0:=he h0 w
   have:=run_equalIn_array (P := P) w 9999 (AV.conc1 x0 :: [AV.conc1 x1]).toArray (AV.conc1 y0 :: [AV.conc1 y1]).toArray hu hie
   show (Op.equalIn (9999 + 1) kt (.agg (AV.conc1 x0 :: [AV.conc1 x1]).toArray) (.agg (AV.conc1 y0 :: [AV.conc1 y1]).toArray)).run P w=_
   rw [this,hsz]
   show (Op.eqItems 9999 e 1 #[x0.conc1,x1.conc1] #[y0.conc1,y1.conc1] [0,1]).run P w=_
   simp only [Op.eqItems,Sem.run_bind,Nat.mul_one,(hp _ _ w).1,Result.andThen_ok,e0]
   cases q0 with
   | false=>simp
   | true =>
    have e1:=he (h1 rfl) w
    simp only [Bool.not_true,Bool.false_eq_true,if_false,Sem.run_bind,(hp _ _ w).2,Result.andThen_ok,e1]
    cases q1 <;> simp
  cases h0:eqCell c x0 y0 with
  | none=>rw [h0] at h; cases h
  | some q0 =>
   rw [h0] at h
   cases q0 with
   | false =>
    obtain rfl:=Option.some.inj h
    exact ⟨by simpa using hrun h0 false (fun h=>by cases h),fun h=>by cases h⟩
   | true =>
    have h1:eqCell c x1 y1=some q:=h
    refine ⟨by simpa using hrun h0 q (fun _=>h1),fun e=>?_⟩
    subst e
    simp only [AV.conc,List.map_cons,List.map_nil,eqCell_same h0,eqCell_same h1]
structure Found (sh:KSh)(k:AV)(es:List (AV×AV))(st:Nat)(r:Option AV)(q:Option (Nat×Value)):Prop where
 no:r=none→q=none∧∀ v,update sh k v es=some (es ++ [(k,v)])
 yes:∀ v,r=some v→∃ i k',q=some (st + i,v.conc1)∧v.flat1=true∧es[i]? = some (k',v)∧k.conc=k'.conc∧∀ v2,update sh k v2 es=some (es.set i (k',v2))
theorem Found.here {sh:KSh}{k k' v:AV}{es:List (AV×AV)}{st:Nat}(hq:keyEq sh k k'=some true)(hc:k.conc=k'.conc)(hf:v.flat1=true):Found sh k ((k',v) :: es) st (some v) (some (st,v.conc1)) :=
 ⟨fun e=>(by cases e),fun u e=>by cases e; exact ⟨0,k',rfl,hf,rfl,hc,fun v2=>by simp [update,hq]⟩⟩
theorem Found.later {sh:KSh}{k k' v:AV}{es:List (AV×AV)}{st:Nat}{r:Option AV}{q:Option (Nat×Value)}(hq:keyEq sh k k'=some false)(h:Found sh k es (st + 1) r q):Found sh k ((k',v) :: es) st r q:=by
 refine ⟨fun e=>⟨(h.no e).1,fun v2=>by simp [update,hq,(h.no e).2 v2]⟩,fun u e=>?_⟩
 obtain ⟨i,k2,h1,h2,h3,h4,h5⟩:=h.yes u e
 exact ⟨i + 1,k2,by rw [h1,Nat.add_assoc,Nat.add_comm 1 i],h2,by simpa using h3,h4,fun v2=>by simp [update,hq,h5 v2]⟩
theorem Found.none_ {sh:KSh}{k:AV}{st:Nat}:Found sh k [] st none none:=⟨fun _=>⟨rfl,fun _=>rfl⟩,fun _ e=>by cases e⟩
theorem find_run {kt:TypeId}{sh:KSh}{k:AV}(hk:keySh P kt=some sh)(w:World):∀ {es:List (AV×AV)} {ms:List MapEntry} {r:Option AV} (st:Nat),All2 EntRel es ms→find sh k es=some r →
  ∃ q,(Instr.findAsking kt k.conc ms st).run P w=.ok q w∧Found sh k es st r q
 | _,_,r,st,.nil,h=>by
  obtain rfl:=Option.some.inj h
  exact ⟨none,rfl,.none_⟩
 | _,_,r,st,.cons (x := e) (y := m) (l := es) (m := ms) he hes,h=>by
  obtain ⟨k',v⟩:=e
  simp only [find] at h
  cases hq:keyEq sh k k' with
  | none=>rw [hq] at h; cases h
  | some q =>
   rw [hq] at h
   obtain ⟨e1,e2⟩:=keyEq_run hk hq w
   obtain ⟨r1,r2,r3,r4⟩:=he
   cases q with
   | true =>
    obtain rfl:=Option.some.inj h
    refine ⟨some (st,v.conc1),?_,.here hq (e2 rfl) r2⟩
    simp only [Instr.findAsking,Sem.run_bind,r3,e1,Result.andThen_ok,r4]
    rfl
   | false =>
    obtain ⟨q,h1,h2⟩:=find_run hk w (st + 1) hes h
    refine ⟨q,?_,.later hq h2⟩
    simp only [Instr.findAsking,Sem.run_bind,r3,e1,Result.andThen_ok]
    exact h1
theorem sameNow_one {kt:TypeId}{c:CK}{a b:AV}{q:Bool}{d:TypeDesc}(hc:cKind P kt=some c)(hd:P.underlying kt=some d)(h:eqCell c a b=some q):Instr.sameNow d a.conc1 b.conc1=some q:=by
 unfold cKind at hc
 rw [hd] at hc
 cases d <;> simp only at hc <;> first | (cases hc; done) | skip
 all_goals
  cases hc
  cases a <;> cases b <;> simp only [eqCell] at h <;> first | (cases h; done) | skip
 all_goals first
  | exact h
  | (simp only [AV.conc1,Instr.sameNow]; rw [← h]; congr 1; rw [Bool.eq_iff_iff,beq_toListBytes]; simp)
theorem findNow_run {kt:TypeId}{c:CK}{k:AV}{d:TypeDesc}(hk:keySh P kt=some (.one c))(hd:P.underlying kt=some d):∀ {es:List (AV×AV)} {ms:List MapEntry} {r:Option AV} (st:Nat),All2 EntRel es ms→find (.one c) k es=some r →
  ∃ q,Instr.findNow d k.conc ms st=some q∧Found (.one c) k es st r q
 | _,_,r,st,.nil,h=>by
  obtain rfl:=Option.some.inj h
  exact ⟨none,rfl,.none_⟩
 | _,_,r,st,.cons (x := e) (y := m) (l := es) (m := ms) he hes,h=>by
  obtain ⟨k',v⟩:=e
  simp only [find] at h
  cases hq:keyEq (.one c) k k' with
  | none=>rw [hq] at h; cases h
  | some q =>
   rw [hq] at h
   obtain ⟨r1,r2,r3,r4⟩:=he
   obtain ⟨f1,f2⟩:=eqCell_flat hq
   have hs:=sameNow_one (keySh_one hk) hd hq
   rw [← flat1_conc f1,← flat1_conc f2] at hs
   cases q with
   | true =>
    obtain rfl:=Option.some.inj h
    refine ⟨some (st,v.conc1),?_,.here hq (by rw [flat1_conc f1,flat1_conc f2]; exact eqCell_same hq) r2⟩
    simp only [Instr.findNow,r3,hs,r4]
   | false =>
    obtain ⟨q,h1,h2⟩:=findNow_run hk hd (st + 1) hes h
    refine ⟨q,?_,.later hq h2⟩
    simp only [Instr.findNow,r3,hs]
    exact h1
theorem findKey_run {kt:TypeId}{sh:KSh}{k:AV}(hk:keySh P kt=some sh)(w:World){es:List (AV×AV)}{ms:List MapEntry}{r:Option AV}(he:All2 EntRel es ms)(h:find sh k es=some r) :
  ∃ q,(Instr.findKey kt k.conc ms).run P w=.ok q w∧Found sh k es 0 r q:=by
 cases sh with
 | one c =>
  have hc:=keySh_one hk
  obtain ⟨d,hd⟩:=Option.isSome_iff_exists.1 (cKind_one hc).2
  obtain ⟨q,h1,h2⟩:=findNow_run hk hd 0 he h
  exact ⟨q,Go.MapKept.run_findKey hd h1,h2⟩
 | pair c =>
  obtain ⟨e,hu,_,_⟩:=keySh_pair hk
  obtain ⟨q,h1,h2⟩:=find_run hk w 0 he h
  exact ⟨q,(run_findKey_eq w (by rw [hu]) _ _).trans h1,h2⟩
theorem keyFit_flat {sh:KSh}{k:AV}(h:keyFit sh k=true):k.flat=true:=by
 unfold keyFit at h
 split at h <;> first | rfl | (cases h; done)
theorem checkKey_run {kt:TypeId}{sh:KSh}{k:AV}(hk:keySh P kt=some sh)(h:keyFit sh k=true)(e:Bool)(w:World):(Instr.checkKey e 10000 kt k.conc).run P w=.ok () w:=by
 have plain:∀ {t:TypeId} {c:CK} (n:Nat) (v:Value),cKind P t=some c→(Instr.checkKey e (n + 1) t v).run P w=.ok () w:=fun {t c} n v hc=>by
  unfold cKind at hc
  cases hd:P.underlying t with
  | none=>rw [hd] at hc; cases hc
  | some d =>
   rw [hd] at hc
   cases d <;> simp only at hc <;> first | (cases hc; done) | skip
   all_goals simp [Instr.checkKey,run_underlying hd]
 cases sh with
 | one c=>exact plain 9999 _ (keySh_one hk)
 | pair c =>
  obtain ⟨el,hu,hc,hsz⟩:=keySh_pair hk
  obtain ⟨g1,g2⟩:=cKind_one hc
  obtain ⟨ie,hie⟩:=info_of_underlying g2
  have hp:∀ (z0 z1:Value),(part el #[z0,z1] 0).run P w=.ok z0 w∧(part el #[z0,z1] 1).run P w=.ok z1 w:=fun z0 z1=>⟨part_cell g1 g2 rfl w,part_cell g1 g2 rfl w⟩
  have hs:=sizeOf_run hie w
  rw [hsz] at hs
  have key:∀ x0 x1:AV,(Instr.checkKey e (9999 + 1) kt (AV.agg [x0,x1]).conc).run P w=.ok () w:=fun x0 x1=>by
   have p1:=plain 9998 x0.conc1 hc
   have p2:=plain 9998 x1.conc1 hc
   simp only [AV.conc,List.map_cons,List.map_nil]
   unfold Instr.checkKey
   simp only [Sem.run_bind,run_underlying hu,Result.andThen_ok]
   simp only [Std.Legacy.Range.forIn_eq_forIn_range',Std.Legacy.Range.size,Nat.sub_zero,Nat.add_one_sub_one,Nat.div_one]
   simp only [List.range'_succ,List.range'_zero,List.forIn_cons,List.forIn_nil,Sem.run_bind,hs,Result.andThen_ok,Nat.zero_mul,Nat.zero_add,Nat.mul_one,(hp _ _).1,(hp _ _).2,p1,p2,Sem.run_pure]
  unfold keyFit at h
  split at h <;> first | (cases h; done) | skip
  all_goals first | exact key _ _ | (rename_i e; cases e; done) | (rename_i e _; cases e; done) | (rename_i e _ _; cases e; done) | (rename_i e _ _ _; cases e; done)
end
end Go.Proofs.YtcfjcimhjmpkiaaGreatDoor.Abs
end
section
namespace Go.Proofs.YtcfjcimhjmpkiaaGreatDoor.Abs
open Go Go.RowKit
section
variable {P:Program}{G:Nat→Option (List AV)}{E:Entry}{s:AState}{Γ:Ghost}{a:Act}{w:World}{o:Oper}
theorem concE_of_rep {v:AV}{cv:Value}(h:Rep Γ w v cv)(hf:v.flatE=true):cv=v.concE:=by
 cases h with
 | agg cells cv hs h1 hn hr =>
  simp only [AV.flatE,List.all_eq_true] at hf
  simp only [AV.concE,Value.agg.injEq]
  apply Array.ext'
  apply List.ext_getElem?
  intro j
  simp only [List.getElem?_map,Array.getElem?_toList]
  by_cases hj:j < cells.length
  ·have hc:=List.getElem?_eq_getElem hj
   have:=(hr j _ hc).conc1 (hf _ (List.getElem_mem hj))
   rw [hc,Option.map_some,← this]
   exact getD_of_lt (by omega)
  ·rw [List.getElem?_eq_none (by omega),Array.getElem?_eq_none (by omega)]; rfl
 | fn f fst caps fv cv hs1 hr1 hs hr=>exact Rep.conc1 (Rep.fn f fst caps fv cv hs1 hr1 hs hr) hf
 | undef=>rfl
 | bool=>rfl
 | int=>rfl
 | str=>rfl
 | nilp=>rfl
 | nilf=>rfl
 | nilm=>rfl
 | nili=>rfl
 | _=>cases hf
theorem conc_of_rep {v:AV}{cv:Value}(h:Rep Γ w v cv)(hf:v.flat=true):cv=v.conc:=by
 cases h with
 | agg cells cv hs h1 hn hr =>
  simp only [AV.flat,List.all_eq_true] at hf
  simp only [AV.conc,Value.agg.injEq]
  apply Array.ext'
  apply List.ext_getElem?
  intro j
  simp only [List.getElem?_map,Array.getElem?_toList]
  by_cases hj:j < cells.length
  ·have hc:=List.getElem?_eq_getElem hj
   have:=(hr j _ hc).conc1 (hf _ (List.getElem_mem hj))
   rw [hc,Option.map_some,← this]
   exact getD_of_lt (by omega)
  ·rw [List.getElem?_eq_none (by omega),Array.getElem?_eq_none (by omega)]; rfl
 | tup vs cv hs hr =>
  simp only [AV.flat,List.all_eq_true] at hf
  simp only [AV.conc,Value.tuple.injEq]
  apply Array.ext'
  apply List.ext_getElem?
  intro j
  simp only [List.getElem?_map,Array.getElem?_toList]
  by_cases hj:j < vs.length
  ·have hc:=List.getElem?_eq_getElem hj
   have:=concE_of_rep (hr j _ hc) (hf _ (List.getElem_mem hj))
   rw [hc,Option.map_some,← this]
   exact getD_of_lt (by omega)
  ·rw [List.getElem?_eq_none (by omega),Array.getElem?_eq_none (by omega)]; rfl
 | fn f fst caps fv cv hs1 hr1 hs hr =>
  exact (Rep.fn f fst caps fv cv hs1 hr1 hs hr).conc1 hf
 | _=>first | rfl | (cases hf; done)
theorem all2_of_obj {es:List (AV×AV)}{ms:Array MapEntry}(hs:ms.size=es.length)(h:∀ (i:Nat) (e:AV×AV),es[i]? = some e→∃ m,ms[i]? = some m∧e.1.flat=true∧e.2.flat1=true∧m.key=e.1.conc∧m.val=e.2.conc1):All2 EntRel es ms.toList:=by
 refine All2.of_get (by simpa using hs.symm) fun j e m he hm=>?_
 obtain ⟨m',h1,h2⟩:=h j e he
 rw [Array.getElem?_toList,h1] at hm
 cases hm
 exact h2
theorem zero_conc {t:TypeId}{z:AV}(hz:zeroOf P t=some z)(hf:z.flat1=true)(w:World):(zeroValue t).run P w=.ok z.conc1 w:=by
 obtain ⟨i,zv,hi,hzv,hrep⟩:=zeroOf_spec hz
 rw [← (hrep (fun _=>.imm) w).1.conc1 hf]
 simp [zeroValue,typeInfo,hi,hzv]
def lookRes (ok:Bool)(z:AV):Option AV→Value
 | some v=>if ok then .tuple #[v.conc1,.bool true] else v.conc1
 | none=>if ok then .tuple #[z.conc1,.bool false] else z.conc1
def lookAV (ok:Bool)(z:AV):Option AV→AV
 | some v=>if ok then AV.tup [v,.bool true] else v
 | none=>if ok then AV.tup [z,.bool false] else z
theorem lookup_run {t kt et:TypeId}{sh:KSh}{k z:AV}{ok:Bool}{b:Nat}{ms:Array MapEntry}{clk:Nat}{es:List (AV×AV)}{r:Option AV}(ht:P.underlying t=some (.map kt et))(hk:keySh P kt=some sh)(hb:w.heap[b]? = some (.map ms clk))(he:All2 EntRel es ms.toList)(hf:find sh k es=some r)
  (hck:∀ emp,(Instr.checkKey emp 10000 kt k.conc).run P w=.ok () w) (hz:(zeroValue et).run P w=.ok z.conc1 w):(Instr.lookup t (.map (some b)) k.conc ok).run P w=.ok (lookRes ok z r) w∧∀ v,r=some v→v.flat1=true:=by
 obtain ⟨q,e1,e2⟩:=findKey_run hk w he hf
 cases r with
 | none =>
  obtain ⟨rfl,_⟩:=e2.no rfl
  refine ⟨?_,fun v e=>by cases e⟩
  simp only [Instr.lookup,Sem.run_bind,run_underlying ht,MapKept.run_getObj_map hb,hck,Result.andThen_ok,e1,hz,Sem.run_pure]
  rfl
 | some v =>
  obtain ⟨j,k',rfl,hv,_⟩:=e2.yes v rfl
  refine ⟨?_,fun v' e=>by cases e; exact hv⟩
  simp only [Instr.lookup,Sem.run_bind,run_underlying ht,MapKept.run_getObj_map hb,hck,Result.andThen_ok,e1,Sem.run_pure]
  rfl
theorem ok_look (hG:GOk G E.W0)(hI:Inv E s Γ a w){t kt et:TypeId}{sh:KSh}{z:AV}{x i:Operand}{x' i':Opnd}{u k v:AV}{ok:Bool}(ho:o.op=.lookup t x i ok)(ht:P.underlying t=some (.map kt et))(hk:keySh P kt=some sh)(hz:zeroOf P et=some z)(hzf:z.flat1=true)
  (hcx:cOpnd P t x=some x') (hci:cOpnd P kt i=some i') (hx:opnd G s.sl x'=some u) (hi:opnd G s.sl i'=some k) (h:lookVal s.hp sh z u k ok=some v):OpOk P E s v a w o:=by
 have k1:=(cOpnd_rep hG hI hcx hx).1
 have k2:=(cOpnd_rep hG hI hci hi).1
 unfold lookVal at h
 split at h
 ·cases h
 rename_i hfit
 have hfit:keyFit sh k=true:=by simpa using hfit
 have hkc:=conc_of_rep k2 (keyFit_flat hfit)
 have hzr:=zero_conc hz hzf w
 have hck:∀ emp,(Instr.checkKey emp 10000 kt k.conc).run P w=.ok () w:=fun emp=>checkKey_run hk hfit emp w
 have fin:∀ (r:Option AV),(∀ v,r=some v→v.flat1=true)→(execOp a.eval o).run P w=.ok (.value (lookRes ok z r)) w →
   lookAV ok z r=v→OpOk P E s v a w o:=by
  intro r hr hrun hv
  have two:∀ (y:AV) (b:Bool),y.flat1=true→Rep Γ w (if ok then AV.tup [y,.bool b] else y) (if ok then Value.tuple #[y.conc1,.bool b] else y.conc1):=fun y b hy=>by
   cases ok with
   | false=>exact conc1_rep hy Γ w
   | true =>
    refine .tup _ #[y.conc1,.bool b] rfl fun j c hj=>?_
    match j with
    | 0=>cases hj; exact conc1_rep hy Γ w
    | 1=>cases hj; exact .bool b
    | j + 2=>simp at hj
  have nown:∀ (y:AV) (b:Bool),y.flat1=true→∀ k r,(if ok then AV.tup [y,.bool b] else y)≠.own k r:=fun y b hy=>by
   cases ok with
   | false=>exact flat1_own hy
   | true=>intro k r e; cases e
  cases r with
  | some y =>
   subst hv
   exact .pure hI hrun (two y true (hr y rfl)) fun k r e=>absurd e (nown y true (hr y rfl) k r)
  | none =>
   subst hv
   exact .pure hI hrun (two z false hzf) fun k r e=>absurd e (nown z false hzf k r)
 generalize hq:a.eval x=q at k1
 have hexec:∀ r,(Instr.lookup t q k.conc ok).run P w=.ok r w→(execOp a.eval o).run P w=.ok (.value r) w:=fun r hr=>by
  simp only [execOp,ho,hq,hkc]
  rw [Sem.run_bind,hr]; rfl
 have some_:∀ {g:Nat} {es:List (AV×AV)} {r:Option AV},s.hp[g]? = some (.map es)→find sh k es=some r→Rep Γ w (.map g) q→lookAV ok z r=v→OpOk P E s v a w o:=by
  intro g es r hg hf hm hv
  cases hm with
  | map _ b hb =>
   obtain ⟨b',ms,clk,h1,h2,h3,h4⟩:=hI.rw.objs g _ hg
   obtain rfl:=hI.rw.inj b b' g hb h1
   obtain ⟨m1,m2⟩:=lookup_run (ok := ok) ht hk h2 (all2_of_obj h3 h4) hf hck hzr
   exact fin r m2 (hexec _ m1) hv
 split at h
 ·rename_i y hy
  split at hy <;> first | (cases hy; done) | skip
  split at hy <;> first | (cases hy; done) | skip
  rename_i hg
  exact some_ hg hy k1 (Option.some.inj h)
 ·rename_i hy
  split at hy <;> first | (cases hy; done) | skip
  ·cases k1
   refine fin none (fun v e=>by cases e) (hexec _ ?_) (Option.some.inj h)
   simp only [Instr.lookup,Sem.run_bind,run_underlying ht,Result.andThen_ok,Sem.run_pure,hck]
   have:(Instr.findKey kt k.conc []).run P w=.ok none w:=by
    obtain ⟨q,e1,e2⟩:=findKey_run (k := k) (r := none) hk w (.nil:All2 EntRel [] []) rfl
    obtain ⟨rfl,_⟩:=e2.no rfl
    exact e1
   simp only [this,Result.andThen_ok,Sem.run_bind,hzr,Sem.run_pure]
   rfl
  ·split at hy <;> first | (cases hy; done) | skip
   rename_i hg
   exact some_ hg hy k1 (Option.some.inj h)
 ·cases h
theorem sameBits_cell {c:CK}{x y:AV}(n:Nat)(h:eqCell c x y=some true):Instr.sameBits n y.conc1 x.conc1=true:=by
 cases c <;> cases x <;> cases y <;> simp only [eqCell] at h <;> first | (cases h; done) | skip
 ·split at h
  ·rename_i e
   subst e
   simp only [Option.some.injEq,beq_iff_eq] at h
   subst h
   simp [AV.conc1,Instr.sameBits]
  ·cases h
 ·simp only [Option.some.injEq,beq_iff_eq] at h
  subst h
  simp [AV.conc1,Instr.sameBits]
 ·simp only [Option.some.injEq,beq_iff_eq] at h
  subst h
  simp [AV.conc1,Instr.sameBits,beq_toListBytes]
theorem sameBits_refl {sh:KSh}{k:AV}(h:keyFit sh k=true):Instr.sameBits 10000 k.conc k.conc=true:=by
 have one:∀ (x:AV),(∃ k n,x=.int k n)∨(∃ b,x=.bool b)∨(∃ s,x=.str s)→∀ n,Instr.sameBits n x.conc1 x.conc1=true:=fun x hx n=>by
  rcases hx with ⟨k,m,rfl⟩ | ⟨b,rfl⟩ | ⟨s,rfl⟩
  ·exact sameBits_cell (c := .int) n (by simp [eqCell])
  ·exact sameBits_cell (c := .bool) n (by simp [eqCell])
  ·exact sameBits_cell (c := .str) n (by simp [eqCell])
 have two:∀ x y:AV,((∃ k n,x=.int k n)∨(∃ b,x=.bool b)∨(∃ s,x=.str s))→((∃ k n,y=.int k n)∨(∃ b,y=.bool b)∨(∃ s,y=.str s))→Instr.sameBits (9999 + 1) (AV.agg [x,y]).conc (AV.agg [x,y]).conc=true:=fun x y hx hy=>by
  simp only [AV.conc,List.map_cons,List.map_nil,Instr.sameBits,List.zip_cons_cons,List.zip_nil_right,List.all_cons,List.all_nil,one x hx 9999,one y hy 9999,beq_self_eq_true,Bool.and_self]
 unfold keyFit at h
 split at h <;> first | (cases h; done) | skip
 ·exact one _ (.inl ⟨_,_,rfl⟩) _
 ·exact one _ (.inr (.inl ⟨_,rfl⟩)) _
 ·exact one _ (.inr (.inr ⟨_,rfl⟩)) _
 ·exact two _ _ (.inl ⟨_,_,rfl⟩) (.inl ⟨_,_,rfl⟩)
 ·exact two _ _ (.inr (.inr ⟨_,rfl⟩)) (.inr (.inr ⟨_,rfl⟩))
theorem ok_mupd (hG:GOk G E.W0)(hI:Inv E s Γ a w){t kt et:TypeId}{sh:KSh}{m k v:Operand}{m' k' v':Opnd}{g:Nat}{ka va:AV}{es es':List (AV×AV)}(ho:o.op=.mapUpdate t m k v)(ht:P.underlying t=some (.map kt et))(hk:keySh P kt=some sh)
  (hcm:cOpnd P t m=some m') (hck:cOpnd P kt k=some k') (hcv:cOpnd P et v=some v') (hm:opnd G s.sl m'=some (.map g)) (hka:opnd G s.sl k'=some ka) (hva:opnd G s.sl v'=some va) (hg:s.hp[g]? = some (.map es)) (hfit:keyFit sh ka=true) (hvf:va.flat1=true)
  (hf:∃ r,find sh ka es=some r) (hu:update sh ka va es=some es'):OpOk P E { s with hp:=s.hp.set g (.map es'),ef := s.note g 0 } .undef a w o:=by
 obtain ⟨r,hf⟩:=hf
 have k1:=(cOpnd_rep hG hI hcm hm).1
 have hkc:=conc_of_rep (cOpnd_rep hG hI hck hka).1 (keyFit_flat hfit)
 have hvc:=(cOpnd_rep hG hI hcv hva).1.conc1 hvf
 generalize hq:a.eval m=q at k1
 cases k1 with
 | map _ b hb =>
  obtain ⟨b',ms,clk,h1,h2,h3,h4⟩:=hI.rw.objs g _ hg
  obtain rfl:=hI.rw.inj b b' g hb h1
  obtain ⟨q,e1,e2⟩:=findKey_run hk w (all2_of_obj h3 h4) hf
  have hlt:=lt_of_some h2
  have step:∀ (ms':Array MapEntry) (clk':Nat),(ms'.size=es'.length∧∀ (i:Nat) (e:AV×AV),es'[i]? = some e→∃ m,ms'[i]? = some m∧e.1.flat=true∧e.2.flat1=true∧m.key=e.1.conc∧m.val=e.2.conc1) →
    Inv E { s with hp:=s.hp.set g (.map es'),ef := s.note g 0 } Γ a { w with heap:=w.heap.setIfInBounds b (.map ms' clk') }:=fun ms' clk' hrel=>by
   have same:∀ b',b'≠b→({ w with heap:=w.heap.setIfInBounds b (.map ms' clk') }:World).heap[b']? = w.heap[b']?:=fun b' hne=>by simp [Ne.symm hne]
   refine hI.update hb ⟨rfl,rfl,rfl,by simp,fun b' _ hne=>⟨rfl,same b' hne⟩,fun b' q y k1 k2=>⟨k1,?_⟩,.refl _⟩ (noted_note s g 0) (by simp) ⟨b,ms',clk',hb,by simp [hlt],hrel.1,hrel.2⟩
   have:b'≠b:=by
    rintro rfl
    unfold Fixed at k1
    rw [hb] at k1
    exact k1
   exact (cell_heap (same b' this)).trans k2
  have hexec:∀ w',(Instr.mapUpdate t (.map (some b)) ka.conc va.conc1).run P w=.ok () w'→(execOp a.eval o).run P w=.ok .skip w':=fun w' hr=>by
   simp only [execOp,ho,hq,hkc,hvc]
   rw [Sem.run_bind,hr]; rfl
  have hchk:=checkKey_run hk hfit false w
  cases r with
  | none =>
   obtain ⟨rfl,hup⟩:=e2.no rfl
   have:=(hup va).symm.trans hu
   obtain rfl:=Option.some.inj this
   refine ⟨Γ,Go.undef,_,.inr ⟨hexec { w with heap:=w.heap.setIfInBounds b (.map (ms.push { key := ka.conc,val := va.conc1,born := clk }) (clk + 1)) } ?_,rfl⟩,step _ _ ⟨by simp [h3],fun i e he=>?_⟩,.undef,.of_ne (by simp)⟩
   ·simp only [Instr.mapUpdate,Sem.run_bind,run_underlying ht,Result.andThen_ok,MapKept.run_getObj_map h2,hchk,e1,MapKept.run_setObj_map _ h2]
   ·rw [List.getElem?_append] at he
    split at he
    ·rename_i hi
     obtain ⟨m,a1,a2⟩:=h4 i e he
     exact ⟨m,by rw [Array.getElem?_push,if_neg (by omega)]; exact a1,a2⟩
    ·rename_i hi
     have hi':i=es.length:=by
      rcases Nat.lt_or_ge (i - es.length) 1 with h' | h'
      ·omega
      ·rw [List.getElem?_eq_none (by simpa using h')] at he; cases he
     subst hi'
     simp only [Nat.sub_self,List.getElem?_cons_zero,Option.some.injEq] at he
     subst he
     exact ⟨_,by rw [Array.getElem?_push,if_pos h3.symm],keyFit_flat hfit,hvf,rfl,rfl⟩
  | some u =>
   obtain ⟨i,k2,rfl,_,hei,hkk,hup⟩:=e2.yes u rfl
   have:=(hup va).symm.trans hu
   obtain rfl:=Option.some.inj this
   obtain ⟨mi,a1,a2,a3,a4,a5⟩:=h4 i _ hei
   have hkeep:(Instr.keyThatStays (((ms[0 + i]?).map (·.key)).getD ka.conc) ka.conc).run P w=.ok ka.conc w:=by
    rw [Nat.zero_add,a1]
    simp only [Option.map_some,Option.getD_some,a4]
    unfold Instr.keyThatStays
    rw [← hkk,if_pos (sameBits_refl hfit)]
    rfl
   refine ⟨Γ,Go.undef,_,.inr ⟨hexec { w with heap:=w.heap.setIfInBounds b (.map (ms.modify (0 + i) fun e=>{ e with key:=ka.conc,val := va.conc1 }) clk) } ?_,rfl⟩,step _ _ ⟨by simp [h3],fun j e he=>?_⟩,.undef,.of_ne (by simp)⟩
   ·simp only [Instr.mapUpdate,Sem.run_bind,run_underlying ht,Result.andThen_ok,MapKept.run_getObj_map h2,hchk,e1,hkeep,MapKept.run_setObj_map _ h2]
   ·rw [Nat.zero_add,Array.getElem?_modify]
    rw [List.getElem?_set] at he
    split at he
    ·rename_i hij
     subst hij
     split at he
     ·obtain rfl:=Option.some.inj he
      refine ⟨{ mi with key:=ka.conc,val := va.conc1 },by rw [if_pos rfl,a1]; rfl,a2,hvf,hkk,rfl⟩
     ·cases he
    ·rename_i hij
     obtain ⟨m,b1,b2⟩:=h4 j e he
     exact ⟨m,by rw [if_neg hij]; exact b1,b2⟩
end
end Go.Proofs.YtcfjcimhjmpkiaaGreatDoor.Abs
end
section
namespace Go.Proofs.YtcfjcimhjmpkiaaGreatDoor.Abs
open Go Go.RowKit
section
variable {P:Program}{G:Nat→Option (List AV)}{E:Entry}{s:AState}{Γ:Ghost}{a:Act}{w:World}{o:Oper}
theorem ok_slicez (hG:GOk G E.W0)(hI:Inv E s Γ a w){t:TypeId}{x:Operand}{lo hi:Option Operand}{x' hi':Opnd}{k:Nat}{u h v:AV}(ho:o.op=.slice t x lo hi none)(hs:cShape P t=some (.slice k))
  (hc:cOpnd P t x=some x') (hcl:cOpt P lo=some none) (hch:cOpt P hi=some (some hi')) (hx:opnd G s.sl x'=some u) (hh:opnd G s.sl hi'=some h) (hv:slicezVal k u h=some v):OpOk P E s v a w o:=by
 have k1:=(cOpnd_rep hG hI hc hx).1
 have b1:OptRep Γ w (lo.map a.eval) none:=cOpt_rep hG hI hcl rfl
 have b2:OptRep Γ w (hi.map a.eval) (some h):=cOpt_rep hG hI hch (by simp only [optOpnd,hh,Option.map_some])
 have hexec:∀ w' r,(Instr.sliceAt t (a.eval x) (lo.map a.eval) (hi.map a.eval) none).run P w'=.ok r w'→(execOp a.eval o).run P w'=.ok (.value r) w':=fun w' r hr=>by
  simp only [execOp,ho]
  simp only [Option.map_none,Sem.run_bind,hr,Result.andThen_ok]
  rfl
 unfold slicezVal at hv
 split at hv <;> first | (cases hv; done) | skip
 rename_i g off len k' ki n
 split at hv <;> first | (cases hv; done) | skip
 rename_i hk
 obtain ⟨rfl,hk1,hk2⟩:=hk
 obtain rfl:=Option.some.inj hv
 obtain ⟨e,ti,hu,hsz,hpos,hinfo⟩:=cShape_slice hs
 generalize hq:a.eval x=q at k1 hexec
 cases k1 with
 | arr _ _ _ _ cap b hb hcap =>
  obtain ⟨c1,c2,c3⟩:=bounds_all (P := P) (isSlice := true) (l := 0) (h := n.toNat) b1 b2 hcap (by simp only [bound]; rw [if_pos ⟨by omega,by omega⟩]) rfl
  have hcl:¬ cap=0:=by omega
  refine OpCalm.ok (.mk' (fun w' _=>hexec w' (.slice (some ⟨b,off,none⟩) n.toNat cap) ?_) (.arrs g off _ k _ _ b hb (by omega) (by omega)) (fun k r e=>by cases e)) hI
  simp only [Instr.sliceAt,Instr.slice,Sem.run_bind,run_underlying hu,Result.andThen_ok,c1,sizeOf_run hinfo,hsz]
  simp only [Sem.run_pure,if_neg hcl,Option.map_some,add_lit,Nat.zero_mul,Nat.add_zero,Nat.sub_zero]
theorem ok_appz (hG:GOk G E.W0)(hI:Inv E s Γ a w){t e:TypeId}{i:TypeInfo}{sl:Nat}{x:Operand}{x':Opnd}{g off len m:Nat}{r:List (List AV)}{cs:List AV}{t':TypeId}{u:AV}
  (ho:o.op=.call { callee := .builtin .append,args := #[.tmp sl,x],argTypes := #[t,t] }) (ht:P.underlying t=some (.slice e)) (hi:P.info? e=some i) (hpos:0 < i.size) (hcx:cOpnd P t x=some x')
  (hd:s.sl[sl]? = some (.arrs g off len i.size m)) (hx:opnd G s.sl x'=some u) (hr:rowsOf s.hp u=some (i.size,r)) (hg:s.hp[g]? = some (.cells cs t')) (hm:len + r.length≤m) (hfit:off + len * i.size + r.length * i.size≤cs.length)
  (hone:(r.flatten.map AV.ro).all AV.one=true) :
  OpOk P E { s with hp:=s.hp.set g (.cells (splice cs (off + len * i.size) (r.flatten.map AV.ro)) t'),ef := s.note g 0 } (.arr g off (len + r.length) i.size) a w o:=by
 have k1:=hI.slots.rep sl _ hd
 obtain ⟨A,cap,ns,hu,_,hrd⟩:=rowsOf_spec hI (cOpnd_rep hG hI hcx hx).1 hr
 generalize hq:a.tmps.getD sl Go.undef=q at k1
 cases k1 with
 | arrs _ _ _ _ _ capd b hb hcap hmc =>
  have hlen:r.flatten.length=r.length * i.size:=flatten_len _ hrd.rowLen
  obtain ⟨w',hst,hI'⟩:=cells_run (P := P) (off := off + len * i.size) (new := r.flatten.map AV.ro) (xs := ns) hI hb hg (by rw [hrd.len,List.length_map,hlen]) (fun j c hj=>by
   rw [List.getElem?_map] at hj
   obtain ⟨c0,hc0,rfl⟩:=Option.map_eq_some_iff.1 hj
   obtain ⟨row,h1,h2⟩:=flatten_at hpos _ j c0 hrd.rowLen hc0
   obtain ⟨y,h3,h4⟩:=hrd.rep _ _ row c0 h1 h2
   rw [show j / i.size * i.size + j % i.size=j by rw [Nat.mul_comm]; exact Nat.div_add_mod j i.size] at h3
   have hget:ns.getD j Go.undef=y:=by rw [List.getD_eq_getElem?_getD,h3]; rfl
   rw [hget]
   exact ⟨List.all_eq_true.1 hone _ (List.mem_map.2 ⟨c0,List.mem_of_getElem? hc0,rfl⟩),h4.ro,.of_ro _ _ _ _ _⟩) (by rw [List.length_map,hlen]; exact hfit) (noted_note s g 0)
  refine ⟨Γ,.slice (some ⟨b,off,none⟩) (len + r.length) capd,w',.inl ?_,hI',.arr g off _ _ capd b hb (by omega),.of_ne (by simp)⟩
  have hf:(Builtin.firstCells i.size r.length (.slice A r.length cap)).run P w=.ok ns.toArray w:=by
   rcases A with _ | ad
   ·have h0:=hrd.nil rfl
    subst h0
    have:ns=[]:=List.eq_nil_of_length_eq_zero (by rw [hrd.len]; simp)
    subst this
    rfl
   ·exact run_firstCells_some (P := P) w i.size r.length ad r.length cap _ (by rw [hrd.len]) (fun j y hj=>hrd.cell ad rfl j y hj)
  have e1:a.eval (.tmp sl)=a.tmps.getD sl Go.undef:=rfl
  simp only [execOp,ho,resolve,invoke,builtin]
  simp only [Sem.run_bind,Sem.run_pure,Result.andThen_ok,List.map_toArray,List.map_cons,List.map_nil,e1,hq,hu]
  simp [Builtin.append_,run_underlying ht,Builtin.lenOf,sizeOf,typeInfo,hi,show len + r.length≤capd by omega,hf,hst,add_lit]
def dropG (g:Nat)(Γ:Ghost):Ghost:=fun b=>match Γ b with
 | .own h=>if h=g then .imm else .own h
 | k=>k
theorem dropG_own {g h b:Nat}(hn:h≠g):dropG g Γ b=.own h↔Γ b=.own h:=by
 unfold dropG
 cases hb:Γ b with
 | imm=>simp
 | own q=>simp only; split <;> rename_i hq <;> simp [hq,Ne.symm hn]
 | list n l=>simp
theorem dropG_not {g b:Nat}:dropG g Γ b≠.own g:=by
 unfold dropG
 cases hb:Γ b with
 | imm=>simp
 | own q=>simp only; split <;> simp_all
 | list n l=>simp
theorem dropG_list {g b n:Nat}{l:Loc}:dropG g Γ b=.list n l↔Γ b=.list n l:=by
 unfold dropG
 cases hb:Γ b with
 | imm=>simp
 | own q=>simp only; split <;> simp
 | list n l=>simp
theorem dropG_imm {g b:Nat}(h:Γ b=.imm):dropG g Γ b=.imm:=by unfold dropG; rw [h]
theorem dropG_fix (g:Nat):FixMono Γ w (dropG g Γ) w:=fun b o v h1 h2=>by
 refine ⟨?_,h2⟩
 unfold Fixed dropG at *
 cases hb:Γ b with
 | imm=>trivial
 | own q=>rw [hb] at h1; exact h1.elim
 | list n l=>rw [hb] at h1; exact h1
theorem nbeq_ne {a b:Nat}(h:(!Nat.beq a b)=true):a≠b:=fun e=>by
 subst e
 rw [Nat.beq_refl] at h; cases h
theorem nbeq_eq {a b:Nat}(h:¬ (!Nat.beq a b)=true):a=b:=by
 refine Nat.eq_of_beq_eq_true ?_
 cases hb:Nat.beq a b with
 | true=>rfl
 | false=>rw [hb] at h; exact absurd rfl h
theorem Rep.drop1 {g:Nat}{x:AV}{v:Value}(h:Rep Γ w x v)(hl:x.lacks1 g=true):Rep (dropG g Γ) w x v:=by
 by_cases hn:x.noId1=true
 ·exact h.noId (dropG_fix g) hn
 ·cases h with
  | undef=>exact .undef
  | arr g' off len k cap b hb hc=>exact .arr g' off len k cap b ((dropG_own (nbeq_ne hl)).2 hb) hc
  | arrs g' off len k m cap b hb hc hm=>exact .arrs g' off len k m cap b ((dropG_own (nbeq_ne hl)).2 hb) hc hm
  | ptr g' off b hb=>exact .ptr g' off b ((dropG_own (nbeq_ne hl)).2 hb)
  | map g' b hb=>exact .map g' b ((dropG_own (nbeq_ne hl)).2 hb)
  | fn f first caps fv cv hs1 hr1 hs hr =>
   simp only [AV.lacks1,AV.noId1] at hl hn
   exact absurd hl hn
  | agg cells cv hs h1 hn hr=>cases hl
  | tup vs cv hs hr=>cases hl
  | _=>exact absurd rfl hn
theorem Rep.drop2 {g:Nat}{x:AV}{v:Value}(h:Rep Γ w x v)(hl:x.lacks2 g=true):Rep (dropG g Γ) w x v:=by
 cases h with
 | fn f first caps fv cv hs1 hr1 hs hr =>
  simp only [AV.lacks2,Bool.and_eq_true,List.all_eq_true] at hl
  exact .fn f first caps fv cv hs1 (fun j c hj=>(hr1 j c hj).drop1 (hl.1 c (List.mem_of_getElem? hj))) hs (fun j c hj=>(hr j c hj).drop1 (hl.2 c (List.mem_of_getElem? hj)))
 | agg cells cv hs h1 hn hr =>
  simp only [AV.lacks2,List.all_eq_true] at hl
  exact .agg cells cv hs h1 hn (fun j c hj=>(hr j c hj).drop1 (hl c (List.mem_of_getElem? hj)))
 | tup vs cv hs hr=>cases hl
 | undef=>exact .undef
 | bool b=>exact .bool b
 | int k n=>exact .int k n
 | str s=>exact .str s
 | nilp=>exact .nilp
 | nilf=>exact .nilf
 | nilm=>exact .nilm
 | nili=>exact .nili
 | nils k=>exact .nils k
 | lstNil k=>exact .lstNil k
 | lstE k A cap=>exact .lstE k A cap
 | lst k rows b o cap cv hlen hk hc hr=>exact Rep.drop1 (.lst k rows b o cap cv hlen hk hc hr) rfl
 | own k rows v h=>exact Rep.drop1 (.own k rows v h) rfl
 | arr g' off len k cap b hb hc=>exact Rep.drop1 (.arr g' off len k cap b hb hc) hl
 | arrs g' off len k m cap b hb hc hm=>exact Rep.drop1 (.arrs g' off len k m cap b hb hc hm) hl
 | ref cells b o cv hc hr=>exact Rep.drop1 (.ref cells b o cv hc hr) rfl
 | ptr g' off b hb=>exact Rep.drop1 (.ptr g' off b hb) hl
 | map g' b hb=>exact Rep.drop1 (.map g' b hb) hl
theorem Rep.drop {g:Nat}{x:AV}{v:Value}(h:Rep Γ w x v)(hl:x.lacks g=true):Rep (dropG g Γ) w x v:=by
 by_cases ht:∃ vs,x=.tup vs
 ·obtain ⟨vs,rfl⟩:=ht
  cases h with
  | tup vs cv hs hr =>
   simp only [AV.lacks,List.all_eq_true] at hl
   exact .tup vs cv hs (fun j c hj=>(hr j c hj).drop2 (hl c (List.mem_of_getElem? hj)))
 ·refine h.drop2 ?_
  cases x <;> first | exact hl | exact absurd ⟨_,rfl⟩ ht
theorem OwnAt.drop {g:Nat}{l:Loc}{x:AV}{v:Value}(h:OwnAt Γ w l x v):OwnAt (dropG g Γ) w l x v:=by
 intro k rows e
 rcases h k rows e with h | ⟨b,cap,e',cur,hv,hg,hh,h1,h2,h3,h4,h5⟩
 ·exact .inl h
 ·exact .inr ⟨b,cap,e',cur,hv,dropG_list.2 hg,hh,h1,h2,h3,h4,fun i j r c a1 a2=>⟨(h5 i j r c a1 a2).1,(h5 i j r c a1 a2).2.noId (dropG_fix g) (h5 i j r c a1 a2).1⟩⟩
theorem thaw_rows (hI:Inv E s Γ a w){g off len k cap b:Nat}{cs:List AV}{t:TypeId}(hg:s.hp[g]? = some (.cells cs t))(hb:Γ b=.own g)(hcap:len≤cap)(hfit:off + len * k≤cs.length)(hid:cs.all AV.noId1=true) :
  Rep (dropG g Γ) w (.lst k (chunk k len ((cs.map AV.ro).drop off))) (.slice (some ⟨b,off,none⟩) len cap):=by
 obtain ⟨b',C,h1,h2,h3,h4⟩:=hI.rw.objs g _ hg
 obtain rfl:=hI.rw.inj b b' g hb h1
 have hlen:(chunk k len ((cs.map AV.ro).drop off)).length=len:=chunk_length ..
 have hrow:∀ (i:Nat) (r:List AV),(chunk k len ((cs.map AV.ro).drop off))[i]? = some r→i < len∧r.length=k∧∀ (j:Nat) (c:AV),r[j]? = some c→j < k∧∃ c0,cs[off + (i * k + j)]? = some c0∧c=c0.ro:=by
  intro i r hi
  have hil:=Zc hi
  rw [chunk_length] at hil
  have he:=chunk_get k len _ i r hi
  have hle:(i + 1) * k≤len * k:=Nat.mul_le_mul_right k hil
  rw [Nat.add_mul,Nat.one_mul] at hle
  refine ⟨hil,by rw [he]; simp; omega,fun j c hj=>?_⟩
  rw [he,List.getElem?_take] at hj
  split at hj
  ·rename_i hjk
   refine ⟨hjk,?_⟩
   rw [List.getElem?_drop,List.getElem?_drop,List.getElem?_map] at hj
   obtain ⟨c0,e1,e2⟩:=Option.map_eq_some_iff.1 hj
   exact ⟨c0,e1,e2.symm⟩
  ·cases hj
 have hb2:dropG g Γ b=.imm:=by unfold dropG; rw [hb]; simp
 have:=Rep.lst (Γ := dropG g Γ) (w := w) k (chunk k len ((cs.map AV.ro).drop off)) b off cap (fun i j=>C.getD (off + (i * k + j)) Go.undef) (by rw [hlen]; exact hcap) (fun r hr=>by
  obtain ⟨i,hi⟩:=List.mem_iff_getElem?.1 hr
  exact (hrow i r hi).2.1) (fun i j r c hi hj=>by
  obtain ⟨_,_,h7⟩:=hrow i r hi
  obtain ⟨_,c0,e1,rfl⟩:=h7 j c hj
  refine ⟨?_,?_,?_⟩
  ·rw [cell_of_row w b _ C t (0,0) h2]
   exact getD_of_lt (by rw [h3]; exact Zc e1)
  ·unfold Fixed; rw [hb2]; trivial
  ·rw [noId1_ro]; exact List.all_eq_true.1 hid _ (List.mem_of_getElem? e1)) (fun i j r c hi hj=>by
  obtain ⟨_,_,h7⟩:=hrow i r hi
  obtain ⟨_,c0,e1,rfl⟩:=h7 j c hj
  exact ((h4 _ c0 e1).2.1.noId (dropG_fix g) (List.all_eq_true.1 hid _ (List.mem_of_getElem? e1))).ro)
 rw [hlen] at this
 exact this
theorem thaw_rep (hI:Inv E s Γ a w){g:Nat}{cs:List AV}{t:TypeId}(hg:s.hp[g]? = some (.cells cs t))(hid:cs.all AV.noId1=true){v v':AV}{u:Value}(h:Rep Γ w v u)(ht:thaw g cs v=some v'):Rep (dropG g Γ) w v' u:=by
 unfold thaw at ht
 split at ht
 ·rename_i hl
  obtain rfl:=Option.some.inj ht
  exact h.drop hl
 ·rename_i hl
  split at ht <;> first | (cases ht; done) | skip
  ·rename_i h' off len k
   split at ht <;> first | (cases ht; done) | skip
   rename_i hfit
   obtain rfl:=Option.some.inj ht
   have:h'=g:=nbeq_eq hl
   subst this
   cases h with
   | arr _ _ _ _ cap b hb hcap=>exact thaw_rows hI hg hb hcap hfit hid
  ·rename_i h' off len k m
   split at ht <;> first | (cases ht; done) | skip
   rename_i hfit
   obtain rfl:=Option.some.inj ht
   have:h'=g:=nbeq_eq hl
   subst this
   cases h with
   | arrs _ _ _ _ _ cap b hb hcap hm=>exact thaw_rows hI hg hb hcap hfit hid
theorem thaw_own {g:Nat}{cs:List AV}{v v':AV}(ht:thaw g cs v=some v'):v'=v∨∀ k r,v'≠.own k r:=by
 unfold thaw at ht
 split at ht
 ·exact .inl (Option.some.inj ht).symm
 ·split at ht <;> first | (cases ht; done) | skip
  all_goals
   split at ht <;> first | (cases ht; done) | skip
   obtain rfl:=Option.some.inj ht
   exact .inr fun k r e=>by cases e
theorem thawL_get {g:Nat}{cs:List AV}:∀ {l l':List AV},thawL g cs l=some l'→l'.length=l.length∧∀ (t:Nat) (v':AV),l'[t]? = some v'→∃ v,l[t]? = some v∧thaw g cs v=some v'
 | [],l',h=>by cases h; exact ⟨rfl,fun t v' h=>by simp at h⟩
 | v :: l,l',h=>by
  simp only [thawL] at h
  split at h <;> first | (cases h; done) | skip
  rename_i x r h1 h2
  obtain rfl:=Option.some.inj h
  obtain ⟨k1,k2⟩:=thawL_get h2
  refine ⟨by simp [k1],fun t v' ht=>?_⟩
  cases t with
  | zero=>obtain rfl:=Option.some.inj (by simpa using ht:some x=some v'); exact ⟨v,rfl,h1⟩
  | succ t=>exact k2 t v' (by simpa using ht)
theorem lacksFrom_get {g:Nat}:∀ {n:Nat} {l:List AObj},lacksFrom g n l=true→∀ (i:Nat) (o:AObj),l[i]? = some o→n + i≠g→o.lacks g=true
 | n,[],_,i,o,h,_=>by simp at h
 | n,x :: l,h,i,o,hi,hn=>by
  simp only [lacksFrom,Bool.and_eq_true,Bool.or_eq_true] at h
  cases i with
  | zero =>
   obtain rfl:=Option.some.inj (by simpa using hi:some x=some o)
   rcases h.1 with h1 | h1
   ·exact absurd (Nat.eq_of_beq_eq_true h1) (by simpa using hn)
   ·exact h1
  | succ i=>exact lacksFrom_get h.2 i o (by simpa using hi) (by omega)
theorem Inv.thaw (hI:Inv E s Γ a w){g:Nat}{cs:List AV}{t:TypeId}{sl':List AV}(hg:s.hp[g]? = some (.cells cs t))(hbs:s.bs≤g)(hid:cs.all AV.noId1=true)(hl:lacksFrom g 0 s.hp=true)(hs:thawL g cs s.sl=some sl') :
  Inv E { s with sl:=sl',hp := s.hp.set g .dead } (dropG g Γ) a w:=by
 obtain ⟨k1,k2⟩:=thawL_get hs
 have hglt:=Zc hg
 refine ⟨hI.defers,⟨by rw [hI.slots.size]; exact k1.symm,fun t v ht=>?_,fun t v ht=>?_⟩,⟨fun h o ho=>?_,fun b b' h h1 h2=>?_,fun b hb=>dropG_imm (hI.rw.fresh b hb),fun b h hb=>?_,hI.rw.old,fun b hb=>dropG_imm (hI.rw.oldImm b hb),fun h ho b hb=>?_⟩,⟨hI.fr.os,hI.fr.tape,hI.fr.output,hI.fr.size,hI.fr.fix.trans (dropG_fix g),fun b h hb=>?_,fun b hb hk=>?_⟩,hI.base,hI.base2,by simpa using hI.le,fun b h hb hlt=>?_⟩
 ·obtain ⟨v0,e1,e2⟩:=k2 t v ht
  exact thaw_rep hI hg hid (hI.slots.rep t v0 e1) e2
 ·obtain ⟨v0,e1,e2⟩:=k2 t v ht
  rcases thaw_own e2 with rfl | hn
  ·exact (hI.slots.own t v e1).drop
  ·exact .of_ne hn
 ·have ho':(s.hp.set g .dead)[h]? = some o:=ho
  by_cases hh:h=g
  ·subst hh
   rw [List.getElem?_set_self (by simpa using hglt)] at ho'
   obtain rfl:=Option.some.inj ho'
   trivial
  ·rw [List.getElem?_set_ne (Ne.symm hh)] at ho'
   have hla:=lacksFrom_get hl h o ho' (by simpa using hh)
   have:=hI.rw.objs h o ho'
   cases o with
   | dead=>trivial
   | cells cs' t' =>
    obtain ⟨b,C,h1,h2,h3,h4⟩:=this
    refine ⟨b,C,(dropG_own hh).2 h1,h2,h3,fun i c hc=>?_⟩
    obtain ⟨a1,a2,a3⟩:=h4 i c hc
    exact ⟨a1,a2.drop (List.all_eq_true.1 hla c (List.mem_of_getElem? hc)),a3.drop⟩
   | map es =>
    obtain ⟨b,ms,clk,h1,h2,h3,h4⟩:=this
    exact ⟨b,ms,clk,(dropG_own hh).2 h1,h2,h3,h4⟩
   | iter s pos =>
    obtain ⟨b,h1,h2⟩:=this
    exact ⟨b,(dropG_own hh).2 h1,h2⟩
   | buf l t e m =>
    obtain ⟨b,C,h1,h2,h3⟩:=this
    exact ⟨b,C,(dropG_own hh).2 h1,h2,h3.mono fun b n i hb=>⟨dropG_list.2 hb,rfl⟩⟩
 ·by_cases hh:h=g
  ·subst hh; exact absurd h1 dropG_not
  ·exact hI.rw.inj b b' h ((dropG_own hh).1 h1) ((dropG_own hh).1 h2)
 ·by_cases hh:h=g
  ·subst hh; exact absurd hb dropG_not
  ·have:=hI.rw.lt b h ((dropG_own hh).1 hb)
   simpa using this
 ·have ho':(s.hp.set g .dead)[h]? = some .dead:=ho
  by_cases hh:h=g
  ·subst hh; exact dropG_not hb
  ·rw [List.getElem?_set_ne (Ne.symm hh)] at ho'
   exact hI.rw.dead h ho' b ((dropG_own hh).1 hb)
 ·have h1:=hI.fr.own b h hb
  have h2:=hI.base b h hb
  exact (dropG_own (by omega)).2 h1
 ·obtain ⟨h1,h2⟩:=hI.fr.keep b hb hk
  refine ⟨?_,h2⟩
  rw [← h1]
  unfold dropG
  cases hq:Γ b with
  | imm=>rfl
  | own q =>
   have h3:=hI.base b q (by rw [← h1]; exact hq)
   simp only
   rw [if_neg (by omega)]
  | list n l=>rfl
 ·by_cases hh:h=g
  ·subst hh; exact absurd hb dropG_not
  ·exact hI.back b h ((dropG_own hh).1 hb) hlt
theorem ok_mvz (hI:Inv E s Γ a w){t g off len k:Nat}{cs sl':List AV}{ty:TypeId}(ho:o.op=.move (.tmp t))(ht:s.sl[t]? = some (.arr g off len k))(hg:s.hp[g]? = some (.cells cs ty))(hbs:s.bs≤g)(hfit:off + len * k≤cs.length)(hid:cs.all AV.noId1=true)
  (hl:lacksFrom g 0 s.hp=true) (hs:thawL g cs s.sl=some sl'):OpOk P E { s with sl:=sl',hp := s.hp.set g .dead } (.lst k (chunk k len ((cs.map AV.ro).drop off))) a w o:=by
 have hr:=thaw_rep hI hg hid (hI.slots.rep t _ ht) (v':=.lst k (chunk k len ((cs.map AV.ro).drop off))) (by
  unfold Abs.thaw
  rw [if_neg (show ¬ AV.lacks g (.arr g off len k)=true from fun h=>nbeq_ne h rfl)]
  simp only [if_pos hfit])
 refine ⟨_,a.tmps.getD t Go.undef,w,.inl ?_,hI.thaw hg hbs hid hl hs,hr,.of_ne (by simp)⟩
 simp only [execOp,ho]
 rfl
end
end Go.Proofs.YtcfjcimhjmpkiaaGreatDoor.Abs
end
section
namespace Go.Proofs.YtcfjcimhjmpkiaaGreatDoor.Abs
open Go Go.RowKit
theorem update_find {sh:KSh}{k v:AV}:∀ {es es':List (AV×AV)},update sh k v es=some es'→∃ r,find sh k es=some r
 | [],_,_=>⟨none,rfl⟩
 | (k',v') :: l,es',h=>by
  simp only [update] at h
  simp only [find]
  split at h
  ·exact ⟨_,rfl⟩
  ·obtain ⟨l',h',_⟩:=Option.map_eq_some_iff.1 h
   exact update_find h'
  ·cases h
theorem map_pair {α β:Type}{x:Option α}{s s':β}{v:α}(h:x.map (·,s)=some (v,s')):x=some v∧s'=s:=by
 obtain ⟨y,h1,h2⟩:=Option.map_eq_some_iff.1 h
 cases h2
 exact ⟨h1,rfl⟩
section
variable {P:Program}{G:Nat→Option (List AV)}{call:FuncId→List AV→List AObj→Option (AV×List AObj×Eff)}{E:Entry}{s s':AState}{Γ:Ghost}{a:Act}{w:World}{o:Oper}{hand:Nat→Bool}{draw:Bool}{ao:AOp}{v:AV}
theorem op_move (hG:GOk G E.W0)(hI:Inv E s Γ a w){x:Operand}(hop:o.op=.move x)(hc:cOp P hand draw o=some ao)(h:evalOp G call s ao=some (v,s')):OpFit P E Γ s s' v a w o ao:=by
 simp only [cOp,hop] at hc
 split at hc
 ·rename_i t
  split at hc
  ·obtain rfl:=Option.some.inj hc
   simp only [evalOp] at h
   split at h <;> first | (cases h; done) | skip
   rename_i u hu
   cases h
   exact (ok_take hI (.inl hop) hu).fit
  ·split at hc
   ·obtain rfl:=Option.some.inj hc
    simp only [evalOp] at h
    split at h <;> first | (cases h; done) | skip
    ·rename_i g off len k ht
     split at h <;> first | (cases h; done) | skip
     rename_i cs ty hg
     split at h <;> first | (cases h; done) | skip
     rename_i hk
     obtain ⟨sl',hs,e⟩:=Option.map_eq_some_iff.1 h
     cases e
     exact (ok_mvz hI hop ht hg hk.1 hk.2.1 hk.2.2.1 hk.2.2.2 hs).fit
    ·rename_i u _ hu
     cases h
     have hx:opnd G s.sl (.tmp t)=some u.ro:=by simp only [opnd,hu,Option.map_some]
     exact ((ok_mv (t := 0) hG hI (.inl hop) rfl hx).ok hI).fit
   ·obtain rfl:=Option.some.inj hc
    replace h:=map_pair h; obtain ⟨h,hss⟩:=h
    subst hss
    exact (ok_mv (t := 0) hG hI (.inl hop) rfl h).fit hI
 ·obtain ⟨y,hy,rfl⟩:=Option.map_eq_some_iff.1 hc
  replace h:=map_pair h; obtain ⟨h,hss⟩:=h
  subst hss
  exact (ok_mv hG hI (.inl hop) hy h).fit hI
theorem op_assign (hG:GOk G E.W0)(hI:Inv E s Γ a w){x:Operand}(hop:o.op=.assign x)(hc:cOp P hand draw o=some ao)(h:evalOp G call s ao=some (v,s')):OpFit P E Γ s s' v a w o ao:=by
 simp only [cOp,hop] at hc
 split at hc
 ·rename_i t
  split at hc
  ·obtain rfl:=Option.some.inj hc
   replace h:=map_pair h; obtain ⟨h,hss⟩:=h
   subst hss
   exact (ok_mv (t := 0) hG hI (.inr hop) rfl h).fit hI
  ·obtain rfl:=Option.some.inj hc
   simp only [evalOp] at h
   split at h <;> first | (cases h; done) | skip
   rename_i u hu
   cases h
   exact (ok_take hI (.inr hop) hu).fit
 ·obtain ⟨y,hy,rfl⟩:=Option.map_eq_some_iff.1 hc
  replace h:=map_pair h; obtain ⟨h,hss⟩:=h
  subst hss
  exact (ok_mv hG hI (.inr hop) hy h).fit hI
theorem op_pick (hG:GOk G E.W0)(hI:Inv E s Γ a w){c x y:Operand}(hop:o.op=.pick c x y)(hc:cOp P hand draw o=some ao)(h:evalOp G call s ao=some (v,s')):OpFit P E Γ s s' v a w o ao:=by
 simp only [cOp,hop] at hc
 split at hc <;> first | (cases hc; done) | skip
 rename_i c' x' y' h1 h2 h3
 obtain rfl:=Option.some.inj hc
 simp only [evalOp] at h
 split at h <;> first | (cases h; done) | skip
 ·rename_i hb
  replace h:=map_pair h; obtain ⟨h,hss⟩:=h
  subst hss
  exact (ok_pick (b := true) hG hI hop h1 h2 h3 hb h).fit hI
 ·rename_i hb
  replace h:=map_pair h; obtain ⟨h,hss⟩:=h
  subst hss
  exact (ok_pick (b := false) hG hI hop h1 h2 h3 hb h).fit hI
theorem op_new (hG:GOk G E.W0)(hI:Inv E s Γ a w)(hop:(∃ e,o.op=.alloc e)∨(∃ e x,o.op=.box e x))(hc:cOp P hand draw o=some ao)(h:evalOp G call s ao=some (v,s')):OpFit P E Γ s s' v a w o ao:=by
 rcases hop with ⟨e,hop⟩ | ⟨e,x,hop⟩
 ·simp only [cOp,hop] at hc
  split at hc <;> first | (cases hc; done) | skip
  rename_i z hz
  split at hc <;> first | (cases hc; done) | skip
  rename_i h1
  obtain rfl:=Option.some.inj hc
  simp only [evalOp] at h
  cases h
  exact (ok_mk hI hop hz h1).fit
 ·simp only [cOp,hop] at hc
  obtain ⟨y,hy,rfl⟩:=Option.map_eq_some_iff.1 hc
  simp only [evalOp] at h
  split at h <;> first | (cases h; done) | skip
  rename_i u hu
  split at h <;> first | (cases h; done) | skip
  rename_i hl
  cases h
  exact (ok_box hG hI hop hy hu hl.2).fit
theorem op_build (hG:GOk G E.W0)(hI:Inv E s Γ a w){t:TypeId}{parts:Array (Nat×Operand)}(hop:o.op=.build t parts)(hc:cOp P hand draw o=some ao)(h:evalOp G call s ao=some (v,s')):OpFit P E Γ s s' v a w o ao:=by
 simp only [cOp,hop] at hc
 split at hc <;> first | (cases hc; done) | skip
 rename_i hs
 split at hc <;> first | (cases hc; done) | skip
 rename_i z ps hz hp
 obtain rfl:=Option.some.inj hc
 simp only [evalOp] at h
 split at h <;> first | (cases h; done) | skip
 rename_i vs hv
 obtain ⟨cs,h1,h2⟩:=Option.map_eq_some_iff.1 h
 cases h2
 exact (ok_build hG hI hop hs hz hp hv h1).fit
theorem op_lit (hG:GOk G E.W0)(hI:Inv E s Γ a w){t:TypeId}{len:Nat}{parts:Array (Nat×Operand)}(hop:o.op=.buildSlice t len parts)(hc:cOp P hand draw o=some ao)(h:evalOp G call s ao=some (v,s')):OpFit P E Γ s s' v a w o ao:=by
 simp only [cOp,hop] at hc
 split at hc <;> first | (cases hc; done) | skip
 rename_i e ht
 split at hc <;> first | (cases hc; done) | skip
 rename_i hx
 obtain ⟨h1,h2,h3,h4⟩:=hx
 obtain ⟨ps,hp,rfl⟩:=Option.map_eq_some_iff.1 hc
 by_cases hm:(hand litMark || hand (litMark + 1 + e))=true
 ·simp only [hm,if_true,evalOp] at h ⊢
  split at h <;> first | (cases h; done) | skip
  rename_i vs hv
  split at h <;> first | (cases h; done) | skip
  rename_i hall
  cases h
  exact (ok_lita hG hI hop ht h1 h2 h4 hp hv hall).fit
 ·simp only [if_neg hm,evalOp] at h ⊢
  split at h <;> first | (cases h; done) | skip
  rename_i vs hv
  split at h
  ·rename_i hall
   cases h
   exact (ok_lit hG hI hop ht h1 h2 h3 h4 hp hv hall).fit
  ·split at h <;> first | (cases h; done) | skip
   rename_i hall
   cases h
   exact (ok_lita hG hI hop ht h1 h2 h4 hp hv hall).fit
theorem op_load (hG:GOk G E.W0)(hI:Inv E s Γ a w){t:TypeId}{p:Operand}(hop:o.op=.load t p)(hc:cOp P hand draw o=some ao)(h:evalOp G call s ao=some (v,s')):OpFit P E Γ s s' v a w o ao:=by
 simp only [cOp,hop] at hc
 split at hc <;> first | (cases hc; done) | skip
 rename_i p' hp
 split at hc
 ·rename_i ht
  obtain rfl:=Option.some.inj hc
  simp only [evalOp] at h
  split at h <;> first | (cases h; done) | skip
  rename_i x hx
  replace h:=map_pair h; obtain ⟨h,hss⟩:=h
  subst hss
  exact (ok_lda hG hI hop ht hp hx h).fit hI
 ·rename_i ht
  have ht:isAggB P t=false:=by simpa using ht
  split at hc <;> first | (cases hc; done) | skip
  rename_i hu
  split at hc
  ·obtain rfl:=Option.some.inj hc
   simp only [evalOp] at h
   split at h <;> first | (cases h; done) | skip
   rename_i g q hx
   split at h <;> first | (cases h; done) | skip
   rename_i cs t' hg
   split at h <;> first | (cases h; done) | skip
   rename_i u hv
   cases h
   exact (ok_ldt hG hI hop ht hu hp hx hg hv).fit
  ·obtain rfl:=Option.some.inj hc
   simp only [evalOp] at h
   split at h <;> first | (cases h; done) | skip
   rename_i x hx
   replace h:=map_pair h; obtain ⟨h,hss⟩:=h
   subst hss
   exact (ok_ldc hG hI hop ht hu hp hx h).fit hI
theorem op_store (hG:GOk G E.W0)(hI:Inv E s Γ a w){t:TypeId}{p x:Operand}(hop:o.op=.store t p x)(hc:cOp P hand draw o=some ao)(h:evalOp G call s ao=some (v,s')):OpFit P E Γ s s' v a w o ao:=by
 simp only [cOp,hop] at hc
 split at hc
 ·cases hc
 rename_i hti
 have hi:∃ i,P.info? t=some i:=by
  cases hq:P.info? t with
  | none=>rw [hq] at hti; exact absurd rfl hti
  | some i=>exact ⟨i,rfl⟩
 obtain ⟨i,hi⟩:=hi
 split at hc <;> first | (cases hc; done) | skip
 rename_i p' hp
 have st:∀ {y},cOpnd P t x=some y→evalOp G call s (.st (P.cellsOf t) p' y)=some (v,s')→OpFit P E Γ s s' v a w o (.st (P.cellsOf t) p' y):=by
  intro y hy h
  simp only [evalOp] at h
  split at h <;> first | (cases h; done) | skip
  rename_i g q u hpp hx
  split at h <;> first | (cases h; done) | skip
  ·rename_i cs t' hg
   split at h <;> first | (cases h; done) | skip
   rename_i hn
   cases h
   exact (ok_st hG hI hi hop hp hy hpp hx hg hn).fit
  ·rename_i l t' e0 m hg
   split at h <;> first | (cases h; done) | skip
   rename_i hn
   cases h
   exact (ok_stb hG hI hi hop hp hy hpp hx hg hn).fit
 split at hc
 ·rename_i hag
  simp only [Bool.and_eq_true,Bool.not_eq_true',beq_iff_eq] at hag
  split at hc
  ·rename_i sl hsl
   have hx:x=.tmp sl:=by
    cases x <;> simp only [isTmp] at hsl <;> first | (cases hsl; done) | (cases hsl; rfl)
   subst hx
   obtain rfl:=Option.some.inj hc
   simp only [evalOp] at h
   split at h <;> first | (cases h; done) | skip
   rename_i g q u hpp hx
   split at h <;> first | (cases h; done) | skip
   rename_i cs t' hg
   split at h <;> first | (cases h; done) | skip
   rename_i hn
   cases h
   exact (ok_stt hG hI hi hag.2 hop hp hpp hx hg hn).fit
  ·obtain ⟨y,hy,rfl⟩:=Option.map_eq_some_iff.1 hc
   exact st hy h
 ·obtain ⟨y,hy,rfl⟩:=Option.map_eq_some_iff.1 hc
  exact st hy h
theorem op_plain1 (hG:GOk G E.W0)(hI:Inv E s Γ a w)(hop:(∃ x,o.op=.nilCheck x)∨(∃ op t x y t',o.op=.binOp op t x y t')∨(∃ op t x,o.op=.unOp op t x))(hc:cOp P hand draw o=some ao)(h:evalOp G call s ao=some (v,s')):OpFit P E Γ s s' v a w o ao:=by
 rcases hop with ⟨x,hop⟩ | ⟨op,t,x,y,t',hop⟩ | ⟨op,t,x,hop⟩
 ·simp only [cOp,hop] at hc
  obtain ⟨y,hy,rfl⟩:=Option.map_eq_some_iff.1 hc
  simp only [evalOp] at h
  split at h <;> first | (cases h; done) | skip
  ·rename_i hx; cases h; exact (ok_nilchk hG hI hop hy hx (.inl ⟨_,rfl⟩)).fit hI
  ·rename_i hx; cases h; exact (ok_nilchk hG hI hop hy hx (.inr (.inl ⟨_,_,rfl⟩))).fit hI
  ·rename_i hx; cases h; exact (ok_nilchk hG hI hop hy hx (.inr (.inr ⟨_,_,_,rfl⟩))).fit hI
 ·simp only [cOp,hop] at hc
  split at hc <;> first | (cases hc; done) | skip
  rename_i sh x' y' h1 h2 h3
  obtain rfl:=Option.some.inj hc
  simp only [evalOp] at h
  split at h <;> first | (cases h; done) | skip
  rename_i u u' hx hy
  replace h:=map_pair h; obtain ⟨h,hss⟩:=h
  subst hss
  exact (ok_bin hG hI hop h1 h2 h3 hx hy h).fit hI
 ·simp only [cOp,hop] at hc
  obtain ⟨y,hy,rfl⟩:=Option.map_eq_some_iff.1 hc
  simp only [evalOp] at h
  split at h <;> first | (cases h; done) | skip
  rename_i u hx
  replace h:=map_pair h; obtain ⟨h,hss⟩:=h
  subst hss
  exact (ok_un hG hI hop hy hx h).fit hI
theorem op_convert (hG:GOk G E.W0)(hI:Inv E s Γ a w){src dst:TypeId}{x:Operand}(hop:o.op=.convert src dst x)(hc:cOp P hand draw o=some ao)(h:evalOp G call s ao=some (v,s')):OpFit P E Γ s s' v a w o ao:=by
 simp only [cOp,hop] at hc
 split at hc <;> first | (cases hc; done) | skip
 ·rename_i x' k k' hx' hs hd
  obtain rfl:=Option.some.inj hc
  simp only [evalOp] at h
  split at h <;> first | (cases h; done) | skip
  rename_i u hu
  replace h:=map_pair h; obtain ⟨h,hss⟩:=h
  subst hss
  cases u <;> simp only [convVal] at h <;> first | (cases h; done) | skip
  obtain rfl:=Option.some.inj h
  exact (ok_conv_int hG hI hop hs hd hx' hu).fit
 ·rename_i x' hx' hs hd
  obtain rfl:=Option.some.inj hc
  simp only [evalOp] at h
  split at h <;> first | (cases h; done) | skip
  rename_i u hu
  replace h:=map_pair h; obtain ⟨h,hss⟩:=h
  subst hss
  cases u <;> simp only [convVal] at h <;> first | (cases h; done) | skip
  obtain rfl:=Option.some.inj h
  exact (ok_conv_str hG hI hop hs hd hx' hu).fit
 ·rename_i x' e hx' hs hd
  split at hc <;> first | (cases hc; done) | skip
  rename_i he
  obtain rfl:=Option.some.inj hc
  simp only [evalOp] at h
  split at h <;> first | (cases h; done) | skip
  rename_i u hu
  replace h:=map_pair h; obtain ⟨h,hss⟩:=h
  subst hss
  cases u <;> simp only [convVal] at h <;> first | (cases h; done) | skip
  obtain rfl:=Option.some.inj h
  exact (ok_conv_bytes hG hI hop hs hd he hx' hu).fit
 ·rename_i x' e hx' hs hd
  split at hc <;> first | (cases hc; done) | skip
  rename_i he
  obtain rfl:=Option.some.inj hc
  simp only [evalOp] at h
  split at h <;> first | (cases h; done) | skip
  rename_i u hu
  replace h:=map_pair h; obtain ⟨h,hss⟩:=h
  subst hss
  simp only [convVal] at h
  split at h <;> first | (cases h; done) | skip
  rename_i r hr
  obtain ⟨l,hl,rfl⟩:=Option.map_eq_some_iff.1 h
  exact (ok_conv_ofBytes hG hI hop hs hd he hx' hu hr hl).fit
theorem op_make (hG:GOk G E.W0)(hI:Inv E s Γ a w)(hop:(∃ fn x y,o.op=.makeFunc fn x y)∨(∃ t r,o.op=.makeMap t r)∨(∃ t l c,o.op=.makeSlice t l c))(hc:cOp P hand draw o=some ao)(h:evalOp G call s ao=some (v,s')):OpFit P E Γ s s' v a w o ao:=by
 rcases hop with ⟨fn,x,y,hop⟩ | ⟨t,r,hop⟩ | ⟨t,l,c,hop⟩
 ·cases fn with
  | func f =>
   simp only [cOp,hop] at hc
   split at hc <;> first | (cases hc; done) | skip
   rename_i us vs h1 h2
   obtain rfl:=Option.some.inj hc
   simp only [evalOp] at h
   split at h <;> first | (cases h; done) | skip
   rename_i u1 u2 h3 h4
   cases h
   exact (ok_mkfn hG hI hop h1 h2 h3 h4).fit
  | _=>simp only [cOp,hop] at hc; cases hc
 ·cases r with
  | none =>
   simp only [cOp,hop] at hc
   obtain rfl:=Option.some.inj hc
   simp only [evalOp] at h
   cases h
   exact (ok_mkmap hI hop).fit
  | some r=>simp only [cOp,hop] at hc; cases hc
 ·have fin:∀ {e:TypeId} {z:AV} {i:TypeInfo} {n:Opnd},P.underlying t=some (.slice e)→zeroOf P e=some z→P.info? e=some i→(z.cells.all AV.one=true∧z.cells.length=i.size∧i.bytes≤16384∧0 < i.size) →
    (∀ kd m,opnd G s.sl n=some (.int kd m)→a.eval l=.int kd m∧a.eval c=.int kd m)→evalOp G call s (.mksl e z.cells n)=some (v,s')→OpFit P E Γ s s' v a w o (.mksl e z.cells n):=by
   intro e z i n ht hz hi hx hev h
   simp only [evalOp] at h
   split at h <;> first | (cases h; done) | skip
   rename_i kd m hm
   split at h <;> first | (cases h; done) | skip
   rename_i hb
   cases h
   exact (ok_mksl hI ⟨l,c,hop,(hev kd m hm).1,(hev kd m hm).2⟩ ht hi hz hx.1 hx.2.1 hx.2.2.2 hx.2.2.1 hb.1 hb.2).fit
  have slot:∀ {q:Nat} {kd:IntKind} {m:Int},opnd G s.sl (.tmp q)=some (.int kd m)→a.eval (.tmp q)=.int kd m:=fun {q kd m} hm=>by
   have:=(cOpnd_rep (P := P) (t := 0) (x := .tmp q) (y := .tmp q) hG hI rfl hm).1
   generalize a.eval (.tmp q)=u at this
   cases this; rfl
  cases l <;> cases c <;> simp only [cOp,hop] at hc <;> first | (cases hc; done) | skip
  ·split at hc <;> first | (cases hc; done) | skip
   rename_i hlc
   subst hlc
   split at hc <;> first | (cases hc; done) | skip
   rename_i e ht
   split at hc <;> first | (cases hc; done) | skip
   rename_i z i hz hi
   split at hc <;> first | (cases hc; done) | skip
   rename_i hx
   obtain rfl:=Option.some.inj hc
   exact fin ht hz hi hx (fun kd m hm=>⟨slot hm,slot hm⟩) h
  ·rename_i x y
   cases x <;> cases y <;> simp only at hc <;> first | (cases hc; done) | skip
   split at hc <;> first | (cases hc; done) | skip
   rename_i hlc
   obtain ⟨rfl,rfl⟩:=hlc
   split at hc <;> first | (cases hc; done) | skip
   rename_i e ht
   split at hc <;> first | (cases hc; done) | skip
   rename_i z i hz hi
   split at hc <;> first | (cases hc; done) | skip
   rename_i hx
   obtain rfl:=Option.some.inj hc
   exact fin ht hz hi hx (fun kd m hm=>by cases hm; exact ⟨rfl,rfl⟩) h
theorem op_slice (hG:GOk G E.W0)(hI:Inv E s Γ a w){t:TypeId}{x:Operand}{lo hi mx:Option Operand}(hop:o.op=.slice t x lo hi mx)(hc:cOp P hand draw o=some ao)(h:evalOp G call s ao=some (v,s')):OpFit P E Γ s s' v a w o ao:=by
 cases mx with
 | some m =>
  cases lo with
  | some l=>simp only [cOp,hop] at hc; cases hc
  | none =>
   cases hi with
   | none=>simp only [cOp,hop] at hc; cases hc
   | some hi =>
    simp only [cOp,hop] at hc
    split at hc <;> first | (cases hc; done) | skip
    rename_i sh x' hi' mx' h1 h2 h3 h4
    obtain rfl:=Option.some.inj hc
    simp only [evalOp] at h
    split at h <;> first | (cases h; done) | skip
    rename_i u vh vm k1 k2 k3
    replace h:=map_pair h; obtain ⟨h,hss⟩:=h
    subst hss
    exact (ok_slice3 hG hI hop h1 h2 h3 h4 k1 k2 k3 h).fit hI
 | none =>
  simp only [cOp,hop] at hc
  split at hc <;> first | (cases hc; done) | skip
  rename_i sh x' lo' hi' h1 h2 h3 h4
  split at hc
  ·split at hc <;> first | (cases hc; done) | skip
   rename_i k hi'
   obtain rfl:=Option.some.inj hc
   simp only [evalOp] at h
   split at h <;> first | (cases h; done) | skip
   rename_i u vh k1 k2
   replace h:=map_pair h; obtain ⟨h,hss⟩:=h
   subst hss
   exact (ok_slicez hG hI hop h1 h2 h3 h4 k1 k2 h).fit
  obtain rfl:=Option.some.inj hc
  simp only [evalOp] at h
  split at h <;> first | (cases h; done) | skip
  rename_i u vl vh k1 k2 k3
  replace h:=map_pair h; obtain ⟨h,hss⟩:=h
  subst hss
  exact (ok_slice hG hI hop h1 h2 h3 h4 k1 k2 k3 h).fit hI
theorem op_addr (hG:GOk G E.W0)(hI:Inv E s Γ a w)(hop:(∃ t x f,o.op=.fieldAddr t x f)∨(∃ t x f,o.op=.field t x f)∨(∃ t x i,o.op=.indexAddr t x i)∨(∃ t x i,o.op=.index t x i))(hc:cOp P hand draw o=some ao)(h:evalOp G call s ao=some (v,s')):OpFit P E Γ s s' v a w o ao:=by
 rcases hop with ⟨t,x,f,hop⟩ | ⟨t,x,f,hop⟩ | ⟨t,x,i,hop⟩ | ⟨t,x,i,hop⟩
 ·simp only [cOp,hop] at hc
  split at hc <;> first | (cases hc; done) | skip
  rename_i off n agg x' h1 h2
  obtain rfl:=Option.some.inj hc
  simp only [evalOp] at h
  split at h <;> first | (cases h; done) | skip
  rename_i u hx
  replace h:=map_pair h; obtain ⟨h,hss⟩:=h
  subst hss
  exact (ok_fa hG hI hop h1 h2 hx h).fit hI
 ·simp only [cOp,hop] at hc
  split at hc <;> first | (cases hc; done) | skip
  rename_i off n agg x' h1 h2
  obtain rfl:=Option.some.inj hc
  simp only [evalOp] at h
  split at h <;> first | (cases h; done) | skip
  rename_i u hx
  replace h:=map_pair h; obtain ⟨h,hss⟩:=h
  subst hss
  exact (ok_fld hG hI hop h1 h2 hx h).fit hI
 ·simp only [cOp,hop] at hc
  split at hc <;> first | (cases hc; done) | skip
  all_goals
   rename_i x' i' h1 h2 h3
   obtain rfl:=Option.some.inj hc
   simp only [evalOp] at h
   split at h <;> first | (cases h; done) | skip
   rename_i u n hx hi
   replace h:=map_pair h; obtain ⟨h,hss⟩:=h
   subst hss
   exact (ok_ia hG hI hop h1 h2 h3 hx hi h).fit hI
 ·simp only [cOp,hop] at hc
  split at hc <;> first | (cases hc; done) | skip
  rename_i x' i' h1 h2 h3
  obtain rfl:=Option.some.inj hc
  simp only [evalOp] at h
  split at h <;> first | (cases h; done) | skip
  rename_i u n hx hi
  replace h:=map_pair h; obtain ⟨h,hss⟩:=h
  subst hss
  exact (ok_idx hG hI hop h1 h2 h3 hx hi h).fit hI
theorem op_map (hG:GOk G E.W0)(hI:Inv E s Γ a w)(hop:(∃ t x i ok,o.op=.lookup t x i ok)∨(∃ t m k x,o.op=.mapUpdate t m k x))(hc:cOp P hand draw o=some ao)(h:evalOp G call s ao=some (v,s')):OpFit P E Γ s s' v a w o ao:=by
 rcases hop with ⟨t,x,i,ok,hop⟩ | ⟨t,m,k,x,hop⟩
 ·simp only [cOp,hop] at hc
  split at hc <;> first | (cases hc; done) | skip
  rename_i kt et ht
  split at hc <;> first | (cases hc; done) | skip
  rename_i sh z x' i' h1 h2 h3 h4
  split at hc <;> first | (cases hc; done) | skip
  rename_i hz
  obtain rfl:=Option.some.inj hc
  simp only [evalOp] at h
  split at h <;> first | (cases h; done) | skip
  rename_i u n hx hi
  replace h:=map_pair h; obtain ⟨h,hss⟩:=h
  subst hss
  exact (ok_look hG hI hop ht h1 h2 hz h3 h4 hx hi h).fit
 ·simp only [cOp,hop] at hc
  split at hc <;> first | (cases hc; done) | skip
  rename_i kt et ht
  split at hc <;> first | (cases hc; done) | skip
  rename_i sh m' k' x' h1 h2 h3 h4
  obtain rfl:=Option.some.inj hc
  simp only [evalOp] at h
  split at h <;> first | (cases h; done) | skip
  rename_i g ka va hm hk hv
  split at h <;> first | (cases h; done) | skip
  rename_i es hg
  split at h <;> first | (cases h; done) | skip
  rename_i hf
  simp only [Bool.and_eq_true] at hf
  split at h <;> first | (cases h; done) | skip
  rename_i es' hu
  cases h
  exact (ok_mupd hG hI hop ht h1 h2 h3 h4 hm hk hv hg hf.1 hf.2 (update_find hu) hu).fit
theorem op_iter (hG:GOk G E.W0)(hI:Inv E s Γ a w)(hop:(∃ t x,o.op=.range t x)∨(∃ x b,o.op=.next x b)∨(∃ x i,o.op=.extract x i))(hc:cOp P hand draw o=some ao)(h:evalOp G call s ao=some (v,s')):OpFit P E Γ s s' v a w o ao:=by
 rcases hop with ⟨t,x,hop⟩ | ⟨x,b,hop⟩ | ⟨x,i,hop⟩
 ·simp only [cOp,hop] at hc
  split at hc <;> first | (cases hc; done) | skip
  rename_i ht
  obtain ⟨x',hx',rfl⟩:=Option.map_eq_some_iff.1 hc
  simp only [evalOp] at h
  split at h <;> first | (cases h; done) | skip
  rename_i l hx
  cases h
  exact (ok_range hG hI hop ht hx' hx).fit
 ·cases b with
  | false=>simp only [cOp,hop] at hc; cases hc
  | true =>
   simp only [cOp,hop] at hc
   obtain ⟨x',hx',rfl⟩:=Option.map_eq_some_iff.1 hc
   simp only [evalOp] at h
   split at h <;> first | (cases h; done) | skip
   rename_i g hx
   split at h <;> first | (cases h; done) | skip
   rename_i l pos hg
   split at h
   ·rename_i hlt
    cases h
    exact (ok_next hG hI hop hx' hx hg hlt).fit
   ·rename_i hlt
    cases h
    exact (ok_next_end hG hI hop hx' hx hg hlt).fit
 ·simp only [cOp,hop] at hc
  obtain ⟨x',hx',rfl⟩:=Option.map_eq_some_iff.1 hc
  simp only [evalOp] at h
  split at h <;> first | (cases h; done) | skip
  rename_i vs hx
  obtain ⟨u,h1,h2⟩:=Option.map_eq_some_iff.1 h
  cases h2
  exact (ok_extract hG hI hop hx' hx h1).fit hI
end
end Go.Proofs.YtcfjcimhjmpkiaaGreatDoor.Abs
end
section
namespace Go.Proofs.YtcfjcimhjmpkiaaGreatDoor.Abs
open Go Go.RowKit
def Went (P:Program)(f:FuncId)(xs:Array Value)(w:World)(R:Value→World→Prop):Prop :=
 (callFunc f xs).run P w=.ok (.enter f xs) w∧Calls P f xs w fun e w''=>∃ v,e=.returned v∧R v w''
theorem Went.mono {P:Program}{f:FuncId}{xs:Array Value}{w:World}{R R':Value→World→Prop}(h:Went P f xs w R)(hr:∀ v w',R v w'→R' v w'):Went P f xs w R' :=
 ⟨h.1,h.2.mono fun _ w'' ⟨v,hv,h⟩=>⟨v,hv,hr v w'' h⟩⟩
structure Tidy (Γ:Ghost)(n:Nat):Prop where
 res:∀ b m,Γ b≠.list m .res
 arg:∀ b m j,Γ b≠.list m (.arg j)
 cell:∀ b m g i,Γ b=.list m (.cell g i)→g < n
def CallSpec (P:Program)(W0:World)(F:FuncId→List AV→List AObj→Option (AV×List AObj×Eff)):Prop :=
 ∀ f args hp v hp' e,F f args hp=some (v,hp',e)→∀ (Γ:Ghost) (w:World) (xs:Array Value),RW W0 Γ w hp→Tidy Γ hp.length→xs.size=args.length →
  (∀ j x,args[j]? = some x→Rep Γ w x (xs.getD j Go.undef)∧OwnAt Γ w (.slot j) x (xs.getD j Go.undef)) →
  Went P f xs w fun cv w'=>∃ Γ',RW W0 Γ' w' hp'∧Rep Γ' w' v cv∧OwnAt Γ' w' .res v cv∧Frame Γ w Γ' w' e∧hp.length≤hp'.length∧∀ b g,Γ' b=.own g→g < hp.length→Γ b=.own g
theorem FixedK.own {o g:Nat}:¬ FixedK o (.own g):=fun h=>h
theorem RW.alike {W0 w:World}{Γ Γ':Ghost}{hp:List AObj}(h:RW W0 Γ w hp)(hf:FixMono Γ w Γ' w)(ho:∀ b g,Γ b=.own g↔Γ' b=.own g)
  (hc:∀ b n g i,g < hp.length→Γ b=.list n (.cell g i)→Γ' b=.list n (.cell g i)) (hi:∀ b,Γ b=.imm→Γ' b=.imm):RW W0 Γ' w hp:=by
 have hom:OwnMono Γ Γ':=fun b g hb=>(ho b g).1 hb
 refine ⟨fun g o hg=>?_,fun b b' g h1 h2=>h.inj b b' g ((ho b g).2 h1) ((ho b' g).2 h2),fun b hb=>hi b (h.fresh b hb),fun b g hb=>h.lt b g ((ho b g).2 hb),h.old,fun b hb=>hi b (h.oldImm b hb),fun g hg b hb=>h.dead g hg b ((ho b g).2 hb)⟩
 have hlt:=Zc hg
 have:=h.objs g o hg
 cases o with
 | dead=>trivial
 | cells cs t =>
  obtain ⟨b,C,h1,h2,h3,h4⟩:=this
  refine ⟨b,C,hom b g h1,h2,h3,fun i c hc'=>?_⟩
  obtain ⟨a1,a2,a3⟩:=h4 i c hc'
  exact ⟨a1,a2.mono hf hom,a3.mono hf hom fun b n hb=>⟨hc b n g i hlt hb,rfl⟩⟩
 | map es =>
  obtain ⟨b,ms,clk,h1,h2,h3,h4⟩:=this
  exact ⟨b,ms,clk,hom b g h1,h2,h3,h4⟩
 | iter s pos =>
  obtain ⟨b,h1,h2⟩:=this
  exact ⟨b,hom b g h1,h2⟩
 | buf _ _ _ _ =>
  obtain ⟨b,C,h1,h2,h3⟩:=this
  exact ⟨b,C,hom b g h1,h2,h3.mono fun b n i hb=>⟨hc b n g i hlt hb,rfl⟩⟩
def seenK (n:Nat):Kind→Kind
 | .list m (.slot _)=>.list m .outer
 | .list m .res=>.list m .outer
 | .list m (.arg j)=>.list m (.slot j)
 | .list m (.cell g i)=>if g < n then .list m (.cell g i) else .imm
 | k=>k
def backK:Kind→Kind→Kind
 | .list m (.slot t),_=>.list m (.slot t)
 | _,.list _ (.slot _)=>.imm
 | _,.list _ (.arg _)=>.imm
 | _,k=>k
theorem seenK_fix {n o:Nat}{k:Kind}(h:FixedK o k):FixedK o (seenK n k):=by
 cases k with
 | imm=>trivial
 | own g=>exact h.elim
 | list m l =>
  cases l <;> simp only [seenK] <;> first | exact h | skip
  split
  ·exact h
  ·trivial
theorem seenK_own {n g:Nat}{k:Kind}:k=.own g↔seenK n k=.own g:=by
 cases k with
 | imm=>simp [seenK]
 | own g=>simp [seenK]
 | list m l =>
  cases l <;> simp only [seenK] <;> try simp
  split <;> simp
theorem seenK_imm {n:Nat}{k:Kind}(h:k=.imm):seenK n k=.imm:=by subst h; rfl
theorem seen_tidy (Γ:Ghost)(n:Nat):Tidy (fun b=>seenK n (Γ b)) n:=by
 refine ⟨fun b m h=>?_,fun b m j h=>?_,fun b m g i h=>?_⟩ <;> revert h <;> cases Γ b with
 | imm=>simp [seenK]
 | own g=>simp [seenK]
 | list m l =>
  cases l <;> simp only [seenK] <;> try simp
  try (split <;> simp <;> try omega)
theorem RW.seen {W0 w:World}{Γ:Ghost}{hp:List AObj}(h:RW W0 Γ w hp):RW W0 (fun b=>seenK hp.length (Γ b)) w hp :=
 h.alike (fun _ _ _ h1 h2=>⟨seenK_fix h1,h2⟩) (fun _ _=>seenK_own) (fun b n g i hl hb=>by simp [hb,seenK,hl]) (fun _=>seenK_imm)
end Go.Proofs.YtcfjcimhjmpkiaaGreatDoor.Abs
end
section
namespace Go.Proofs.YtcfjcimhjmpkiaaGreatDoor.Abs
open Go Go.RowKit
section
variable {P:Program}{G:Nat→Option (List AV)}{E:Entry}{s:AState}{Γ:Ghost}{a:Act}{w:World}
theorem Inv.hand (h:Inv E s Γ a w)(m:Loc)(t:Nat){v:AV}(hv:s.sl[t]? = some v) :
  ∃ Γ',Inv E (s.let_ t) Γ' a w∧Rep Γ' w v (a.tmps.getD t Go.undef)∧OwnAt Γ' w m v (a.tmps.getD t Go.undef)∧FixMono Γ w Γ' w∧OwnMono Γ Γ'∧∀ b n j,Γ b=.list n (.arg j)→Γ' b=.list n (.arg j):=by
 have f1:=relab_fix (Γ := Γ) (w := w) (l := .slot t) (toLoc_fix (l := m))
 have o1:OwnMono Γ (relab Γ (.slot t) (toLoc m)):=relab_own
 refine ⟨relab Γ (.slot t) (toLoc m),⟨h.defers,⟨by simpa [AState.let_] using h.slots.size,fun u x hx=>?_,fun u x hx=>?_⟩,h.rw.relab toLoc_fix toLoc_listF (by simp),h.fr.relab (l := .slot t) toLoc_fix trivial,h.base,h.base2,h.le,fun b g hb=>h.back b g (relab_own_inv toLoc_listF hb)⟩,?_,?_,f1,o1,fun b n j hb=>relab_other hb (by simp)⟩
 ·simp only [AState.let_,List.getElem?_modify] at hx
  obtain ⟨y,hy,e⟩:=Option.map_eq_some_iff.1 hx
  have:=(h.slots.rep u y hy).mono f1 o1
  split at e
  ·subst e; exact this.ro
  ·subst e; exact this
 ·simp only [AState.let_,List.getElem?_modify] at hx
  obtain ⟨y,hy,e⟩:=Option.map_eq_some_iff.1 hx
  split at e
  ·subst e; exact .of_ro _ _ _ _ _
  ·rename_i ne
   subst e
   exact (h.slots.own u y hy).mono f1 o1 fun b n hb=>⟨relab_other hb (by simp; omega),rfl⟩
 ·exact (h.slots.rep t v hv).mono f1 o1
 ·exact (h.slots.own t v hv).mono f1 o1 fun b n hb=>⟨relab_at hb,rfl⟩
theorem args_ok (hG:GOk G E.W0):∀ {args:List (Nat ⊕ Opnd)} {ts:List TypeId} {xs:List Operand} {hand:Nat→Bool} {vs sl:List AV} (k:Nat) {s:AState} {Γ:Ghost},Inv E s Γ a w→cArgs P hand ts xs=some args→argVals G s.sl args=some (vs,sl) →
  ∃ Γ',Inv E { s with sl:=sl } Γ' a w∧FixMono Γ w Γ' w∧OwnMono Γ Γ'∧(∀ b n j,j < k→Γ b=.list n (.arg j)→Γ' b=.list n (.arg j))∧vs.length=xs.length ∧
   ∀ j v,vs[j]? = some v→∃ x,xs[j]? = some x∧Rep Γ' w v (a.eval x)∧OwnAt Γ' w (.arg (k + j)) v (a.eval x):=by
 intro args
 induction args with
 | nil =>
  intro ts xs hand vs sl k s Γ hI hc h
  simp only [argVals,Option.some.injEq,Prod.mk.injEq] at h
  obtain ⟨rfl,rfl⟩:=h
  have:xs=[]:=by
   cases xs with
   | nil=>rfl
   | cons x xs =>
    cases ts with
    | nil=>simp [cArgs] at hc
    | cons t ts =>
     simp only [cArgs] at hc
     split at hc <;> simp at hc
  subst this
  exact ⟨Γ,hI,.refl _ _,.refl _,fun _ _ _ _ h=>h,rfl,fun j v hv=>by simp at hv⟩
 | cons p args ih =>
  intro ts xs hand vs sl k s Γ hI hc h
  cases xs with
  | nil=>cases ts <;> simp [cArgs] at hc
  | cons x xs =>
   cases ts with
   | nil=>simp [cArgs] at hc
   | cons t ts =>
    simp only [cArgs] at hc
    split at hc
    case h_2=>cases hc
    rename_i y l hy hl
    obtain ⟨rfl,rfl⟩:=List.cons.inj (Option.some.inj hc)
    have step:∀ (v:AV) (s1:AState) (Γ1:Ghost) (vs1:List AV),Inv E s1 Γ1 a w→s1.hp=s.hp→s1.ef=s.ef→s1.bs=s.bs→FixMono Γ w Γ1 w→OwnMono Γ Γ1→(∀ b n j,j < k→Γ b=.list n (.arg j)→Γ1 b=.list n (.arg j)) →
      Rep Γ1 w v (a.eval x)→OwnAt Γ1 w (.arg k) v (a.eval x)→argVals G s1.sl l=some (vs1,sl)→vs=v :: vs1 →
      ∃ Γ',Inv E { s with sl:=sl } Γ' a w∧FixMono Γ w Γ' w∧OwnMono Γ Γ'∧(∀ b n j,j < k→Γ b=.list n (.arg j)→Γ' b=.list n (.arg j))∧vs.length=(x :: xs).length ∧
       ∀ j v,vs[j]? = some v→∃ x',(x :: xs)[j]? = some x'∧Rep Γ' w v (a.eval x')∧OwnAt Γ' w (.arg (k + j)) v (a.eval x'):=by
     intro v s1 Γ1 vs1 i1 e1 e2 e3 f1 o1 k1 r1 w1 h1 hvs
     obtain ⟨Γ2,i2,f2,o2,k2,hlen,hall⟩:=ih (k + 1) i1 hl h1
     subst hvs
     refine ⟨Γ2,by rw [← e1,← e2,← e3]; exact i2,f1.trans f2,o1.trans o2,fun b n j hj hb=>k2 b n j (by omega) (k1 b n j hj hb),by simp [hlen],fun j u hu=>?_⟩
     cases j with
     | zero =>
      obtain rfl:=Option.some.inj hu
      exact ⟨x,rfl,r1.mono f2 o2,w1.mono f2 o2 fun b n hb=>⟨k2 b n k (by omega) hb,rfl⟩⟩
     | succ j =>
      obtain ⟨x',hx',hr,ho⟩:=hall j u (by simpa using hu)
      exact ⟨x',by simpa using hx',hr,by rw [show k + (j + 1)=k + 1 + j by omega]; exact ho⟩
    have plain:∀ (q:Opnd),cOpnd P t x=some q∨(∃ i,x=.tmp i∧q=.tmp i)→y=.inr q →
      ∃ Γ',Inv E { s with sl:=sl } Γ' a w∧FixMono Γ w Γ' w∧OwnMono Γ Γ'∧(∀ b n j,j < k→Γ b=.list n (.arg j)→Γ' b=.list n (.arg j))∧vs.length=(x :: xs).length ∧
       ∀ j v,vs[j]? = some v→∃ x',(x :: xs)[j]? = some x'∧Rep Γ' w v (a.eval x')∧OwnAt Γ' w (.arg (k + j)) v (a.eval x'):=by
     intro q hq hp
     subst hp
     have hq:cOpnd P t x=some q:=by
      rcases hq with h | ⟨i,rfl,rfl⟩
      ·exact h
      ·rfl
     simp only [argVals] at h
     split at h
     case h_2=>cases h
     rename_i v hv
     obtain ⟨p1,h1,h2⟩:=Option.map_eq_some_iff.1 h
     obtain ⟨rfl,rfl⟩:=Prod.mk.inj h2
     exact step v s Γ p1.1 hI rfl rfl rfl (.refl _ _) (.refl _) (fun _ _ _ _ h=>h) (cOpnd_rep hG hI hq hv).1 (cOpnd_own hG hI _ hq hv) h1 rfl
    split at hy
    ·rename_i i
     split at hy
     ·obtain rfl:=Option.some.inj hy
      simp only [argVals] at h
      split at h
      case h_2=>cases h
      rename_i v hv
      obtain ⟨p1,h1,h2⟩:=Option.map_eq_some_iff.1 h
      obtain ⟨rfl,rfl⟩:=Prod.mk.inj h2
      obtain ⟨Γ1,i1,r1,w1,f1,o1,k1⟩:=hI.hand (.arg k) i hv
      exact step v (s.let_ i) Γ1 p1.1 i1 rfl rfl rfl f1 o1 (fun b n j _ hb=>k1 b n j hb) r1 w1 h1 rfl
     ·exact plain _ (.inr ⟨i,rfl,rfl⟩) (Option.some.inj hy).symm
    ·obtain ⟨q,hq,rfl⟩:=Option.map_eq_some_iff.1 hy
     exact plain q (.inl hq) rfl
theorem spared_after {s:AState}{e:Eff}{g:Nat}(hg:g < s.bs)(h:Spared (s.after e) g):Spared s.ef g∧Spared e g:=by
 cases e with
 | none=>exact ⟨h,fun _ _ e=>by cases e⟩
 | some p =>
  obtain ⟨x,y⟩:=p
  simp only [AState.after] at h
  split at h
  ·obtain ⟨h1,h2⟩:=spared_or h
   exact ⟨h1,fun _ _ e=>by cases e; exact h2⟩
  ·exact ⟨h,fun _ _ e=>by cases e; omega⟩
theorem Inv.called (hI:Inv E s Γ a w){Γ':Ghost}{w':World}{hp:List AObj}{e:Eff}{v:AV}{cv:Value}(hr:RW E.W0 Γ' w' hp)(hv:Rep Γ' w' v cv)(ho:OwnAt Γ' w' .res v cv)
  (hf:Frame (fun b=>seenK s.hp.length (Γ b)) w Γ' w' e) (hle:s.hp.length≤hp.length∧∀ b g,Γ' b=.own g→g < s.hp.length→seenK s.hp.length (Γ b)=.own g) :
  ∃ Γ'',Inv E { sl := s.sl,hp := hp,ef := s.after e,bs := s.bs } Γ'' a w'∧Rep Γ'' w' v cv∧OwnAt Γ'' w' .res v cv:=by
 have lt:∀ b,Γ b≠.imm→b < w.heap.size:=fun b hb=>by
  rcases Nat.lt_or_ge b w.heap.size with h' | h'
  ·exact h'
  ·exact absurd (hI.rw.fresh b h') hb
 have slot:∀ b m t,Γ b=.list m (.slot t)→Γ' b=.list m .outer∧w'.heap[b]? = w.heap[b]?:=fun b m t hb=>by
  obtain ⟨e1,e2⟩:=hf.keep b (lt b (by rw [hb]; simp)) (by simp only [hb,seenK,Kept])
  exact ⟨by rw [e1]; simp [hb,seenK],e2⟩
 have back:∀ b,(∃ m t,Γ b=.list m (.slot t)∧Γ' b=.list m .outer∧backK (Γ b) (Γ' b)=.list m (.slot t))∨((∀ m t,Γ b≠.list m (.slot t))∧∀ k,(∀ m t,k≠.list m (.slot t))→(∀ m t,k≠.list m (.arg t))→Γ' b=k→backK (Γ b) (Γ' b)=k):=by
  intro b
  cases hb:Γ b with
  | imm=>refine .inr ⟨by simp,fun k h1 h2 h3=>?_⟩; subst h3; cases hg:Γ' b with
   | list m l=>rw [hg] at h1 h2; cases l <;> first | rfl | exact absurd rfl (h1 _ _) | exact absurd rfl (h2 _ _)
   | _=>rfl
  | own g=>refine .inr ⟨by simp,fun k h1 h2 h3=>?_⟩; subst h3; cases hg:Γ' b with
   | list m l=>rw [hg] at h1 h2; cases l <;> first | rfl | exact absurd rfl (h1 _ _) | exact absurd rfl (h2 _ _)
   | _=>rfl
  | list n q =>
   cases q with
   | slot t=>exact .inl ⟨n,t,rfl,(slot b n t hb).1,rfl⟩
   | _ =>
    refine .inr ⟨by simp,fun k h1 h2 h3=>?_⟩; subst h3; cases hg:Γ' b with
    | list m l=>rw [hg] at h1 h2; cases l <;> first | rfl | exact absurd rfl (h1 _ _) | exact absurd rfl (h2 _ _)
    | _=>rfl
 have imm':∀ b,(∀ m t,Γ b≠.list m (.slot t))→(∃ m t,Γ' b=.list m (.slot t))∨(∃ m t,Γ' b=.list m (.arg t))→backK (Γ b) (Γ' b)=.imm:=by
  intro b h h2
  cases hb:Γ b with
  | imm=>rcases h2 with ⟨m,t,e⟩ | ⟨m,t,e⟩ <;> rw [e] <;> rfl
  | own g=>rcases h2 with ⟨m,t,e⟩ | ⟨m,t,e⟩ <;> rw [e] <;> rfl
  | list n q=>cases q with
   | slot t=>exact absurd hb (h n t)
   | _=>rcases h2 with ⟨m,t,e⟩ | ⟨m,t,e⟩ <;> rw [e] <;> rfl
 have f3:FixMono Γ' w' (fun b=>backK (Γ b) (Γ' b)) w':=by
  intro b o v h1 h2
  refine ⟨?_,h2⟩
  unfold Fixed at h1 ⊢
  rcases back b with ⟨m,t,e1,e2,e3⟩ | ⟨h,h'⟩
  ·show FixedK o (backK (Γ b) (Γ' b))
   rw [e3]
   rw [e2] at h1
   exact h1
  ·show FixedK o (backK (Γ b) (Γ' b))
   by_cases hs:(∃ m t,Γ' b=.list m (.slot t))∨(∃ m t,Γ' b=.list m (.arg t))
   ·rw [imm' b h hs]; trivial
   ·rw [h' (Γ' b) (fun m t e=>hs (.inl ⟨m,t,e⟩)) (fun m t e=>hs (.inr ⟨m,t,e⟩)) rfl]; exact h1
 have own':∀ b g,Γ' b=.own g↔backK (Γ b) (Γ' b)=.own g:=by
  intro b g
  rcases back b with ⟨m,t,e1,e2,e3⟩ | ⟨h,h'⟩
  ·rw [e3,e2]; simp
  ·by_cases hs:(∃ m t,Γ' b=.list m (.slot t))∨(∃ m t,Γ' b=.list m (.arg t))
   ·rw [imm' b h hs]
    rcases hs with ⟨m,t,e⟩ | ⟨m,t,e⟩ <;> rw [e] <;> simp
   ·rw [h' (Γ' b) (fun m t e=>hs (.inl ⟨m,t,e⟩)) (fun m t e=>hs (.inr ⟨m,t,e⟩)) rfl]
 have keepL:∀ b k,(∀ m,k≠.list m .outer)→(∀ m t,k≠.list m (.slot t))→(∀ m t,k≠.list m (.arg t))→Γ' b=k→backK (Γ b) (Γ' b)=k:=by
  intro b k h0 h1 h2 hb
  rcases back b with ⟨m,t,e1,e2,e3⟩ | ⟨h,h'⟩
  ·rw [e2] at hb; exact absurd hb.symm (h0 m)
  ·exact h' k h1 h2 hb
 have o3:OwnMono Γ' (fun b=>backK (Γ b) (Γ' b)):=fun b g hb=>(own' b g).1 hb
 have f1:FixMono Γ w (fun b=>seenK s.hp.length (Γ b)) w:=fun _ _ _ h1 h2=>⟨seenK_fix h1,h2⟩
 have o1:OwnMono Γ (fun b=>seenK s.hp.length (Γ b)):=fun b g hb=>seenK_own.1 hb
 have fAll:=(f1.trans hf.fix).trans f3
 have oAll:=(o1.trans hf.own).trans o3
 refine ⟨fun b=>backK (Γ b) (Γ' b),⟨hI.defers,⟨hI.slots.size,fun t x hx=>(hI.slots.rep t x hx).mono fAll oAll,fun t x hx=>(hI.slots.own t x hx).mono fAll oAll fun b n hb=>?_⟩,?_,?_,hI.base,hI.base2,Nat.le_trans hI.le hle.1,fun b g hb hl=>hI.back b g (seenK_own.2 (hle.2 b g ((own' b g).2 hb) (Nat.lt_of_lt_of_le hl hI.le))) hl⟩,hv.mono f3 o3,ho.mono f3 o3 fun b n hb=>⟨keepL b _ (by simp) (by simp) (by simp) hb,rfl⟩⟩
 ·refine ⟨?_,(slot b n t hb).2⟩
  show backK (Γ b) (Γ' b)=_
  rw [hb]; rfl
 ·exact hr.alike f3 own' (fun b n g i _ hb=>keepL b _ (by simp) (by simp) (by simp) hb) (fun b hb=>keepL b _ (by simp) (by simp) (by simp) hb)
 ·refine ⟨hf.os.trans hI.fr.os,hf.tape.trans hI.fr.tape,hf.output.trans hI.fr.output,Nat.le_trans hI.fr.size hf.size,hI.fr.fix.trans fAll,hI.fr.own.trans oAll,fun b hb hk=>?_⟩
  have hb':=Nat.lt_of_lt_of_le hb hI.fr.size
  cases hg:E.Γ0 b with
  | imm =>
   obtain ⟨e1,e2⟩:=hI.fr.keep b hb (by rw [hg]; trivial)
   rw [hg] at e1
   obtain ⟨e3,e4⟩:=hf.keep b hb' (by simp only [e1,seenK,Kept])
   simp only [e1,seenK] at e3
   exact ⟨keepL b _ (by simp) (by simp) (by simp) e3,e4.trans e2⟩
  | own g =>
   rw [hg] at hk
   obtain ⟨s1,s2⟩:=spared_after (hI.base b g hg) hk
   obtain ⟨e1,e2⟩:=hI.fr.keep b hb (by rw [hg]; exact s1)
   rw [hg] at e1
   obtain ⟨e3,e4⟩:=hf.keep b hb' (by simp only [e1,seenK,Kept]; exact s2)
   simp only [e1,seenK] at e3
   exact ⟨keepL b _ (by simp) (by simp) (by simp) e3,e4.trans e2⟩
  | list n m =>
   rw [hg] at hk
   cases m with
   | outer =>
    obtain ⟨e1,e2⟩:=hI.fr.keep b hb (by rw [hg]; trivial)
    rw [hg] at e1
    obtain ⟨e3,e4⟩:=hf.keep b hb' (by simp only [e1,seenK,Kept])
    simp only [e1,seenK] at e3
    refine ⟨?_,e4.trans e2⟩
    show backK (Γ b) (Γ' b)=_
    rw [e1,e3]; rfl
   | cell g i =>
    have hgb:=hI.base2 b n g i hg
    obtain ⟨s1,s2⟩:=spared_after hgb hk
    obtain ⟨e1,e2⟩:=hI.fr.keep b hb (by rw [hg]; exact s1)
    rw [hg] at e1
    have hlt:g < s.hp.length:=Nat.lt_of_lt_of_le hgb hI.le
    obtain ⟨e3,e4⟩:=hf.keep b hb' (by simp only [e1,seenK,if_pos hlt,Kept]; exact s2)
    simp only [e1,seenK,if_pos hlt] at e3
    exact ⟨keepL b _ (by simp) (by simp) (by simp) e3,e4.trans e2⟩
   | slot t=>exact hk.elim
   | res=>exact hk.elim
   | arg j=>exact hk.elim
end
end Go.Proofs.YtcfjcimhjmpkiaaGreatDoor.Abs
end
section
namespace Go.Proofs.YtcfjcimhjmpkiaaGreatDoor.Abs
open Go Go.RowKit
section
variable {P:Program}{G:Nat→Option (List AV)}{call:FuncId→List AV→List AObj→Option (AV×List AObj×Eff)}{E:Entry}{s s':AState}{Γ:Ghost}{a:Act}{w:World}{o:Oper}{hand:Nat→Bool}{draw:Bool}{ao:AOp}{v:AV}
theorem call_eq {c:Call}{b:Callee}{xs:List Operand}{ts:List TypeId}(h0:c.callee=b)(h1:c.args.toList=xs)(h2:c.argTypes.toList=ts):c={ callee := b,args := xs.toArray,argTypes := ts.toArray }:=by
 cases c with
 | mk q xs' ts'=>subst h0 h1 h2; simp
theorem op_builtin (hG:GOk G E.W0)(hI:Inv E s Γ a w){c:Call}(hop:o.op=.call c)(hnv:∀ f,c.callee≠.value f)(hc:cOp P hand draw o=some ao)(h:evalOp G call s ao=some (v,s')):OpFit P E Γ s s' v a w o ao:=by
 simp only [cOp,hop] at hc
 split at hc
 ·rename_i f hf; exact absurd hf (hnv f)
 ·rename_i hf
  split at hc <;> first | (cases hc; done) | skip
  rename_i x t hx ht
  rw [call_eq hf hx ht] at hop
  split at hc <;> first | (cases hc; done) | skip
  all_goals
   rename_i hu
   obtain ⟨x',hx',rfl⟩:=Option.map_eq_some_iff.1 hc
   simp only [evalOp] at h
   split at h <;> first | (cases h; done) | skip
   rename_i u hu'
   replace h:=map_pair h
   obtain ⟨h,hss⟩:=h
   subst hss
  ·exact (ok_len (sh := .str) hG hI hop hu hx' hu' h).fit hI
  ·exact (ok_len (sh := .slice) hG hI hop ⟨_,hu⟩ hx' hu' h).fit hI
  ·exact (ok_len (sh := .map) hG hI hop ⟨_,_,hu⟩ hx' hu' h).fit hI
 ·rename_i hf
  split at hc <;> first | (cases hc; done) | skip
  rename_i q x t u hx ht
  rw [call_eq hf hx ht] at hop
  split at hc <;> first | (cases hc; done) | skip
  rename_i e hu
  split at hc <;> first | (cases hc; done) | skip
  rename_i i z hi hz
  split at hc
  case isFalse =>
   split at hc <;> first | (cases hc; done) | skip
   rename_i hk
   obtain ⟨hk1,hk2,hk3,hk4⟩:=hk
   split at hc <;> first | (cases hc; done) | skip
   rename_i sl x' hx'
   obtain rfl:=Option.some.inj hc
   simp only [evalOp] at h
   split at h <;> first | (cases h; done) | skip
   rename_i k' r l hsl hy
   split at h <;> first | (cases h; done) | skip
   rename_i hh
   obtain ⟨rfl,hb⟩:=hh
   cases h
   exact (ok_apps hG hI hop hu (isStr_of hk4) hi hz (by rw [hk2,hk1]) hk1 hk3 hx' hsl hy hb).fit
  rename_i hk
  obtain ⟨rfl,hk1,hk2,hk3⟩:=hk
  split at hc <;> first | (cases hc; done) | skip
  ·rename_i sl x' hx'
   split at hc
   ·obtain rfl:=Option.some.inj hc
    simp only [evalOp] at h
    split at h <;> first | (cases h; done) | skip
    rename_i g off len k' m y hsl hy
    split at h <;> first | (cases h; done) | skip
    rename_i k'' r' cs ty hr hg
    split at h <;> first | (cases h; done) | skip
    rename_i hh
    obtain ⟨rfl,rfl,h1,h2,h3⟩:=hh
    cases h
    exact (ok_appz hG hI hop hu hi hk1 hx' hsl hy hr hg h1 h2 h3).fit
   obtain rfl:=Option.some.inj hc
   simp only [evalOp] at h
   split at h <;> first | (cases h; done) | skip
   rename_i k' r y hsl hy
   split at h <;> first | (cases h; done) | skip
   rename_i k'' r' hr
   split at h <;> first | (cases h; done) | skip
   rename_i hh
   obtain ⟨rfl,rfl,hid,hb⟩:=hh
   cases h
   exact (ok_app hG hI hop hu hi hz hk2 hk1 hk3 hx' hsl hy hr hid hb).fit
  ·rename_i x' hx'
   obtain rfl:=Option.some.inj hc
   simp only [evalOp] at h
   split at h <;> first | (cases h; done) | skip
   rename_i y hy
   split at h <;> first | (cases h; done) | skip
   rename_i k'' r' hr
   split at h <;> first | (cases h; done) | skip
   rename_i hh
   obtain ⟨rfl,hid,hb⟩:=hh
   cases h
   exact (ok_appn hG hI hop hu hi hz hk2 hk1 hk3 hx' hy hr hid hb).fit
 ·rename_i hf
  split at hc <;> first | (cases hc; done) | skip
  rename_i q x t u hx ht
  rw [call_eq hf hx ht] at hop
  split at hc <;> first | (cases hc; done) | skip
  rename_i e hu
  split at hc <;> first | (cases hc; done) | skip
  rename_i i hi
  split at hc <;> first | (cases hc; done) | skip
  rename_i hk
  obtain ⟨rfl,hk1⟩:=hk
  split at hc <;> first | (cases hc; done) | skip
  rename_i d' x' hd' hx'
  obtain rfl:=Option.some.inj hc
  simp only [evalOp] at h
  split at h <;> first | (cases h; done) | skip
  ·rename_i g off len k'' y hd hy
   split at h <;> first | (cases h; done) | skip
   rename_i k' r cs t' hr hg
   split at h <;> first | (cases h; done) | skip
   rename_i hh
   obtain ⟨rfl,rfl,hfit,hone⟩:=hh
   cases h
   exact (ok_copy hG hI hop hu hi hk1 hd' hx' hd hy hr hg hfit hone).fit
  ·rename_i k'' y hd hy
   split at h <;> first | (cases h; done) | skip
   rename_i k' r hr
   split at h <;> first | (cases h; done) | skip
   rename_i hh
   subst hh
   cases h
   exact (ok_copy0 hG hI hop hu hi hd' hx' hd hy hr).fit
 ·rename_i hf
  split at hc <;> first | (cases hc; done) | skip
  rename_i t l ht
  split at hc <;> first | (cases hc; done) | skip
  obtain ⟨ps,hps,rfl⟩:=Option.map_eq_some_iff.1 hc
  simp only [evalOp] at h
  split at h <;> first | (cases h; done) | skip
  rename_i n vs hv
  obtain ⟨r,hr,e⟩:=Option.map_eq_some_iff.1 h
  cases e
  exact (ok_minmax (isMax := false) hG hI (by rw [hop]; cases c; simp only at hf; subst hf; rfl) hps hv hr).fit
 ·rename_i hf
  split at hc <;> first | (cases hc; done) | skip
  rename_i t l ht
  split at hc <;> first | (cases hc; done) | skip
  obtain ⟨ps,hps,rfl⟩:=Option.map_eq_some_iff.1 hc
  simp only [evalOp] at h
  split at h <;> first | (cases h; done) | skip
  rename_i n vs hv
  obtain ⟨r,hr,e⟩:=Option.map_eq_some_iff.1 h
  cases e
  exact (ok_minmax (isMax := true) hG hI (by rw [hop]; cases c; simp only at hf; subst hf; rfl) hps hv hr).fit
 ·cases hc
theorem op_fit (hG:GOk G E.W0)(hI:Inv E s Γ a w)(hnv:∀ c f,o.op=.call c→c.callee≠.value f)(hc:cOp P hand draw o=some ao)(h:evalOp G call s ao=some (v,s')):OpFit P E Γ s s' v a w o ao:=by
 cases hop:o.op with
 | move x=>exact op_move hG hI hop hc h
 | assign x=>exact op_assign hG hI hop hc h
 | pick c x y=>exact op_pick hG hI hop hc h
 | alloc e=>exact op_new hG hI (.inl ⟨_,hop⟩) hc h
 | box e x=>exact op_new hG hI (.inr ⟨_,_,hop⟩) hc h
 | build t ps=>exact op_build hG hI hop hc h
 | buildSlice t n ps=>exact op_lit hG hI hop hc h
 | load t p=>exact op_load hG hI hop hc h
 | store t p x=>exact op_store hG hI hop hc h
 | nilCheck x=>exact op_plain1 hG hI (.inl ⟨_,hop⟩) hc h
 | binOp op t x y t'=>exact op_plain1 hG hI (.inr (.inl ⟨_,_,_,_,_,hop⟩)) hc h
 | unOp op t x=>exact op_plain1 hG hI (.inr (.inr ⟨_,_,_,hop⟩)) hc h
 | convert src dst x=>exact op_convert hG hI hop hc h
 | makeFunc fn x y=>exact op_make hG hI (.inl ⟨_,_,_,hop⟩) hc h
 | makeMap t r=>exact op_make hG hI (.inr (.inl ⟨_,_,hop⟩)) hc h
 | makeSlice t l c=>exact op_make hG hI (.inr (.inr ⟨_,_,_,hop⟩)) hc h
 | slice t x lo hi mx=>exact op_slice hG hI hop hc h
 | fieldAddr t x f=>exact op_addr hG hI (.inl ⟨_,_,_,hop⟩) hc h
 | field t x f=>exact op_addr hG hI (.inr (.inl ⟨_,_,_,hop⟩)) hc h
 | indexAddr t x i=>exact op_addr hG hI (.inr (.inr (.inl ⟨_,_,_,hop⟩))) hc h
 | index t x i=>exact op_addr hG hI (.inr (.inr (.inr ⟨_,_,_,hop⟩))) hc h
 | lookup t x i ok=>exact op_map hG hI (.inl ⟨_,_,_,_,hop⟩) hc h
 | mapUpdate t m k x=>exact op_map hG hI (.inr ⟨_,_,_,_,hop⟩) hc h
 | range t x=>exact op_iter hG hI (.inl ⟨_,_,hop⟩) hc h
 | next x b=>exact op_iter hG hI (.inr (.inl ⟨_,_,hop⟩)) hc h
 | extract x i=>exact op_iter hG hI (.inr (.inr ⟨_,_,hop⟩)) hc h
 | call c=>exact op_builtin hG hI hop (fun f=>hnv c f hop) hc h
 | _=>simp [cOp,hop] at hc
end
end Go.Proofs.YtcfjcimhjmpkiaaGreatDoor.Abs
end
section
namespace Go.Proofs.YtcfjcimhjmpkiaaGreatDoor.Abs
open Go Go.RowKit
section
variable {P:Program}{G:Nat→Option (List AV)}{call:FuncId→List AV→List AObj→Option (AV×List AObj×Eff)}{E:Entry}{s s':AState}{Γ:Ghost}{a:Act}{w:World}{o:Oper}{hand:Nat→Bool}{draw:Bool}{ao:AOp}{v:AV}
theorem nm_not_own {x:AV}{k:Nat}{r:List (List AV)}:x.nm≠.own k r:=by cases x <;> simp [AV.nm]
theorem three {first vs caps:List AV}{fv cv:Array Value}{xs:Array Value}(h1:fv.size=first.length)(h2:xs.size=vs.length)(h3:cv.size=caps.length){R:Nat→AV→Value→Prop}
  (k1:∀ j x,first[j]? = some x→R j x.nm (fv.getD j Go.undef)) (k2:∀ j x,vs[j]? = some x→R (first.length + j) x (xs.getD j Go.undef)) (k3:∀ j x i,caps[j]? = some x→R i x.nm (cv.getD j Go.undef)) :
  ((fv ++ xs) ++ cv).size=(first.map AV.nm ++ vs ++ caps.map AV.nm).length∧∀ j x,(first.map AV.nm ++ vs ++ caps.map AV.nm)[j]? = some x→R j x (((fv ++ xs) ++ cv).getD j Go.undef):=by
 refine ⟨by simp [h1,h2,h3],fun j x hx=>?_⟩
 have hget:∀ i,((fv ++ xs) ++ cv).getD i Go.undef=if i < first.length then fv.getD i Go.undef else if i < first.length + vs.length then xs.getD (i - first.length) Go.undef else cv.getD (i - (first.length + vs.length)) Go.undef:=by
  intro i
  simp only [Array.getD_eq_getD_getElem?,Array.getElem?_append,Array.size_append,h1,h2]
  split
  ·split
   ·rfl
   ·rfl
  ·rename_i hge
   rw [if_neg (by omega)]
 rw [hget]
 by_cases c1:j < first.length
 ·rw [if_pos c1]
  rw [List.append_assoc,List.getElem?_append_left (by simpa using c1),List.getElem?_map] at hx
  obtain ⟨y,hy,rfl⟩:=Option.map_eq_some_iff.1 hx
  exact k1 j y hy
 ·rw [if_neg c1]
  by_cases c2:j < first.length + vs.length
  ·rw [if_pos c2]
   rw [List.append_assoc,List.getElem?_append_right (by simpa using c1),List.getElem?_append_left (by simp; omega)] at hx
   simp only [List.length_map] at hx
   have:=k2 _ x hx
   rwa [show first.length + (j - first.length)=j by omega] at this
  ·rw [if_neg c2]
   rw [List.getElem?_append_right (by simp; omega),List.getElem?_map] at hx
   simp only [List.length_append,List.length_map] at hx
   obtain ⟨y,hy,rfl⟩:=Option.map_eq_some_iff.1 hx
   exact k3 _ y j hy
theorem call_run {c:Call}{f:Operand}(hop:o.op=.call c)(hcal:c.callee=.value f){g:FuncId}{fv cv:Array Value}(hf:a.eval f=.func (.func g) fv cv)(w:World) :
  (execOp a.eval o).run P w=(callFunc g ((fv ++ c.args.map a.eval) ++ cv)).run P w:=by
 simp only [execOp,hop]
 simp only [resolve,hcal,Deferred.ofValue,hf,Sem.run_bind,Sem.run_pure,Result.andThen_ok,invoke]
theorem op_call (hG:GOk G E.W0)(hS:CallSpec P E.W0 call)(hI:Inv E s Γ a w){c:Call}{f:Operand}(hop:o.op=.call c)(hcal:c.callee=.value f)(hc:cOp P hand draw o=some ao)(h:evalOp G call s ao=some (v,s'))
  {K:Act→World→Prop} {Q:Exit→Act→World→Prop} (hK:∀ Γ' cv w',Inv E s' Γ' a w'→Rep Γ' w' v cv→OwnAt Γ' w' .res v cv→K (a.put o.dst cv) w'):o.wp P a w K Q:=by
 simp only [cOp,hop,hcal] at hc
 split at hc <;> first | (cases hc; done) | skip
 rename_i f' args hf hargs
 obtain rfl:=Option.some.inj hc
 simp only [evalOp] at h
 split at h <;> first | (cases h; done) | skip
 rename_i g first caps vs sl hfv hvs
 split at h <;> first | (cases h; done) | skip
 rename_i u hp e hcall
 cases h
 obtain ⟨Γ1,i1,f1,o1,_,hlen,hall⟩:=args_ok hG first.length hI hargs hvs
 have hfn:=((cOpnd_rep hG hI hf hfv).1).mono f1 o1
 generalize hq:a.eval f=q at hfn
 cases hfn with
 | fn _ _ _ fv cv hs1 hr1 hs hr =>
  have f2:FixMono Γ1 w (fun b=>seenK s.hp.length (Γ1 b)) w:=fun _ _ _ h1 h2=>⟨seenK_fix h1,h2⟩
  have o2:OwnMono Γ1 (fun b=>seenK s.hp.length (Γ1 b)):=fun b g hb=>seenK_own.1 hb
  obtain ⟨t1,t2⟩:=three (first := first) (vs := vs) (caps := caps) (fv := fv) (cv := cv) (xs := c.args.map a.eval) hs1 (by simp [hlen]) hs
   (R := fun j x y=>Rep (fun b=>seenK s.hp.length (Γ1 b)) w x y∧OwnAt (fun b=>seenK s.hp.length (Γ1 b)) w (.slot j) x y)
   (fun j x hx=>⟨((hr1 j x hx).mono f2 o2).nm,.of_ne fun _ _=>nm_not_own⟩)
   (fun j x hx=>by
    obtain ⟨y,hy,hr,ho⟩:=hall j x hx
    have:(c.args.map a.eval).getD j Go.undef=a.eval y:=by
     rw [Array.getElem?_toList] at hy
     rw [Array.getD_eq_getD_getElem?,Array.getElem?_map,hy]; rfl
    rw [this]
    exact ⟨hr.mono f2 o2,ho.mono f2 o2 fun b n hb=>⟨by simp [hb,seenK],rfl⟩⟩)
   (fun j x i hx=>⟨((hr j x hx).mono f2 o2).nm,.of_ne fun _ _=>nm_not_own⟩)
  have hw:=hS g _ _ _ _ _ hcall _ w _ i1.rw.seen (seen_tidy Γ1 _) t1 t2
  unfold Oper.wp
  rw [call_run hop hcal hq]
  have fin:∀ cv w',(∃ Γ',RW E.W0 Γ' w' hp∧Rep Γ' w' v cv∧OwnAt Γ' w' .res v cv∧Frame (fun b=>seenK s.hp.length (Γ1 b)) w Γ' w' e∧s.hp.length≤hp.length∧∀ b g,Γ' b=.own g→g < s.hp.length→seenK s.hp.length (Γ1 b)=.own g)→K (a.put o.dst cv) w':=by
   rintro cv w' ⟨Γ',r1,r2,r3,r4,r5⟩
   obtain ⟨Γ'',j1,j2,j3⟩:=i1.called r1 r2 r3 r4 r5
   exact hK Γ'' cv w' j1 j2 j3
  obtain ⟨hrun,hw⟩:=hw
  rw [hrun,Oper.upon_enter]
  refine hw.mono fun en w'' ⟨cv',hv,hR⟩=>?_
  subst hv
  exact fin cv' w'' hR
theorem op_wp (hG:GOk G E.W0)(hS:CallSpec P E.W0 call)(hI:Inv E s Γ a w)(hc:cOp P hand draw o=some ao)(h:evalOp G call s ao=some (v,s'))
  {K:Act→World→Prop} {Q:Exit→Act→World→Prop} (hK:∀ Γ' cv w',Inv E s' Γ' a w'→Rep Γ' w' v cv→OwnAt Γ' w' .res v cv→K (a.put o.dst cv) w'):o.wp P a w K Q:=by
 by_cases hv:∃ c f,o.op=.call c∧c.callee=.value f
 ·obtain ⟨c,f,h1,h2⟩:=hv
  exact op_call hG hS hI h1 h2 hc h hK
 ·exact (op_fit hG hI (fun c f h1 h2=>hv ⟨c,f,h1,h2⟩) hc h).1.wp hK
structure Behind (W w:World):Prop where
 os:w.os=W.os
 tape:w.tape=W.tape
 output:w.output=W.output
 size:W.heap.size≤w.heap.size
 upon:Upon W w
theorem Behind.inv (hI:Inv E s Γ a w){w':World}(h:Behind w w'):Inv E s Γ a w' :=
 hI.plain (X := fun _=>False) ⟨h.os,h.tape,h.output,h.size,fun b hb _=>⟨rfl,h.upon b hb⟩,fun _ _ _ h1 h2=>⟨h1,h.upon.cell h2⟩,.refl _⟩ (fun _ hx=>hx.elim) (fun _ _ h=>h) (fun b hb=>hI.rw.fresh b (Nat.le_trans h.size hb))
def quietK (n:Nat):Kind→Kind
 | .list m (.cell g i)=>if g < n then .list m (.cell g i) else .imm
 | .list m _=>.list m .outer
 | k=>k
theorem quietK_fix {n o:Nat}{k:Kind}(h:FixedK o k):FixedK o (quietK n k):=by
 cases k with
 | imm=>trivial
 | own g=>exact h.elim
 | list m l =>
  cases l <;> simp only [quietK] <;> first | exact h | skip
  split
  ·exact h
  ·trivial
theorem quietK_own {n g:Nat}{k:Kind}:k=.own g↔quietK n k=.own g:=by
 cases k with
 | imm=>simp [quietK]
 | own g=>simp [quietK]
 | list m l =>
  cases l <;> simp only [quietK] <;> try simp
  split <;> simp
theorem quiet_tidy (Γ:Ghost)(n:Nat):Tidy (fun b=>quietK n (Γ b)) n:=by
 refine ⟨fun b m h=>?_,fun b m j h=>?_,fun b m g i h=>?_⟩ <;> revert h <;> cases Γ b with
 | imm=>simp [quietK]
 | own g=>simp [quietK]
 | list m l =>
  cases l <;> simp only [quietK] <;> try simp
  try (split <;> simp <;> try omega)
theorem quiet_kept (n:Nat)(k:Kind):Kept none (quietK n k):=by
 cases k with
 | imm=>trivial
 | own g=>exact fun _ _ e=>by cases e
 | list m l =>
  cases l <;> simp only [quietK] <;> try trivial
  split
  ·exact fun _ _ e=>by cases e
  ·trivial
theorem RW.quiet {W0 w:World}{Γ:Ghost}{hp:List AObj}(h:RW W0 Γ w hp):RW W0 (fun b=>quietK hp.length (Γ b)) w hp :=
 h.alike (fun _ _ _ h1 h2=>⟨quietK_fix h1,h2⟩) (fun _ _=>quietK_own) (fun b n g i hl hb=>by simp [hb,quietK,hl]) (fun b hb=>by simp [hb,quietK])
theorem args_quiet (hG:GOk G E.W0)(hI:Inv E s Γ a w):∀ {args:List (Nat ⊕ Opnd)} {ts:List TypeId} {xs:List Operand} {hand:Nat→Bool} {vs sl:List AV},cArgs P hand ts xs=some args→noHand (.call (.glob 0) args)=true →
  argVals G s.sl args=some (vs,sl)→sl=s.sl∧vs.length=xs.length∧∀ (j:Nat) (v:AV),vs[j]? = some v→∃ x,xs[j]? = some x∧Rep Γ w v (a.eval x)∧∀ k r,v=.own k r→r=[]∧a.eval x=.slice none 0 0:=by
 intro args
 induction args with
 | nil =>
  intro ts xs hand vs sl hc _ h
  simp only [argVals,Option.some.injEq,Prod.mk.injEq] at h
  obtain ⟨rfl,rfl⟩:=h
  have:xs=[]:=by
   cases xs with
   | nil=>rfl
   | cons x xs =>
    cases ts with
    | nil=>simp [cArgs] at hc
    | cons t ts =>
     simp only [cArgs] at hc
     split at hc <;> simp at hc
  subst this
  exact ⟨rfl,rfl,fun j v hv=>by simp at hv⟩
 | cons p args ih =>
  intro ts xs hand vs sl hc hq h
  cases xs with
  | nil=>cases ts <;> simp [cArgs] at hc
  | cons x xs =>
   cases ts with
   | nil=>simp [cArgs] at hc
   | cons t ts =>
    simp only [cArgs] at hc
    split at hc
    case h_2=>cases hc
    rename_i y l hy hl
    obtain ⟨rfl,rfl⟩:=List.cons.inj (Option.some.inj hc)
    simp only [noHand,List.all_cons,Bool.and_eq_true] at hq
    cases y with
    | inl i=>exact absurd hq.1 (by simp)
    | inr q =>
     have hqx:cOpnd P t x=some q:=by
      split at hy
      ·rename_i i
       split at hy
       ·cases hy
       ·cases hy; rfl
      ·obtain ⟨q',h1,h2⟩:=Option.map_eq_some_iff.1 hy
       cases h2; exact h1
     simp only [argVals] at h
     split at h
     case h_2=>cases h
     rename_i v hv
     obtain ⟨p1,h1,h2⟩:=Option.map_eq_some_iff.1 h
     obtain ⟨rfl,rfl⟩:=Prod.mk.inj h2
     obtain ⟨e1,e2,e3⟩:=ih hl hq.2 h1
     obtain ⟨r1,r2⟩:=cOpnd_rep hG hI hqx hv
     refine ⟨e1,by simp [e2],fun j u hu=>?_⟩
     cases j with
     | zero =>
      obtain rfl:=Option.some.inj hu
      exact ⟨x,rfl,r1,r2⟩
     | succ j =>
      obtain ⟨x',hx',hr⟩:=e3 j u (by simpa using hu)
      exact ⟨x',by simpa using hx',hr⟩
theorem flat1_rep {Γ Γ':Ghost}{w w':World}{v:AV}{cv:Value}(h:Rep Γ w v cv)(hf:v.flat1=true):Rep Γ' w' v cv:=by
 rw [h.conc1 hf]; exact conc1_rep hf Γ' w'
theorem flatE_rep {Γ Γ':Ghost}{w w':World}{v:AV}{cv:Value}(h:Rep Γ w v cv)(hf:v.flatE=true):Rep Γ' w' v cv:=by
 cases v with
 | agg cells =>
  cases h with
  | agg cells cv hs h1 hn hr =>
   simp only [AV.flatE,List.all_eq_true] at hf
   exact .agg cells cv hs h1 hn fun j c hc=>flat1_rep (hr j c hc) (hf c (List.mem_of_getElem? hc))
 | _=>exact flat1_rep h hf
theorem flat_rep {Γ Γ':Ghost}{w w':World}{v:AV}{cv:Value}(h:Rep Γ w v cv)(hf:v.flat=true):Rep Γ' w' v cv:=by
 cases h with
 | agg cells cv hs h1 hn hr =>
  simp only [AV.flat,List.all_eq_true] at hf
  exact .agg cells cv hs h1 hn fun j c hc=>flat1_rep (hr j c hc) (hf c (List.mem_of_getElem? hc))
 | tup vs cv hs hr =>
  simp only [AV.flat,List.all_eq_true] at hf
  exact .tup vs cv hs fun j c hc=>flatE_rep (hr j c hc) (hf c (List.mem_of_getElem? hc))
 | fn f fst caps fv cv hs1 hr1 hs hr=>exact flat1_rep (Rep.fn f fst caps fv cv hs1 hr1 hs hr) hf
 | undef=>exact .undef
 | bool=>exact .bool _
 | int=>exact .int _ _
 | str=>exact .str _
 | nilp=>exact .nilp
 | nilf=>exact .nilf
 | nilm=>exact .nilm
 | nili=>exact .nili
 | _=>cases hf
theorem Behind.refl (w:World):Behind w w:=⟨rfl,rfl,rfl,Nat.le_refl _,.refl w⟩
theorem flat_own {v:AV}(h:v.flat=true):∀ k r,v≠.own k r:=by cases v <;> first | (cases h; done) | simp
theorem op_quiet (hG:GOk G E.W0)(hS:CallSpec P E.W0 call)(hI:Inv E s Γ a w)(hc:cOp P hand draw o=some ao)(hq:quietOp ao=true)(hn:noHand ao=true)(h:evalOp G (quietCall call) s ao=some (v,s'))
  {K:Act→Prop} (hK:∀ cv,s'=s→Rep Γ w v cv→(∀ l,OwnAt Γ w l v cv)→K (a.put o.dst cv)):o.quiet P a (Behind w) K:=by
 by_cases hv:∃ c f,o.op=.call c∧c.callee=.value f
 ·obtain ⟨c,f,hop,hcal⟩:=hv
  simp only [cOp,hop,hcal] at hc
  split at hc <;> first | (cases hc; done) | skip
  rename_i f' args hf hargs
  obtain rfl:=Option.some.inj hc
  simp only [evalOp] at h
  split at h <;> first | (cases h; done) | skip
  rename_i g first caps vs sl hfv hvs
  split at h <;> first | (cases h; done) | skip
  rename_i u hp e hcall
  cases h
  unfold quietCall at hcall
  split at hcall <;> first | (cases hcall; done) | skip
  rename_i u' hp1 hcall1
  split at hcall <;> first | (cases hcall; done) | skip
  rename_i hflat
  cases hcall
  obtain ⟨q1,q2,q3⟩:=args_quiet hG hI hargs hn hvs
  subst q1
  have main:∀ w',Behind w w'→o.quietAt P a (Behind w) w' v.conc∧∃ Γ' w'',Rep Γ' w'' v v.conc:=by
   intro w' hw'
   have hI':=hw'.inv hI
   obtain ⟨_,_,q3⟩:=args_quiet hG hI' hargs hn hvs
   have hfn:=(cOpnd_rep hG hI' hf hfv).1
   generalize hq:a.eval f=q at hfn
   cases hfn with
   | fn _ _ _ fv cv hs1 hr1 hs hr =>
    have f2:FixMono Γ w' (fun b=>quietK s.hp.length (Γ b)) w':=fun _ _ _ h1 h2=>⟨quietK_fix h1,h2⟩
    have o2:OwnMono Γ (fun b=>quietK s.hp.length (Γ b)):=fun b g hb=>quietK_own.1 hb
    obtain ⟨t1,t2⟩:=three (first := first) (vs := vs) (caps := caps) (fv := fv) (cv := cv) (xs := c.args.map a.eval) hs1 (by simp [q2]) hs
     (R := fun j x y=>Rep (fun b=>quietK s.hp.length (Γ b)) w' x y∧OwnAt (fun b=>quietK s.hp.length (Γ b)) w' (.slot j) x y)
     (fun j x hx=>⟨((hr1 j x hx).mono f2 o2).nm,.of_ne fun _ _=>nm_not_own⟩)
     (fun j x hx=>by
      obtain ⟨y,hy,hr,ho⟩:=q3 j x hx
      have:(c.args.map a.eval).getD j Go.undef=a.eval y:=by
       rw [Array.getElem?_toList] at hy
       rw [Array.getD_eq_getD_getElem?,Array.getElem?_map,hy]; rfl
      rw [this]
      exact ⟨hr.mono f2 o2,.nil ho⟩)
     (fun j x i hx=>⟨((hr j x hx).mono f2 o2).nm,.of_ne fun _ _=>nm_not_own⟩)
    have hw:=hS g _ _ _ _ _ hcall1 _ w' _ hI'.rw.quiet (quiet_tidy Γ _) t1 t2
    unfold Oper.quietAt
    rw [call_run hop hcal hq]
    have fin:∀ cv w'',(∃ Γ',RW E.W0 Γ' w'' hp1∧Rep Γ' w'' v cv∧OwnAt Γ' w'' .res v cv∧Frame (fun b=>quietK s.hp.length (Γ b)) w' Γ' w'' none∧s.hp.length≤hp1.length∧∀ b g,Γ' b=.own g→g < s.hp.length→quietK s.hp.length (Γ b)=.own g)→cv=v.conc∧Behind w w''∧Upon w' w'':=by
     rintro cv w'' ⟨Γ',r1,r2,r3,r4,r5⟩
     have hup:Upon w' w'':=fun b hb=>(r4.keep b hb (quiet_kept _ _)).2
     exact ⟨conc_of_rep r2 hflat,⟨r4.os.trans hw'.os,r4.tape.trans hw'.tape,r4.output.trans hw'.output,Nat.le_trans hw'.size r4.size,fun b hb=>(hup b (Nat.lt_of_lt_of_le hb hw'.size)).trans (hw'.upon b hb)⟩,hup⟩
    obtain ⟨hrun,hw⟩:=hw
    obtain ⟨en,w1,_,⟨cv1,_,hR1⟩,_⟩:=hw []
    rw [hrun]
    refine ⟨⟨rfl,hw.mono fun en w'' ⟨cv',hv,hR⟩=>?_⟩,?_⟩
    ·subst hv
     obtain ⟨e1,e2,_⟩:=fin cv' w'' hR
     exact ⟨by rw [e1],e2⟩
    ·obtain ⟨e1,_,_⟩:=fin cv1 w1 hR1
     obtain ⟨Γ',_,r2,_⟩:=hR1
     rw [e1] at r2
     exact ⟨Γ',w1,r2⟩
  obtain ⟨Γ',w'',hrep⟩:=(main w (.refl w)).2
  exact ⟨v.conc,fun w' hw'=>(main w' hw').1,hK _ rfl (flat_rep hrep hflat) fun l=>.of_ne (flat_own hflat)⟩
 ·obtain ⟨h1,h2⟩:=op_fit hG hI (fun c f h1 h2=>hv ⟨c,f,h1,h2⟩) hc h
  obtain ⟨e,cv,hr,r1,r2⟩:=h2 hq
  exact ⟨cv,fun w' hw'=>by
   unfold Oper.quietAt
   rw [hr w' hw'.upon]
   exact ⟨rfl,rfl⟩,hK cv e r1 fun l=>.nil r2⟩
end
end Go.Proofs.YtcfjcimhjmpkiaaGreatDoor.Abs
end
section
namespace Go.Proofs.YtcfjcimhjmpkiaaGreatDoor.Abs
open Go Go.RowKit
structure LocF (W:List Nat)(f:List AV→List AV):Prop where
 len:∀ l,(f l).length=l.length
 out:∀ (l:List AV) (i:Nat),i ∉ W→(f l)[i]? = l[i]?
 on:∀ (l m:List AV) (i:Nat),i ∈ W→l.length=m.length→l[i]? = m[i]?→(f l)[i]? = (f m)[i]?
theorem LocF.id (W:List Nat):LocF W id:=⟨fun _=>rfl,fun _ _ _=>rfl,fun _ _ _ _ _ h=>h⟩
theorem LocF.set (d:Nat)(v:AV):LocF [d] (fun l=>l.set d v):=by
 refine ⟨fun l=>by simp,fun l i hi=>?_,fun l m i hi hl h=>?_⟩
 ·have:d≠i:=fun e=>hi (by simp [e])
  rw [List.getElem?_set_ne this]
 ·have:i=d:=by simpa using hi
  subst this
  simp only [List.getElem?_set_self']
  rw [h]
theorem LocF.mod (t:Nat):LocF [t] (fun l=>l.modify t AV.ro):=by
 refine ⟨fun l=>by simp,fun l i hi=>?_,fun l m i hi hl h=>?_⟩
 ·have:t≠i:=fun e=>hi (by simp [e])
  rw [List.getElem?_modify]; simp [this]
 ·rw [List.getElem?_modify,List.getElem?_modify,h]
theorem LocF.comp {V W:List Nat}{f g:List AV→List AV}(hf:LocF V f)(hg:LocF W g):LocF (W ++ V) (fun l=>g (f l)):=by
 refine ⟨fun l=>by rw [hg.len,hf.len],fun l i hi=>?_,fun l m i hi hl h=>?_⟩
 ·rw [List.mem_append,not_or] at hi
  rw [hg.out _ _ hi.1,hf.out _ _ hi.2]
 ·have hfi:(f l)[i]? = (f m)[i]?:=by
   by_cases h2:i ∈ V
   ·exact hf.on l m i h2 hl h
   ·rw [hf.out _ _ h2,hf.out _ _ h2,h]
  by_cases h1:i ∈ W
  ·exact hg.on _ _ i h1 (by rw [hf.len,hf.len,hl]) hfi
  ·rw [hg.out _ _ h1,hg.out _ _ h1,hfi]
theorem LocF.swap {V W:List Nat}{f g:List AV→List AV}(hf:LocF V f)(hg:LocF W g)(hd:apartB V W=true)(l:List AV):f (g l)=g (f l):=by
 have hd':∀ i,i ∈ V→i ∉ W:=fun i hi hw=>by
  have:=List.all_eq_true.1 hd i hi
  simp at this
  exact this hw
 refine List.ext_getElem? fun i=>?_
 by_cases h1:i ∈ V
 ·have h2:=hd' i h1
  rw [hg.out (f l) i h2,hf.on (g l) l i h1 (hg.len l) (hg.out l i h2)]
 ·rw [hf.out (g l) i h1]
  by_cases h2:i ∈ W
  ·exact (hg.on (f l) l i h2 (hf.len l) (hf.out l i h1)).symm
  ·rw [hg.out l i h2,hg.out (f l) i h2,hf.out l i h1]
def Agree (R:List Nat)(l m:List AV):Prop:=∀ i ∈ R,l[i]? = m[i]?
theorem Agree.left {R S:List Nat}{l m:List AV}(h:Agree (R ++ S) l m):Agree R l m:=fun i hi=>h i (List.mem_append_left _ hi)
theorem Agree.right {R S:List Nat}{l m:List AV}(h:Agree (R ++ S) l m):Agree S l m:=fun i hi=>h i (List.mem_append_right _ hi)
theorem Agree.of_loc {W R:List Nat}{f:List AV→List AV}(hf:LocF W f)(hd:apartB W R=true)(l:List AV):Agree R l (f l):=fun i hi=>by
 refine (hf.out l i fun hw=>?_).symm
 have:=List.all_eq_true.1 hd i hw
 simp at this
 exact this hi
theorem Agree.symm {R:List Nat}{l m:List AV}(h:Agree R l m):Agree R m l:=fun i hi=>(h i hi).symm
section
variable {G:Nat→Option (List AV)}
theorem opnd_congr {x:Opnd}{l m:List AV}(h:Agree (oR x) l m):opnd G l x=opnd G m x:=by
 cases x with
 | tmp t=>simp only [opnd]; rw [h t (by simp [oR])]
 | const v=>rfl
 | glob g=>rfl
theorem opnds_congr:∀ {xs:List Opnd} {l m:List AV},Agree (oRs xs) l m→opnds G l xs=opnds G m xs
 | [],_,_,_=>rfl
 | x :: xs,l,m,h=>by
  have h':Agree (oR x ++ oRs xs) l m:=by simpa [oRs] using h
  simp only [opnds]
  rw [opnd_congr h'.left,opnds_congr h'.right]
theorem optOpnd_congr {x:Option Opnd}{l m:List AV}(h:Agree (oRo x) l m):optOpnd G l x=optOpnd G m x:=by
 cases x with
 | none=>rfl
 | some x=>simp only [optOpnd]; rw [opnd_congr h]
theorem argVals_congr:∀ {args:List (Nat ⊕ Opnd)} {l m:List AV} {vs sl:List AV},(args.all fun | .inr _=>true | .inl _=>false)=true →
  Agree (args.flatMap fun x=>match x with | .inl t=>[t] | .inr x=>oR x) l m→argVals G l args=some (vs,sl)→sl=l∧argVals G m args=some (vs,m)
 | [],l,m,vs,sl,_,_,h=>by
  simp only [argVals,Option.some.injEq,Prod.mk.injEq] at h ⊢
  exact ⟨h.2.symm,h.1,trivial⟩
 | .inl t :: args,_,_,_,_,hn,_,_=>by simp at hn
 | .inr x :: args,l,m,vs,sl,hn,ha,h=>by
  simp only [List.all_cons,Bool.and_eq_true] at hn
  have ha':Agree (oR x ++ (args.flatMap fun x=>match x with | .inl t=>[t] | .inr x=>oR x)) l m:=by simpa using ha
  simp only [argVals] at h ⊢
  rw [← opnd_congr (G := G) ha'.left]
  split at h <;> first | (cases h; done) | skip
  rename_i v hv
  obtain ⟨p,h1,h2⟩:=Option.map_eq_some_iff.1 h
  obtain ⟨rfl,rfl⟩:=Prod.mk.inj h2
  obtain ⟨e1,e2⟩:=argVals_congr hn.2 ha'.right h1
  refine ⟨e1,?_⟩
  simp only [hv,e2,Option.map_some]
end
def LookLe (h h':List AObj):Prop:=(∀ p v,ldcVal h p=some v→ldcVal h' p=some v)∧∀ n p v,ldaVal h n p=some v→ldaVal h' n p=some v
theorem LookLe.refl (h:List AObj):LookLe h h:=⟨fun _ _ h=>h,fun _ _ _ h=>h⟩
theorem LookLe.of_get {h h':List AObj}(hg:∀ (g:Nat) (cs:List AV) (t:TypeId),h[g]? = some (AObj.cells cs t)→∃ (cs':List AV) (t':TypeId),h'[g]? = some (AObj.cells cs' t')∧cs'.map AV.ro=cs.map AV.ro)
  (hb:∀ (g:Nat) (l:List UInt8) (t e:TypeId) (m:List AV),h[g]? = some (AObj.buf l t e m)→h'[g]? = some (AObj.buf l t e m)):LookLe h h':=by
 refine ⟨fun p v hv=>?_,fun n p v hv=>?_⟩
 ·unfold ldcVal at hv ⊢
  split at hv <;> first | exact hv | (cases hv; done) | skip
  split at hv <;> first | (cases hv; done) | skip
  ·rename_i g o _ cs t hcs
   obtain ⟨cs',t',h1,h2⟩:=hg _ _ _ hcs
   simp only [h1]
   rw [← List.getElem?_map] at hv ⊢
   rw [h2]; exact hv
  ·rename_i g o _ l t e m hbs
   simp only [hb _ _ _ _ _ hbs]
   exact hv
 ·unfold ldaVal at hv ⊢
  split at hv <;> first | exact hv | (cases hv; done) | skip
  split at hv <;> first | (cases hv; done) | skip
  rename_i g o _ cs t hcs
  obtain ⟨cs',t',h1,h2⟩:=hg _ _ _ hcs
  simp only [h1]
  have hl:cs'.length=cs.length:=by have:=congrArg List.length h2; simpa using this
  rw [hl]
  rw [List.map_take,List.map_drop] at hv ⊢
  rw [h2]; exact hv
theorem LookLe.app (h:List AObj)(o:AObj):LookLe h (h ++ [o]):=.of_get (fun g cs t hg=>⟨cs,t,by rw [List.getElem?_append_left (List.getElem?_eq_some_iff.1 hg).1]; exact hg,rfl⟩) (fun g l t e m hg=>by rw [List.getElem?_append_left (List.getElem?_eq_some_iff.1 hg).1]; exact hg)
theorem ro_ro (v:AV):v.ro.ro=v.ro:=by cases v <;> rfl
theorem map_ro_set (cs:List AV)(o:Nat)(v:AV)(h:cs[o]? = some v):(cs.set o v.ro).map AV.ro=cs.map AV.ro:=by
 refine List.ext_getElem? fun i=>?_
 rw [List.getElem?_map,List.getElem?_map,List.getElem?_set]
 split
 ·rename_i e
  subst e
  have hl:=(List.getElem?_eq_some_iff.1 h).1
  rw [if_pos hl,h]
  simp [ro_ro]
 ·rfl
theorem LookLe.mark {h:List AObj}{g o:Nat}{cs:List AV}{t:TypeId}{v:AV}(h1:h[g]? = some (.cells cs t))(h2:cs[o]? = some v):LookLe h (h.set g (.cells (cs.set o v.ro) t))∧LookLe (h.set g (.cells (cs.set o v.ro) t)) h:=by
 have hl:=(List.getElem?_eq_some_iff.1 h1).1
 constructor
 ·refine .of_get (fun g' cs' t' hg=>?_) fun g' l t e m hg=>by
   have hne:g≠g':=fun e=>by subst e; rw [h1] at hg; cases hg
   rw [List.getElem?_set_ne hne]; exact hg
  rw [List.getElem?_set]
  split
  ·rename_i e; subst e
   rw [h1] at hg; cases hg
   exact ⟨cs.set o v.ro,t,by simp [hl],map_ro_set cs o v h2⟩
  ·exact ⟨_,_,hg,rfl⟩
 ·refine .of_get (fun g' cs' t' hg=>?_) fun g' l t e m hg=>by
   have hne:g≠g':=fun e=>by subst e; rw [List.getElem?_set_self hl] at hg; cases hg
   rw [List.getElem?_set_ne hne] at hg; exact hg
  rw [List.getElem?_set] at hg
  split at hg
  ·rename_i e; subst e
   simp only [hl,if_true,Option.some.injEq,AObj.cells.injEq] at hg
   obtain ⟨rfl,rfl⟩:=hg
   exact ⟨_,_,h1,(map_ro_set cs o v h2).symm⟩
  ·exact ⟨_,_,hg,rfl⟩
section
variable {G:Nat→Option (List AV)}{call:FuncId→List AV→List AObj→Option (AV×List AObj×Eff)}
def tkF (ao:AOp)(l:List AV):List AV :=
 match opTakes ao with
 | [t]=>l.modify t AV.ro
 | _=>l
theorem tkF_loc (ao:AOp):LocF (opTakes ao) (tkF ao):=by
 cases ao <;> first | exact LocF.id _ | exact LocF.mod _
structure OpSpec (G:Nat→Option (List AV))(call:FuncId→List AV→List AObj→Option (AV×List AObj×Eff))(ao:AOp)(k:HK)(s:AState)(v:AV)(s':AState):Prop where
 sl:s'.sl=tkF ao s.sl
 bs:s'.bs=s.bs
 any:∀ t,Agree (opReads ao) s.sl t.sl→t.hp=s.hp→t.ef=s.ef→t.bs=s.bs→evalOp G call t ao=some (v,⟨tkF ao t.sl,s'.hp,s'.ef,t.bs⟩)
 still:(match k with | .free | .look | .read=>True | _=>False)→s'.hp=s.hp∧s'.ef=s.ef
 free:k=.free→∀ t,Agree (opReads ao) s.sl t.sl→evalOp G call t ao=some (v,⟨tkF ao t.sl,t.hp,t.ef,t.bs⟩)
 look:k=.look→∀ t,Agree (opReads ao) s.sl t.sl→LookLe s.hp t.hp→evalOp G call t ao=some (v,⟨tkF ao t.sl,t.hp,t.ef,t.bs⟩)
 read:(match k with | .free | .look | .read=>True | _=>False)→∀ t,Agree (opReads ao) s.sl t.sl→t.hp=s.hp→evalOp G call t ao=some (v,⟨tkF ao t.sl,t.hp,t.ef,t.bs⟩)
 alloc:k=.alloc→s'.ef=s.ef∧∃ obs,s'.hp=s.hp ++ obs∧∀ t,Agree (opReads ao) s.sl t.sl→t.hp.length=s.hp.length→evalOp G call t ao=some (v,⟨tkF ao t.sl,t.hp ++ obs,t.ef,t.bs⟩)
 mark:k=.mark→s'.hp.length=s.hp.length∧LookLe s.hp s'.hp∧LookLe s'.hp s.hp∧∀ t obs,Agree (opReads ao) s.sl t.sl→t.hp=s.hp ++ obs→t.ef=s.ef→t.bs=s.bs→evalOp G call t ao=some (v,⟨tkF ao t.sl,s'.hp ++ obs,s'.ef,t.bs⟩)
theorem OpSpec.of_free {ao:AOp}{s:AState}{v:AV}{s':AState}(h:s'=⟨tkF ao s.sl,s.hp,s.ef,s.bs⟩)(hf:∀ t,Agree (opReads ao) s.sl t.sl→evalOp G call t ao=some (v,⟨tkF ao t.sl,t.hp,t.ef,t.bs⟩)):OpSpec G call ao .free s v s':=by
 subst h
 refine ⟨rfl,rfl,fun t ha h1 h2 h3=>?_,fun _=>⟨rfl,rfl⟩,fun _=>hf,(fun h=>by cases h),fun _ t ha _=>hf t ha,(fun h=>by cases h),(fun h=>by cases h)⟩
 rw [hf t ha,h1,h2]
theorem OpSpec.of_read {ao:AOp}{s:AState}{v:AV}{s':AState}(h:s'=⟨tkF ao s.sl,s.hp,s.ef,s.bs⟩)(hf:∀ t,Agree (opReads ao) s.sl t.sl→t.hp=s.hp→evalOp G call t ao=some (v,⟨tkF ao t.sl,t.hp,t.ef,t.bs⟩)):OpSpec G call ao .read s v s':=by
 subst h
 refine ⟨rfl,rfl,fun t ha h1 h2 h3=>?_,fun _=>⟨rfl,rfl⟩,(fun h=>by cases h),(fun h=>by cases h),fun _ t ha h1=>hf t ha h1,(fun h=>by cases h),(fun h=>by cases h)⟩
 rw [hf t ha h1,h1,h2]
theorem OpSpec.of_look {ao:AOp}{s:AState}{v:AV}{s':AState}(h:s'=⟨tkF ao s.sl,s.hp,s.ef,s.bs⟩)(hf:∀ t,Agree (opReads ao) s.sl t.sl→LookLe s.hp t.hp→evalOp G call t ao=some (v,⟨tkF ao t.sl,t.hp,t.ef,t.bs⟩)):OpSpec G call ao .look s v s':=by
 subst h
 refine ⟨rfl,rfl,fun t ha h1 h2 h3=>?_,fun _=>⟨rfl,rfl⟩,(fun h=>by cases h),fun _=>hf,fun _ t ha h1=>hf t ha (h1 ▸ .refl _),(fun h=>by cases h),(fun h=>by cases h)⟩
 rw [hf t ha (h1 ▸ .refl _),h1,h2]
theorem OpSpec.of_set {ao:AOp}{s:AState}{v:AV}{s':AState}(h1:s'.sl=tkF ao s.sl)(h2:s'.bs=s.bs)(hf:∀ t,Agree (opReads ao) s.sl t.sl→t.hp=s.hp→t.ef=s.ef→t.bs=s.bs→evalOp G call t ao=some (v,⟨tkF ao t.sl,s'.hp,s'.ef,t.bs⟩)):OpSpec G call ao .set s v s' :=
 ⟨h1,h2,hf,(fun h=>h.elim),(fun h=>by cases h),(fun h=>by cases h),(fun h=>h.elim),(fun h=>by cases h),(fun h=>by cases h)⟩
theorem pair_map {α:Type}{x:Option AV}{s:α}{v:AV}{s':α}(h:x.map (·,s)=some (v,s')):x=some v∧s'=s:=by
 cases x with
 | none=>cases h
 | some a=>cases h; exact ⟨rfl,rfl⟩
theorem op_spec (hq:∀ f args hp v hp' e,call f args hp=some (v,hp',e)→hp'=hp∧e=none){ao:AOp}{k:HK}{s:AState}{v:AV}{s':AState}(hk:hkind ao=some k)(h:evalOp G call s ao=some (v,s')):OpSpec G call ao k s v s':=by
 cases ao <;> simp only [hkind,Option.some.injEq,reduceCtorEq] at hk <;> try subst hk
 case un op x =>
  simp only [evalOp] at h
  split at h <;> first | (cases h; done) | skip
  rename_i a ha
  obtain ⟨h1,rfl⟩:=pair_map h
  refine .of_free rfl fun t ht=>?_
  simp only [evalOp,← opnd_congr (G := G) (x := x) ht,ha,h1,Option.map_some]
  rfl
 case fa off x =>
  simp only [evalOp] at h
  split at h <;> first | (cases h; done) | skip
  rename_i a ha
  obtain ⟨h1,rfl⟩:=pair_map h
  refine .of_free rfl fun t ht=>?_
  simp only [evalOp,← opnd_congr (G := G) (x := x) ht,ha,h1,Option.map_some]
  rfl
 case fld off n agg x =>
  simp only [evalOp] at h
  split at h <;> first | (cases h; done) | skip
  rename_i a ha
  obtain ⟨h1,rfl⟩:=pair_map h
  refine .of_free rfl fun t ht=>?_
  simp only [evalOp,← opnd_congr (G := G) (x := x) ht,ha,h1,Option.map_some]
  rfl
 case mv x =>
  simp only [evalOp] at h
  obtain ⟨h1,rfl⟩:=pair_map h
  refine .of_free rfl fun t ht=>?_
  simp only [evalOp,← opnd_congr (G := G) (x := x) ht,h1,Option.map_some]
  rfl
 case take i =>
  simp only [evalOp] at h
  split at h <;> first | (cases h; done) | skip
  rename_i a ha
  cases h
  refine .of_free rfl fun t ht=>?_
  simp only [evalOp,← ht i (by simp [opReads]),ha]
  rfl
 case pick c a b =>
  simp only [evalOp] at h
  split at h <;> first | (cases h; done) | skip
  ·rename_i hc
   obtain ⟨h1,rfl⟩:=pair_map h
   refine .of_free rfl fun t ht=>?_
   simp only [evalOp,← opnd_congr (G := G) (x := c) ht.left,← opnd_congr (G := G) (x := a) ht.right.left,hc,h1,Option.map_some]
   rfl
  ·rename_i hc
   obtain ⟨h1,rfl⟩:=pair_map h
   refine .of_free rfl fun t ht=>?_
   simp only [evalOp,← opnd_congr (G := G) (x := c) ht.left,← opnd_congr (G := G) (x := b) ht.right.right,hc,h1,Option.map_some]
   rfl
 case nilchk x =>
  simp only [evalOp] at h
  split at h <;> first | (cases h; done) | skip
  all_goals
   rename_i hc
   cases h
   refine .of_free rfl fun t ht=>?_
   simp only [evalOp,← opnd_congr (G := G) (x := x) ht,hc]
   rfl
 case extract x i =>
  simp only [evalOp] at h
  split at h <;> first | (cases h; done) | skip
  rename_i vs hc
  obtain ⟨u,h1,h2⟩:=Option.map_eq_some_iff.1 h
  cases h2
  refine .of_free rfl fun t ht=>?_
  simp only [evalOp,← opnd_congr (G := G) (x := x) ht,hc,h1,Option.map_some]
  rfl
 case slice sh x lo hi =>
  simp only [evalOp] at h
  split at h <;> first | (cases h; done) | skip
  rename_i a b c h0 h1 h2
  obtain ⟨h3,rfl⟩:=pair_map h
  refine .of_free rfl fun t ht=>?_
  simp only [evalOp,← opnd_congr (G := G) (x := x) ht.left,← optOpnd_congr (G := G) (x := lo) ht.right.left,← optOpnd_congr (G := G) (x := hi) ht.right.right,h0,h1,h2,h3,Option.map_some]
  rfl
 case slice3 sh x hi mx =>
  simp only [evalOp] at h
  split at h <;> first | (cases h; done) | skip
  rename_i a b c h0 h1 h2
  obtain ⟨h3,rfl⟩:=pair_map h
  refine .of_free rfl fun t ht=>?_
  simp only [evalOp,← opnd_congr (G := G) (x := x) ht.left,← opnd_congr (G := G) (x := hi) ht.right.left,← opnd_congr (G := G) (x := mx) ht.right.right,h0,h1,h2,h3,Option.map_some]
  rfl
 case build zero parts =>
  simp only [evalOp] at h
  split at h <;> first | (cases h; done) | skip
  rename_i vs hvs
  obtain ⟨u,h1,h2⟩:=Option.map_eq_some_iff.1 h
  cases h2
  refine .of_free rfl fun t ht=>?_
  simp only [evalOp,← opnds_congr (G := G) (xs := List.map (fun (p:Nat×Nat×Opnd)=>p.2.2) parts) ht,hvs,h1,Option.map_some]
  rfl
 case bin op sh x y =>
  simp only [evalOp] at h
  split at h <;> first | (cases h; done) | skip
  rename_i a b ha hb
  obtain ⟨h1,rfl⟩:=pair_map h
  refine .of_free rfl fun t ht=>?_
  simp only [evalOp,← opnd_congr (G := G) (x := x) ht.left,← opnd_congr (G := G) (x := y) ht.right,ha,hb,h1,Option.map_some]
  rfl
 case ia sh x y =>
  simp only [evalOp] at h
  split at h <;> first | (cases h; done) | skip
  rename_i a b ha hb
  obtain ⟨h1,rfl⟩:=pair_map h
  refine .of_free rfl fun t ht=>?_
  simp only [evalOp,← opnd_congr (G := G) (x := x) ht.left,← opnd_congr (G := G) (x := y) ht.right,ha,hb,h1,Option.map_some]
  rfl
 case slicez k x y =>
  simp only [evalOp] at h
  split at h <;> first | (cases h; done) | skip
  rename_i a b ha hb
  obtain ⟨h1,rfl⟩:=pair_map h
  refine .of_free rfl fun t ht=>?_
  simp only [evalOp,← opnd_congr (G := G) (x := x) ht.left,← opnd_congr (G := G) (x := y) ht.right,ha,hb,h1,Option.map_some]
  rfl
 case idx x y =>
  simp only [evalOp] at h
  split at h <;> first | (cases h; done) | skip
  rename_i a b ha hb
  obtain ⟨h1,rfl⟩:=pair_map h
  refine .of_free rfl fun t ht=>?_
  simp only [evalOp,← opnd_congr (G := G) (x := x) ht.left,← opnd_congr (G := G) (x := y) ht.right,ha,hb,h1,Option.map_some]
  rfl
 case min xs =>
  simp only [evalOp] at h
  split at h <;> first | (cases h; done) | skip
  rename_i n l hxs
  obtain ⟨u,h1,h2⟩:=Option.map_eq_some_iff.1 h
  cases h2
  refine .of_free rfl fun t ht=>?_
  simp only [evalOp,← opnds_congr (G := G) (xs := xs) ht,hxs,h1,Option.map_some]
  rfl
 case max xs =>
  simp only [evalOp] at h
  split at h <;> first | (cases h; done) | skip
  rename_i n l hxs
  obtain ⟨u,h1,h2⟩:=Option.map_eq_some_iff.1 h
  cases h2
  refine .of_free rfl fun t ht=>?_
  simp only [evalOp,← opnds_congr (G := G) (xs := xs) ht,hxs,h1,Option.map_some]
  rfl
 case ldc x =>
  simp only [evalOp] at h
  split at h <;> first | (cases h; done) | skip
  rename_i a ha
  obtain ⟨h1,rfl⟩:=pair_map h
  refine .of_look rfl fun t ht hl=>?_
  simp only [evalOp,← opnd_congr (G := G) (x := x) ht,ha,hl.1 _ _ h1,Option.map_some]
  rfl
 case lda n x =>
  simp only [evalOp] at h
  split at h <;> first | (cases h; done) | skip
  rename_i a ha
  obtain ⟨h1,rfl⟩:=pair_map h
  refine .of_look rfl fun t ht hl=>?_
  simp only [evalOp,← opnd_congr (G := G) (x := x) ht,ha,hl.2 _ _ _ h1,Option.map_some]
  rfl
 case len sh x =>
  simp only [evalOp] at h
  split at h <;> first | (cases h; done) | skip
  rename_i a ha
  obtain ⟨h1,rfl⟩:=pair_map h
  refine .of_read rfl fun t ht hl=>?_
  have e:lenVal t.hp sh a=some v:=by rw [hl]; exact h1
  simp only [evalOp,← opnd_congr (G := G) (x := x) ht,ha,e,Option.map_some]
  rfl
 case conv c x =>
  simp only [evalOp] at h
  split at h <;> first | (cases h; done) | skip
  rename_i a ha
  obtain ⟨h1,rfl⟩:=pair_map h
  refine .of_read rfl fun t ht hl=>?_
  have e:convVal t.hp c a=some v:=by rw [hl]; exact h1
  simp only [evalOp,← opnd_congr (G := G) (x := x) ht,ha,e,Option.map_some]
  rfl
 case app k b i x =>
  simp only [evalOp] at h
  split at h <;> first | (cases h; done) | skip
  rename_i k' r a h0 ha
  split at h <;> first | (cases h; done) | skip
  rename_i k'' r' h1
  split at h <;> first | (cases h; done) | skip
  rename_i hc
  cases h
  refine .of_read rfl fun t ht hl=>?_
  have e0:=ht i (by simp [opReads])
  have e1:Agree (oR x) s.sl t.sl:=fun j hj=>ht j (List.mem_cons_of_mem _ hj)
  have e:rowsOf t.hp a=some (k'',r'):=by rw [hl]; exact h1
  simp only [evalOp,← opnd_congr (G := G) (x := x) e1,← e0,h0,ha,e]
  rw [if_pos hc]
  rfl
 case apps b i x =>
  simp only [evalOp] at h
  split at h <;> first | (cases h; done) | skip
  rename_i k' r l h0 ha
  split at h <;> first | (cases h; done) | skip
  rename_i hc
  cases h
  refine .of_free rfl fun t ht=>?_
  have e0:=ht i (by simp [opReads])
  have e1:Agree (oR x) s.sl t.sl:=fun j hj=>ht j (List.mem_cons_of_mem _ hj)
  simp only [evalOp,← opnd_congr (G := G) (x := x) e1,← e0,h0,ha]
  rw [if_pos hc]
  rfl
 case appn k b x =>
  simp only [evalOp] at h
  split at h <;> first | (cases h; done) | skip
  rename_i a ha
  split at h <;> first | (cases h; done) | skip
  rename_i k'' r' h1
  split at h <;> first | (cases h; done) | skip
  rename_i hc
  cases h
  refine .of_read rfl fun t ht hl=>?_
  have e:rowsOf t.hp a=some (k'',r'):=by rw [hl]; exact h1
  simp only [evalOp,← opnd_congr (G := G) (x := x) ht,ha,e]
  rw [if_pos hc]
  rfl
 case call f args =>
  split at hk <;> first | (cases hk; done) | skip
  rename_i hn
  cases hk
  simp only [evalOp] at h
  split at h <;> first | (cases h; done) | skip
  rename_i g first caps vs sl hf hvs
  split at h <;> first | (cases h; done) | skip
  rename_i u hp e hcall
  cases h
  obtain ⟨rfl,rfl⟩:=hq _ _ _ _ _ _ hcall
  have hall:(args.all fun | .inr _=>true | .inl _=>false)=true:=hn
  obtain ⟨rfl,_⟩:=argVals_congr (G := G) (m := s.sl) hall (fun _ _=>rfl) hvs
  refine .of_read rfl fun t ht hl=>?_
  obtain ⟨_,e2⟩:=argVals_congr (G := G) hall ht.right hvs
  have hcall':=hcall
  rw [← hl] at hcall'
  simp only [evalOp,← opnd_congr (G := G) (x := f) ht.left,hf,e2,hcall']
  rfl
 case st n x y =>
  simp only [evalOp] at h
  split at h <;> first | (cases h; done) | skip
  rename_i g o a ha hb
  split at h <;> first | (cases h; done) | skip
  all_goals
   rename_i hg
   split at h <;> first | (cases h; done) | skip
   rename_i hc
   cases h
   refine .of_set rfl rfl fun t ht h1 h2 h3=>?_
   simp only [evalOp,← opnd_congr (G := G) (x := x) ht.left,← opnd_congr (G := G) (x := y) ht.right,ha,hb,h1,hg,AState.note,h2,h3]
   rw [if_pos hc]
   rfl
 case stt x i =>
  simp only [evalOp] at h
  split at h <;> first | (cases h; done) | skip
  rename_i g o a ha hb
  split at h <;> first | (cases h; done) | skip
  rename_i cs ty hg
  split at h <;> first | (cases h; done) | skip
  rename_i hc
  cases h
  refine .of_set rfl rfl fun t ht h1 h2 h3=>?_
  have e0:=ht i (by simp [opReads])
  have e1:Agree (oR x) s.sl t.sl:=fun j hj=>ht j (List.mem_cons_of_mem _ hj)
  simp only [evalOp,← opnd_congr (G := G) (x := x) e1,← e0,ha,hb,h1,hg,AState.note,AState.let_,h2,h3]
  rw [if_pos hc]
  rfl
 case copy k x y =>
  simp only [evalOp] at h
  split at h <;> first | (cases h; done) | skip
  ·rename_i g off len k'' a ha hb
   split at h <;> first | (cases h; done) | skip
   rename_i k' r cs ty hr hg
   split at h <;> first | (cases h; done) | skip
   rename_i hc
   cases h
   refine .of_set rfl rfl fun t ht h1 h2 h3=>?_
   simp only [evalOp,← opnd_congr (G := G) (x := x) ht.left,← opnd_congr (G := G) (x := y) ht.right,ha,hb,h1,hr,hg,AState.note,h2,h3]
   rw [if_pos hc]
   rfl
  ·rename_i a ha hb
   split at h <;> first | (cases h; done) | skip
   rename_i k' r hr
   split at h <;> first | (cases h; done) | skip
   rename_i hc
   cases h
   refine .of_set rfl rfl fun t ht h1 h2 h3=>?_
   simp only [evalOp,← opnd_congr (G := G) (x := x) ht.left,← opnd_congr (G := G) (x := y) ht.right,ha,hb,h1,hr]
   rw [if_pos hc,← h1,← h2]
   rfl
 case ldt x =>
  simp only [evalOp] at h
  split at h <;> first | (cases h; done) | skip
  rename_i g o ha
  split at h <;> first | (cases h; done) | skip
  rename_i cs ty hg
  split at h <;> first | (cases h; done) | skip
  rename_i u hu
  cases h
  obtain ⟨l1,l2⟩:=LookLe.mark hg hu
  have hlt:=(List.getElem?_eq_some_iff.1 hg).1
  refine ⟨rfl,rfl,fun t ht h1 h2 h3=>?_,(fun h=>h.elim),(fun h=>by cases h),(fun h=>by cases h),(fun h=>h.elim),(fun h=>by cases h),fun _=>⟨by simp,l1,l2,fun t obs ht h1 h2 h3=>?_⟩⟩
  ·simp only [evalOp,← opnd_congr (G := G) (x := x) ht,ha,h1,hg,hu,AState.note,h2,h3]
   rfl
  ·have e:(s.hp ++ obs)[g]? = some (.cells cs ty):=by rw [List.getElem?_append_left hlt]; exact hg
   simp only [evalOp,← opnd_congr (G := G) (x := x) ht,ha,h1,e,hu,AState.note,h2,h3,List.set_append_left _ _ hlt]
   rfl
 case lit e k parts =>
  cases parts with
  | nil =>
   simp only [hkind,Option.some.injEq] at hk
   subst hk
   have key:∀ t:AState,evalOp G call t (.lit e k [])=some (.own k [],t):=fun t=>rfl
   rw [key] at h
   cases h
   exact .of_free rfl fun t _=>key t
  | cons p0 ps =>
  simp only [hkind,Option.some.injEq] at hk
  subst hk
  generalize hps:p0 :: ps=parts at *
  simp only [evalOp] at h
  split at h <;> first | (cases h; done) | skip
  rename_i vs hvs
  split at h
  ·rename_i hc
   cases h
   have key:∀ t:AState,Agree (opReads (.lit e k parts)) s.sl t.sl→evalOp G call t (.lit e k parts)=some (.own k (vs.map fun v=>v.cells.map AV.ro),t):=fun t ht=>by
    simp only [evalOp,← opnds_congr (G := G) (xs := parts) ht,hvs]
    rw [if_pos hc]
   refine ⟨rfl,rfl,fun t ht h1 h2 h3=>?_,(fun h=>h.elim),(fun h=>by cases h),(fun h=>by cases h),(fun h=>h.elim),fun _=>⟨rfl,[],by simp,fun t ht _=>?_⟩,(fun h=>by cases h)⟩
   ·rw [key t ht,← h1,← h2]; rfl
   ·rw [key t ht,List.append_nil]; rfl
  ·rename_i hc0
   split at h <;> first | (cases h; done) | skip
   rename_i hc
   cases h
   have key:∀ t:AState,Agree (opReads (.lit e k parts)) s.sl t.sl→evalOp G call t (.lit e k parts)=some (.arr t.hp.length 0 vs.length k,{ t with hp:=t.hp ++ [.cells (vs.map AV.cells).flatten e] }):=fun t ht=>by
    simp only [evalOp,← opnds_congr (G := G) (xs := parts) ht,hvs]
    rw [if_neg hc0,if_pos hc]
   refine ⟨rfl,rfl,fun t ht h1 h2 h3=>?_,(fun h=>h.elim),(fun h=>by cases h),(fun h=>by cases h),(fun h=>h.elim),fun _=>⟨rfl,_,rfl,fun t ht hl=>?_⟩,(fun h=>by cases h)⟩
   ·rw [key t ht,h1,h2]; rfl
   ·rw [key t ht,hl]; rfl
 case lita e k parts =>
  simp only [evalOp] at h
  split at h <;> first | (cases h; done) | skip
  rename_i vs hvs
  split at h <;> first | (cases h; done) | skip
  rename_i hc
  cases h
  have key:∀ t:AState,Agree (opReads (.lita e k parts)) s.sl t.sl→evalOp G call t (.lita e k parts)=some (.arr t.hp.length 0 vs.length k,{ t with hp:=t.hp ++ [.cells (vs.map AV.cells).flatten e] }):=fun t ht=>by
   simp only [evalOp,← opnds_congr (G := G) (xs := parts) ht,hvs]
   rw [if_pos hc]
  refine ⟨rfl,rfl,fun t ht h1 h2 h3=>?_,(fun h=>h.elim),(fun h=>by cases h),(fun h=>by cases h),(fun h=>h.elim),fun _=>⟨rfl,_,rfl,fun t ht hl=>?_⟩,(fun h=>by cases h)⟩
  ·rw [key t ht,h1,h2]; rfl
  ·rw [key t ht,hl]; rfl
theorem wanted_congr {s t:AState}{g:Option (Nat×Bool)}(h:Agree (match g with | some (i,_)=>[i] | none=>[]) s.sl t.sl):wantedA s g=wantedA t g:=by
 cases g with
 | none=>rfl
 | some p =>
  obtain ⟨i,b⟩:=p
  simp only [wantedA]
  rw [h i (by simp)]
def putF (d:Option Nat)(v:AV)(l:List AV):List AV:=match d with | some d=>l.set d v | none=>l
theorem putF_loc (d:Option Nat)(v:AV):LocF d.toList (putF d v):=by
 cases d with
 | none=>exact LocF.id _
 | some d=>exact LocF.set d v
theorem putF_eq (s:AState)(d:Option Nat)(v:AV):s.put d v=⟨putF d v s.sl,s.hp,s.ef,s.bs⟩:=by cases d <;> rfl
structure StepA (G:Nat→Option (List AV))(call:FuncId→List AV→List AObj→Option (AV×List AObj×Eff))(o:AOper)(k:HK)(s s':AState)(f:List AV→List AV):Prop where
 loc:LocF (opWrites o) f
 sl:s'.sl=f s.sl
 bs:s'.bs=s.bs
 any:∀ t,Agree (opReadsO o) s.sl t.sl→t.hp=s.hp→t.ef=s.ef→t.bs=s.bs→evalOper G call o t=some ⟨f t.sl,s'.hp,s'.ef,t.bs⟩
 still:(match k with | .free | .look | .read=>True | _=>False)→s'.hp=s.hp∧s'.ef=s.ef
 free:k=.free→∀ t,Agree (opReadsO o) s.sl t.sl→evalOper G call o t=some ⟨f t.sl,t.hp,t.ef,t.bs⟩
 look:k=.look→∀ t,Agree (opReadsO o) s.sl t.sl→LookLe s.hp t.hp→evalOper G call o t=some ⟨f t.sl,t.hp,t.ef,t.bs⟩
 read:(match k with | .free | .look | .read=>True | _=>False)→∀ t,Agree (opReadsO o) s.sl t.sl→t.hp=s.hp→evalOper G call o t=some ⟨f t.sl,t.hp,t.ef,t.bs⟩
 alloc:k=.alloc→s'.ef=s.ef∧∃ obs,s'.hp=s.hp ++ obs∧∀ t,Agree (opReadsO o) s.sl t.sl→t.hp.length=s.hp.length→evalOper G call o t=some ⟨f t.sl,t.hp ++ obs,t.ef,t.bs⟩
 mark:k=.mark→s'.hp.length=s.hp.length∧LookLe s.hp s'.hp∧LookLe s'.hp s.hp∧∀ t obs,Agree (opReadsO o) s.sl t.sl→t.hp=s.hp ++ obs→t.ef=s.ef→t.bs=s.bs→evalOper G call o t=some ⟨f t.sl,s'.hp ++ obs,s'.ef,t.bs⟩
theorem step_of (hq:∀ f args hp v hp' e,call f args hp=some (v,hp',e)→hp'=hp∧e=none){o:AOper}{k:HK}{s s':AState}(hk:hkind o.op=some k)(h:evalOper G call o s=some s'):∃ f,StepA G call o k s s' f:=by
 have wg:∀ t:AState,Agree (opReadsO o) s.sl t.sl→wantedA t o.guard=wantedA s o.guard:=fun t ht=>(wanted_congr ht.left).symm
 simp only [evalOper] at h
 split at h <;> first | (cases h; done) | skip
 ·rename_i hw
  split at h <;> first | (cases h; done) | skip
  rename_i v s1 he
  obtain rfl:=Option.some.inj h
  have S:=op_spec hq hk he
  have run:∀ (t:AState) (hp:List AObj) (ef:Eff),wantedA t o.guard=some true→evalOp G call t o.op=some (v,⟨tkF o.op t.sl,hp,ef,t.bs⟩)→evalOper G call o t=some ⟨putF o.dst v (tkF o.op t.sl),hp,ef,t.bs⟩:=fun t hp ef h1 h2=>by
   simp only [evalOper,h1,h2,putF_eq]
  refine ⟨fun l=>putF o.dst v (tkF o.op l),(tkF_loc o.op).comp (putF_loc o.dst v),by rw [putF_eq,S.sl],by rw [putF_eq]; exact S.bs,fun t ht h1 h2 h3=>?_,fun hs=>?_,fun hk t ht=>?_,fun hk t ht hl=>?_,fun hk t ht hl=>?_,fun hk=>?_,fun hk=>?_⟩
  ·rw [putF_eq]; exact run t _ _ ((wg t ht).trans hw) (S.any t ht.right h1 h2 h3)
  ·rw [putF_eq]; exact S.still hs
  ·exact run t _ _ ((wg t ht).trans hw) (S.free hk t ht.right)
  ·exact run t _ _ ((wg t ht).trans hw) (S.look hk t ht.right hl)
  ·exact run t _ _ ((wg t ht).trans hw) (S.read hk t ht.right hl)
  ·obtain ⟨e1,obs,e2,e3⟩:=S.alloc hk
   rw [putF_eq]
   exact ⟨e1,obs,e2,fun t ht hl=>run t _ _ ((wg t ht).trans hw) (e3 t ht.right hl)⟩
  ·obtain ⟨e1,e2,e3,e4⟩:=S.mark hk
   rw [putF_eq]
   exact ⟨e1,e2,e3,fun t obs ht h1 h2 h3=>run t _ _ ((wg t ht).trans hw) (e4 t obs ht.right h1 h2 h3)⟩
 ·rename_i hw
  obtain rfl:=Option.some.inj h
  have run:∀ t:AState,wantedA t o.guard=some false→evalOper G call o t=some ⟨putF o.dst .undef t.sl,t.hp,t.ef,t.bs⟩:=fun t h1=>by
   simp only [evalOper,h1,putF_eq]
  have hl:LocF (opWrites o) (putF o.dst .undef):=by
   have:=(LocF.id (opTakes o.op)).comp (putF_loc o.dst .undef)
   exact this
  rw [putF_eq]
  refine ⟨putF o.dst .undef,hl,rfl,rfl,fun t ht h1 h2 h3=>?_,fun _=>⟨rfl,rfl⟩,fun _ t ht=>run t ((wg t ht).trans hw),fun _ t ht _=>run t ((wg t ht).trans hw),fun _ t ht _=>run t ((wg t ht).trans hw),fun _=>⟨rfl,[],by simp,fun t ht _=>?_⟩,fun _=>⟨rfl,.refl _,.refl _,fun t obs ht h1 h2 h3=>?_⟩⟩
  ·rw [run t ((wg t ht).trans hw),h1,h2]
  ·rw [run t ((wg t ht).trans hw),List.append_nil]
  ·rw [run t ((wg t ht).trans hw),h1,h2]
theorem swap_ops (hq:∀ f args hp v hp' e,call f args hp=some (v,hp',e)→hp'=hp∧e=none){o1 o2:AOper}{s s1 s2:AState}(hc:commB o1 o2=true)(h1:evalOper G call o1 s=some s1)(h2:evalOper G call o2 s1=some s2) :
  ∃ u,evalOper G call o2 s=some u∧evalOper G call o1 u=some s2:=by
 simp only [commB,Bool.and_eq_true] at hc
 obtain ⟨⟨⟨hk,ha⟩,hb⟩,hd⟩:=hc
 split at hk <;> first | (cases hk; done) | skip
 rename_i k1 k2 hk1 hk2
 obtain ⟨f1,S1⟩:=step_of hq hk1 h1
 obtain ⟨f2,S2⟩:=step_of hq hk2 h2
 have A2:Agree (opReadsO o2) s1.sl s.sl:=by rw [S1.sl]; exact (Agree.of_loc S1.loc ha s.sl).symm
 have A1:∀ u:AState,u.sl=f2 s.sl→Agree (opReadsO o1) s.sl u.sl:=fun u hu=>by rw [hu]; exact Agree.of_loc S2.loc hd s.sl
 have fin:∀ (u:AState) (hp:List AObj) (ef:Eff),u.sl=f2 s.sl→u.bs=s.bs→hp=s2.hp→ef=s2.ef→evalOper G call o1 u=some ⟨f1 u.sl,hp,ef,u.bs⟩→evalOper G call o1 u=some s2:=fun u hp ef e1 e2 e3 e4 h=>by
  rw [h]
  have q1:f1 u.sl=s2.sl:=by rw [e1,S2.sl,S1.sl]; exact S1.loc.swap S2.loc hb s.sl
  have q2:u.bs=s2.bs:=by rw [e2,S2.bs,S1.bs]
  rw [q1,q2,e3,e4]
 cases k1 with
 | free =>
  obtain ⟨p1,p2⟩:=S1.still trivial
  have e:=S2.any s A2 p1.symm p2.symm S1.bs.symm
  exact ⟨_,e,fin _ _ _ rfl rfl rfl rfl (S1.free rfl _ (A1 _ rfl))⟩
 | look =>
  obtain ⟨p1,p2⟩:=S1.still trivial
  have e:=S2.any s A2 p1.symm p2.symm S1.bs.symm
  cases k2 with
  | free=>obtain ⟨q1,q2⟩:=S2.still trivial; exact ⟨_,e,fin _ _ _ rfl rfl rfl rfl (S1.look rfl _ (A1 _ rfl) (by show LookLe s.hp s2.hp; rw [q1,p1]; exact .refl _))⟩
  | look=>obtain ⟨q1,q2⟩:=S2.still trivial; exact ⟨_,e,fin _ _ _ rfl rfl rfl rfl (S1.look rfl _ (A1 _ rfl) (by show LookLe s.hp s2.hp; rw [q1,p1]; exact .refl _))⟩
  | read=>obtain ⟨q1,q2⟩:=S2.still trivial; exact ⟨_,e,fin _ _ _ rfl rfl rfl rfl (S1.look rfl _ (A1 _ rfl) (by show LookLe s.hp s2.hp; rw [q1,p1]; exact .refl _))⟩
  | mark=>obtain ⟨_,q2,_⟩:=S2.mark rfl; exact ⟨_,e,fin _ _ _ rfl rfl rfl rfl (S1.look rfl _ (A1 _ rfl) (by show LookLe s.hp s2.hp; rw [← p1]; exact q2))⟩
  | alloc =>
   obtain ⟨_,obs,q2,_⟩:=S2.alloc rfl
   refine ⟨_,e,fin _ _ _ rfl rfl rfl rfl (S1.look rfl _ (A1 _ rfl) ?_)⟩
   show LookLe s.hp s2.hp
   rw [q2,p1]
   exact .of_get (fun g cs t hg=>⟨cs,t,by rw [List.getElem?_append_left (List.getElem?_eq_some_iff.1 hg).1]; exact hg,rfl⟩) (fun g l t e m hg=>by rw [List.getElem?_append_left (List.getElem?_eq_some_iff.1 hg).1]; exact hg)
  | set=>cases hk
 | read =>
  obtain ⟨p1,p2⟩:=S1.still trivial
  have e:=S2.any s A2 p1.symm p2.symm S1.bs.symm
  cases k2 with
  | free=>obtain ⟨q1,q2⟩:=S2.still trivial; exact ⟨_,e,fin _ _ _ rfl rfl rfl rfl (S1.read trivial _ (A1 _ rfl) (q1.trans p1))⟩
  | look=>obtain ⟨q1,q2⟩:=S2.still trivial; exact ⟨_,e,fin _ _ _ rfl rfl rfl rfl (S1.read trivial _ (A1 _ rfl) (q1.trans p1))⟩
  | read=>obtain ⟨q1,q2⟩:=S2.still trivial; exact ⟨_,e,fin _ _ _ rfl rfl rfl rfl (S1.read trivial _ (A1 _ rfl) (q1.trans p1))⟩
  | mark=>cases hk
  | alloc=>cases hk
  | set=>cases hk
 | set =>
  cases k2 with
  | free =>
   obtain ⟨q1,q2⟩:=S2.still trivial
   have e:=S2.free rfl s A2
   exact ⟨_,e,fin _ _ _ rfl rfl q1.symm q2.symm (S1.any _ (A1 _ rfl) rfl rfl rfl)⟩
  | _=>cases hk
 | alloc =>
  cases k2 with
  | free =>
   obtain ⟨q1,q2⟩:=S2.still trivial
   have e:=S2.free rfl s A2
   exact ⟨_,e,fin _ _ _ rfl rfl q1.symm q2.symm (S1.any _ (A1 _ rfl) rfl rfl rfl)⟩
  | _=>cases hk
 | mark =>
  obtain ⟨m1,m2,m3,m4⟩:=S1.mark rfl
  cases k2 with
  | free =>
   obtain ⟨q1,q2⟩:=S2.still trivial
   have e:=S2.free rfl s A2
   exact ⟨_,e,fin _ _ _ rfl rfl q1.symm q2.symm (S1.any _ (A1 _ rfl) rfl rfl rfl)⟩
  | look =>
   obtain ⟨q1,q2⟩:=S2.still trivial
   have e:=S2.look rfl s A2 m3
   exact ⟨_,e,fin _ _ _ rfl rfl q1.symm q2.symm (S1.any _ (A1 _ rfl) rfl rfl rfl)⟩
  | alloc =>
   obtain ⟨q1,obs,q2,q3⟩:=S2.alloc rfl
   have e:=q3 s A2 m1.symm
   refine ⟨_,e,fin _ _ _ rfl rfl q2.symm q1.symm (m4 _ obs (A1 _ rfl) rfl rfl rfl)⟩
  | _=>cases hk
end
end Go.Proofs.YtcfjcimhjmpkiaaGreatDoor.Abs
end
section
namespace Go.Proofs.YtcfjcimhjmpkiaaGreatDoor.Abs
open Go Go.RowKit
section
variable {P:Program}{G:Nat→Option (List AV)}{call:FuncId→List AV→List AObj→Option (AV×List AObj×Eff)}{E:Entry}{s s':AState}{Γ:Ghost}{a:Act}{w:World}{hand:Nat→Bool}{draw:Bool}
def cGuard (ops:Array Oper):Option (Nat×Bool)→Option (Option (Nat×Bool))
 | none=>some none
 | some (j,want)=>match (ops[j]?).bind (·.dst) with
  | some d=>some (some (d,want))
  | none=>none
theorem wanted_ok (hI:Inv E s Γ a w){ops:Array Oper}{o:Oper}{g:Option (Nat×Bool)}{b:Bool}(hg:cGuard ops o.guard=some g)(h:wantedA s g=some b):Region.wanted o (yielded ops a.tmps)=b:=by
 unfold Region.wanted
 cases hq:o.guard with
 | none =>
  rw [hq] at hg
  obtain rfl:=Option.some.inj hg
  simp only [wantedA,Option.some.injEq] at h
  exact h
 | some p =>
  obtain ⟨j,want⟩:=p
  rw [hq] at hg
  simp only [cGuard] at hg
  split at hg
  ·rename_i d hd
   obtain rfl:=Option.some.inj hg
   simp only [wantedA] at h
   split at h <;> first | (cases h; done) | skip
   ·rename_i c hc
    obtain rfl:=Option.some.inj h
    have hr:=hI.slots.rep d _ hc
    have hlt:d < a.tmps.size:=by rw [hI.slots.size]; exact Zc hc
    have ht:a.tmps[d]? = some (a.tmps.getD d Go.undef):=getD_of_lt hlt
    generalize a.tmps.getD d Go.undef=u at hr ht
    cases hr
    simp only [yielded,hd,Option.bind_some,ht]
    cases c <;> cases want <;> rfl
   ·rename_i hc
    obtain rfl:=Option.some.inj h
    have hr:=hI.slots.rep d _ hc
    have hlt:d < a.tmps.size:=by rw [hI.slots.size]; exact Zc hc
    have ht:a.tmps[d]? = some (a.tmps.getD d Go.undef):=getD_of_lt hlt
    generalize a.tmps.getD d Go.undef=u at hr ht
    cases hr
    simp only [yielded,hd,Option.bind_some,ht]
    rfl
  ·cases hg
theorem cOpers_cons {ops:Array Oper}{o:Oper}{l:List Oper}{aops:List AOper}(h:cOpers P hand draw ops (o :: l)=some aops) :
  ∃ g r,cGuard ops o.guard=some g∧cOpers P hand draw ops l=some r∧aops=⟨o.dst,(cOp P hand draw o).getD .bad,g⟩ :: r:=by
 simp only [cOpers] at h
 split at h <;> first | (cases h; done) | skip
 rename_i g r h2 h3
 refine ⟨g,r,?_,h3,(Option.some.inj h).symm⟩
 rw [← h2]
 unfold cGuard
 cases o.guard with
 | none=>rfl
 | some p=>rfl
theorem some_of_eval {o:Oper}{s s':AState}{v:AV}{call:FuncId→List AV→List AObj→Option (AV×List AObj×Eff)}(h:evalOp G call s ((cOp P hand draw o).getD .bad)=some (v,s')):cOp P hand draw o=some ((cOp P hand draw o).getD .bad):=by
 cases hc:cOp P hand draw o with
 | none=>rw [hc] at h; simp [evalOp] at h
 | some ao=>rfl
theorem ops_wp (hG:GOk G E.W0)(hS:CallSpec P E.W0 call){ops:Array Oper}{Q:Exit→Act→World→Prop}:∀ {l:List Oper} {aops:List AOper} (k:Nat) {s s':AState} {Γ:Ghost} {a:Act} {w:World},(∀ j,l[j]? = ops[k + j]?) →
  cOpers P hand draw ops l=some aops→evalOps G call aops s=some s'→Inv E s Γ a w→(∀ Γ a w,Inv E s' Γ a w→Q .normal a w)→wpOps P ops Q (List.range' k l.length) a w
 | [],aops,k,s,s',Γ,a,w,_,hc,h,hI,hQ=>by
  obtain rfl:=Option.some.inj (by simpa [cOpers] using hc:some []=some aops)
  obtain rfl:=Option.some.inj (by simpa [evalOps] using h:some s=some s')
  exact hQ Γ a w hI
 | o :: l,aops,k,s,s',Γ,a,w,hl,hc,h,hI,hQ=>by
  obtain ⟨g,r,h2,h3,rfl⟩:=cOpers_cons hc
  have ho:ops[k]? = some o:=by simpa using (hl 0).symm
  simp only [evalOps] at h
  split at h <;> first | (cases h; done) | skip
  rename_i s1 he
  have hl':∀ j,l[j]? = ops[k + 1 + j]?:=fun j=>by
   have:=hl (j + 1)
   simpa [Nat.add_assoc,Nat.add_comm 1 j] using this
  simp only [List.length_cons,List.range'_succ,wpOps,ho]
  simp only [evalOper] at he
  split at he <;> first | (cases he; done) | skip
  ·rename_i hw
   rw [wanted_ok hI h2 hw]
   split at he <;> first | (cases he; done) | skip
   rename_i v s2 hev
   obtain rfl:=Option.some.inj he
   simp only [if_true]
   refine .inl (op_wp hG hS hI (some_of_eval hev) hev fun Γ' cv w' i1 r1 o1=>?_)
   obtain ⟨Γ2,i2⟩:=i1.put o.dst r1 o1
   exact ops_wp hG hS (k + 1) hl' h3 h i2 hQ
  ·rename_i hw
   rw [wanted_ok hI h2 hw]
   obtain rfl:=Option.some.inj he
   simp only [Bool.false_eq_true,if_false]
   obtain ⟨Γ2,i2⟩:=hI.put o.dst (v := .undef) (cv := Go.undef) .undef (.of_ne (by simp))
   exact ops_wp hG hS (k + 1) hl' h3 h i2 hQ
theorem ops_quiet (hG:GOk G E.W0)(hS:CallSpec P E.W0 call){ops:Array Oper}{Q:Exit→Act→World→Prop}{w:World}:∀ {l:List Oper} {aops:List AOper} {s s':AState} {Γ:Ghost} {a:Act},
  cOpers P hand draw ops l=some aops→quietAll aops=true→evalOps G (quietCall call) aops s=some s'→Inv E s Γ a w→(∀ Γ a w,Inv E s' Γ a w→Q .normal a w) →
  wpQuiet P ops (Behind w) (fun a'=>∀ w',Behind w w'→Q .normal a' w') l a
 | [],aops,s,s',Γ,a,hc,_,h,hI,hQ=>by
  obtain rfl:=Option.some.inj (by simpa [cOpers] using hc:some []=some aops)
  obtain rfl:=Option.some.inj (by simpa [evalOps] using h:some s=some s')
  exact fun w' hw'=>hQ Γ a w' (hw'.inv hI)
 | o :: l,aops,s,s',Γ,a,hc,hq,h,hI,hQ=>by
  obtain ⟨g,r,h2,h3,rfl⟩:=cOpers_cons hc
  simp only [quietAll,Bool.and_eq_true] at hq
  simp only [evalOps] at h
  split at h <;> first | (cases h; done) | skip
  rename_i s1 he
  simp only [wpQuiet]
  simp only [evalOper] at he
  split at he <;> first | (cases he; done) | skip
  ·rename_i hw
   rw [wanted_ok hI h2 hw]
   split at he <;> first | (cases he; done) | skip
   rename_i v s2 hev
   obtain rfl:=Option.some.inj he
   simp only [if_true]
   refine op_quiet hG hS hI (some_of_eval hev) hq.1.1 hq.1.2 hev fun cv e r1 o1=>?_
   subst e
   obtain ⟨Γ2,i2⟩:=hI.put o.dst r1 (o1 .res)
   exact ops_quiet hG hS h3 hq.2 h i2 hQ
  ·rename_i hw
   rw [wanted_ok hI h2 hw]
   obtain rfl:=Option.some.inj he
   simp only [Bool.false_eq_true,if_false]
   obtain ⟨Γ2,i2⟩:=hI.put o.dst (v := .undef) (cv := Go.undef) .undef (.of_ne (by simp))
   exact ops_quiet hG hS h3 hq.2 h i2 hQ
theorem bubble (hq:∀ f args hp v hp' e,call f args hp=some (v,hp',e)→hp'=hp∧e=none){o:AOper}{l2:List AOper}{sF:AState}:∀ {l1:List AOper} {s:AState},(∀ x ∈ l1,commB x o=true)→evalOps G call (l1 ++ o :: l2) s=some sF →
  ∃ u,evalOper G call o s=some u∧evalOps G call (l1 ++ l2) u=some sF
 | [],s,_,h=>by
  simp only [List.nil_append,evalOps] at h
  split at h <;> first | (cases h; done) | skip
  rename_i u hu
  exact ⟨u,hu,h⟩
 | x :: l1,s,hx,h=>by
  simp only [List.cons_append,evalOps] at h
  split at h <;> first | (cases h; done) | skip
  rename_i s1 h1
  obtain ⟨u1,h2,h3⟩:=bubble hq (fun y hy=>hx y (List.mem_cons_of_mem _ hy)) h
  obtain ⟨u,h4,h5⟩:=swap_ops hq (hx x (List.mem_cons_self ..)) h1 h2
  refine ⟨u,h4,?_⟩
  simp only [List.cons_append,evalOps,h5]
  exact h3
theorem quiet_pure:∀ f args hp v hp' e,quietCall call f args hp=some (v,hp',e)→hp'=hp∧e=none:=by
 intro f args hp v hp' e h
 unfold quietCall at h
 split at h <;> first | (cases h; done) | skip
 split at h <;> first | (cases h; done) | skip
 cases h
 exact ⟨rfl,rfl⟩
theorem cOpers_get:∀ {l:List Oper} {aops:List AOper} {ops:Array Oper},cOpers P hand draw ops l=some aops→l.length=aops.length∧∀ (i:Nat) (o:Oper),l[i]? = some o→∃ g,cGuard ops o.guard=some g∧aops[i]? = some ⟨o.dst,(cOp P hand draw o).getD .bad,g⟩
 | [],aops,ops,h=>by
  obtain rfl:=Option.some.inj (by simpa [cOpers] using h:some []=some aops)
  exact ⟨rfl,fun i o hi=>by simp at hi⟩
 | o :: l,aops,ops,h=>by
  obtain ⟨g,r,h2,h3,rfl⟩:=cOpers_cons h
  obtain ⟨h4,h5⟩:=cOpers_get h3
  refine ⟨by simp [h4],fun i o' hi=>?_⟩
  cases i with
  | zero=>cases hi; exact ⟨g,h2,rfl⟩
  | succ i=>exact h5 i o' hi
theorem oper_any (hG:GOk G E.W0)(hS:CallSpec P E.W0 call){ops:Array Oper}{o:Oper}{g:Option (Nat×Bool)}{u:AState}{K:Act→World→Prop}{Q:Exit→Act→World→Prop}(hn:noHand ((cOp P hand draw o).getD .bad)=true)(h2:cGuard ops o.guard=some g)
  (he:evalOper G (quietCall call) ⟨o.dst,(cOp P hand draw o).getD .bad,g⟩ s=some u) (hI:Inv E s Γ a w) (hK:∀ Γ a w,Inv E u Γ a w→K a w) :
  if Region.wanted o (yielded ops a.tmps)=true then o.wp P a w K Q∨(o.asks P a w∧LetsOut Q) else K (a.put o.dst Go.undef) w:=by
 simp only [evalOper] at he
 split at he <;> first | (cases he; done) | skip
 ·rename_i hw
  rw [wanted_ok hI h2 hw]
  split at he <;> first | (cases he; done) | skip
  rename_i v s2 hev
  obtain rfl:=Option.some.inj he
  simp only [if_true]
  refine .inl ?_
  by_cases hc:∃ f args,(cOp P hand draw o).getD .bad=.call f args
  ·obtain ⟨f,args,hcall⟩:=hc
   have hqt:quietOp ((cOp P hand draw o).getD .bad)=true:=by rw [hcall]; rfl
   refine Oper.wp_of_quiet (C := Behind w) (K := fun a'=>∀ w',Behind w w'→K a' w') (Behind.refl w) (fun a' w' hw' h=>h w' hw') ?_
   refine op_quiet hG hS hI (some_of_eval hev) hqt hn hev fun cv e r1 o1=>?_
   subst e
   obtain ⟨Γ2,i2⟩:=hI.put o.dst r1 (o1 .res)
   exact fun w' hw'=>hK _ _ w' (hw'.inv i2)
  ·have hev':evalOp G call s ((cOp P hand draw o).getD .bad)=some (v,s2):=by
    rw [← hev]
    cases hx:(cOp P hand draw o).getD .bad <;> first | rfl | exact absurd ⟨_,_,hx⟩ hc
   refine op_wp hG hS hI (some_of_eval hev') hev' fun Γ' cv w' i1 r1 o1=>?_
   obtain ⟨Γ2,i2⟩:=i1.put o.dst r1 o1
   exact hK _ _ _ i2
 ·rename_i hw
  rw [wanted_ok hI h2 hw]
  obtain rfl:=Option.some.inj he
  simp only [Bool.false_eq_true,if_false]
  obtain ⟨Γ2,i2⟩:=hI.put o.dst (v := .undef) (cv := Go.undef) .undef (.of_ne (by simp))
  exact hK _ _ _ i2
theorem getD_both' {listed:Array Bool}{i:Nat}(h:listed.getD i true=false):listed.getD i false=false:=by
 rcases Nat.lt_or_ge i listed.size with h' | h'
 ·simp [h'] at h ⊢; exact h
 ·simp [Array.getElem?_eq_none h'] at h
def restL (n:Nat)(listed:Array Bool):List Nat:=(List.range n).filter fun i=>!listed.getD i true
theorem restL_sorted (n:Nat)(listed:Array Bool):(restL n listed).Pairwise (· < ·):=List.Pairwise.filter _ List.pairwise_lt_range
theorem mem_restL {n i:Nat}{listed:Array Bool}:i ∈ restL n listed↔i < n∧listed.getD i true=false:=by simp [restL]
theorem restL_set {n i:Nat}{listed:Array Bool}{l1 l2:List Nat}(h:restL n listed=l1 ++ i :: l2)(hi:i < listed.size):restL n (listed.setIfInBounds i true)=l1 ++ l2:=by
 have hs:=restL_sorted n listed
 rw [h] at hs
 have h1:∀ j ∈ l1,j≠i:=fun j hj=>Nat.ne_of_lt ((List.pairwise_append.1 hs).2.2 j hj i (List.mem_cons_self ..))
 have h2:∀ j ∈ l2,j≠i:=fun j hj=>Nat.ne_of_gt ((List.pairwise_cons.1 (List.pairwise_append.1 hs).2.1).1 j hj)
 have e:restL n (listed.setIfInBounds i true)=(restL n listed).filter fun j=>decide (j≠i):=by
  unfold restL
  rw [List.filter_filter]
  refine List.filter_congr fun j _=>?_
  by_cases hji:j=i
  ·subst hji
   have:(listed.setIfInBounds j true).getD j true=true:=by simp [hi]
   simp [this]
  ·rw [getD_set_ne true (Ne.symm hji)]; simp [hji]
 rw [e,h,List.filter_append,List.filter_cons]
 simp only [ne_eq,not_true_eq_false,decide_false,Bool.false_eq_true,if_false]
 rw [List.filter_eq_self.2 (fun j hj=>by simpa using h1 j hj),List.filter_eq_self.2 (fun j hj=>by simpa using h2 j hj)]
theorem ops_any (hG:GOk G E.W0)(hS:CallSpec P E.W0 call){ops:Array Oper}{bops:List AOper}{Q:Exit→Act→World→Prop}{sF:AState}(hc:cOpers P hand draw ops ops.toList=some bops)(hd:drawOk ops bops=true)(hQ:∀ Γ a w,Inv E sF Γ a w→Q .normal a w) :
  ∀ (fuel:Nat) {listed:Array Bool} {s:AState} {Γ:Ghost} {a:Act} {w:World},listed.size=ops.size→ClosedL ops listed→(restL ops.size listed).length=fuel→evalOps G (quietCall call) ((restL ops.size listed).map fun i=>bops.getD i ⟨none,.bad,none⟩) s=some sF→Inv E s Γ a w→wpAny P .any ops Q fuel listed a w:=by
 simp only [drawOk,Bool.and_eq_true,List.all_eq_true,List.mem_range] at hd
 obtain ⟨⟨hord,hnh⟩,hpair⟩:=hd
 obtain ⟨hlen,hget⟩:=cOpers_get hc
 intro fuel
 induction fuel with
 | zero =>
  intro listed s Γ a w hsz hcl hl h hI
  have hn:=List.eq_nil_of_length_eq_zero hl
  rw [hn] at h
  obtain rfl:=Option.some.inj (by simpa [evalOps] using h:some s=some sF)
  refine ⟨List.eq_nil_iff_forall_not_mem.2 fun i hi=>?_,hQ _ _ _ hI⟩
  obtain ⟨h1,o,h2,_⟩:=mem_ready.1 hi
  have:i ∈ restL ops.size listed:=mem_restL.2 ⟨(Array.getElem?_eq_some_iff.1 h2).1,h1⟩
  rw [hn] at this
  cases this
 | succ fuel ih =>
  intro listed s Γ a w hsz hcl hl h hI
  have hlisted:∀ j,j < ops.size→listed.getD j true≠false→listed.getD j false=true:=fun j hj h=>by
   have hj':j < listed.size:=by omega
   simp [hj'] at h ⊢; exact h
  refine ⟨fun hr=>?_,fun i hi=>?_⟩
  ·obtain ⟨i,r,hir⟩:∃ i r,restL ops.size listed=i :: r:=by
    cases hx:restL ops.size listed with
    | nil=>rw [hx] at hl; cases hl
    | cons i r=>exact ⟨i,r,rfl⟩
   have him:=mem_restL.1 (show i ∈ restL ops.size listed by rw [hir]; exact List.mem_cons_self ..)
   have hoi:ops[i]? = some ops[i]:=Array.getElem?_eq_getElem him.1
   have hready:i ∈ Region.ready .any ops listed:=by
    refine mem_ready.2 ⟨him.2,_,hoi,fun e he hb=>?_⟩
    have:=hord i him.1
    rw [hoi] at this
    have hlt:=Array.all_eq_true'.1 this e he
    rw [hb] at hlt
    simp only [Bool.not_true,Bool.false_or,decide_eq_true_eq] at hlt
    refine hlisted e.on (by omega) fun hun=>?_
    have hm:=mem_restL.2 ⟨show e.on < ops.size by omega,hun⟩
    rw [hir] at hm
    have hs:=restL_sorted ops.size listed
    rw [hir] at hs
    rcases List.mem_cons.1 hm with he | hm
    ·omega
    ·have:=(List.pairwise_cons.1 hs).1 _ hm
     omega
   rw [hr] at hready
   cases hready
  ·obtain ⟨hun,o,ho,hdeps⟩:=mem_ready.1 hi
   have hin:=(Array.getElem?_eq_some_iff.1 ho).1
   obtain ⟨l1,l2,hsplit⟩:=List.append_of_mem (mem_restL.2 ⟨hin,hun⟩)
   have hs:=restL_sorted ops.size listed
   rw [hsplit] at hs
   obtain ⟨g,hg1,hg2⟩:=hget i o (by simpa using ho)
   have hbi:bops.getD i ⟨none,.bad,none⟩=⟨o.dst,(cOp P hand draw o).getD .bad,g⟩:=by rw [List.getD_eq_getElem?_getD,hg2]; rfl
   have hcomm:∀ x ∈ l1.map (fun i=>bops.getD i ⟨none,.bad,none⟩),commB x ⟨o.dst,(cOp P hand draw o).getD .bad,g⟩=true:=fun x hx=>by
    obtain ⟨j,hj,rfl⟩:=List.mem_map.1 hx
    have hji:j < i:=(List.pairwise_append.1 hs).2.2 j hj i (List.mem_cons_self ..)
    have hjm:=mem_restL.1 (show j ∈ restL ops.size listed by rw [hsplit]; exact List.mem_append_left _ hj)
    have:=hpair i hin j hji
    rw [Bool.or_eq_true] at this
    rcases this with h1 | h1
    ·exfalso
     have h2:=hcl.ready ho hdeps (waits_of h1)
     rw [getD_both' hjm.2] at h2
     cases h2
    ·rw [hg2] at h1
     split at h1
     ·rename_i x y hx hy
      cases hy
      rw [List.getD_eq_getElem?_getD,hx]
      exact h1
     ·cases h1
   rw [hsplit,List.map_append,List.map_cons,hbi] at h
   obtain ⟨u,hu1,hu2⟩:=bubble quiet_pure hcomm h
   rw [← List.map_append,← restL_set hsplit (by omega)] at hu2
   have hkk:noHand ((cOp P hand draw o).getD .bad)=true:=hnh _ (List.mem_of_getElem? hg2)
   have hlen2:(restL ops.size (listed.setIfInBounds i true)).length=fuel:=by
    rw [restL_set hsplit (by omega)]
    rw [hsplit] at hl
    simp at hl ⊢
    omega
   unfold wpOp
   simp only [ho]
   exact oper_any hG hS hkk hg1 hu1 hI fun Γ' a' w' hI'=>ih (by simp [hsz]) (hcl.list ho hdeps) hlen2 hu2 hI'
theorem oper_real (hG:GOk G E.W0)(hS:CallSpec P E.W0 call){ops:Array Oper}{o:Oper}{g:Option (Nat×Bool)}{u:AState}{K:Act→World→Prop}{Q:Exit→Act→World→Prop}(h2:cGuard ops o.guard=some g)
  (he:evalOper G call ⟨o.dst,(cOp P hand draw o).getD .bad,g⟩ s=some u) (hI:Inv E s Γ a w) (hK:∀ Γ a w,Inv E u Γ a w→K a w) :
  if Region.wanted o (yielded ops a.tmps)=true then o.wp P a w K Q∨(o.asks P a w∧LetsOut Q) else K (a.put o.dst Go.undef) w:=by
 simp only [evalOper] at he
 split at he <;> first | (cases he; done) | skip
 ·rename_i hw
  rw [wanted_ok hI h2 hw]
  split at he <;> first | (cases he; done) | skip
  rename_i v s2 hev
  obtain rfl:=Option.some.inj he
  simp only [if_true]
  refine .inl (op_wp hG hS hI (some_of_eval hev) hev fun Γ' cv w' i1 r1 o1=>?_)
  obtain ⟨Γ2,i2⟩:=i1.put o.dst r1 o1
  exact hK _ _ _ i2
 ·rename_i hw
  rw [wanted_ok hI h2 hw]
  obtain rfl:=Option.some.inj he
  simp only [Bool.false_eq_true,if_false]
  obtain ⟨Γ2,i2⟩:=hI.put o.dst (v := .undef) (cv := Go.undef) .undef (.of_ne (by simp))
  exact hK _ _ _ i2
def restS (n size:Nat)(listed:Array Bool):List Nat:=(List.range size).filter fun i=>decide (n≤i) && !listed.getD i true
theorem restS_sorted (n size:Nat)(listed:Array Bool):(restS n size listed).Pairwise (· < ·):=List.Pairwise.filter _ List.pairwise_lt_range
theorem mem_restS {n size i:Nat}{listed:Array Bool}:i ∈ restS n size listed↔i < size∧n≤i∧listed.getD i true=false:=by simp [restS]
theorem restS_off {n size i:Nat}{listed:Array Bool}(hi:i < n):restS n size (listed.setIfInBounds i true)=restS n size listed:=by
 unfold restS
 refine List.filter_congr fun j _=>?_
 by_cases hj:n≤j
 ·rw [getD_set_ne true (show i≠j by omega)]
 ·simp [hj]
theorem restS_on {n size i:Nat}{listed:Array Bool}(hi:i < listed.size)(hs:i < size)(hn:n≤i)(hun:listed.getD i true=false)(hb:∀ j,n≤j→j < i→listed.getD j true≠false):restS n size listed=i :: restS n size (listed.setIfInBounds i true):=by
 have e:restS n size (listed.setIfInBounds i true)=(restS n size listed).filter fun j=>decide (j≠i):=by
  unfold restS
  rw [List.filter_filter]
  refine List.filter_congr fun j _=>?_
  by_cases hji:j=i
  ·subst hji
   have:(listed.setIfInBounds j true).getD j true=true:=by simp [hi]
   simp [this]
  ·rw [getD_set_ne true (Ne.symm hji)]; simp [hji]
 obtain ⟨l1,l2,hsp⟩:=List.append_of_mem (mem_restS.2 ⟨hs,hn,hun⟩)
 have hso:=restS_sorted n size listed
 rw [hsp] at hso
 have h1:l1=[]:=List.eq_nil_iff_forall_not_mem.2 fun j hj=>by
  have hlt:=(List.pairwise_append.1 hso).2.2 j hj i (List.mem_cons_self ..)
  have hm:=mem_restS.1 (show j ∈ restS n size listed by rw [hsp]; exact List.mem_append_left _ hj)
  exact hb j hm.2.1 hlt hm.2.2
 subst h1
 rw [e,hsp,List.nil_append,List.filter_cons]
 simp only [ne_eq,not_true_eq_false,decide_false,Bool.false_eq_true,if_false]
 rw [List.filter_eq_self.2 fun j hj=>?_]
 have:=(List.pairwise_cons.1 hso).1 j hj
 have:j≠i:=by omega
 simpa using this
theorem ops_pin (hG:GOk G E.W0)(hS:CallSpec P E.W0 call){ops:Array Oper}{bops:List AOper}{n:Nat}{Q:Exit→Act→World→Prop}{sF:AState}(hc:cOpers P hand draw ops ops.toList=some bops)(hd:pinOk ops bops n=true)(hQ:∀ Γ a w,Inv E sF Γ a w→Q .normal a w) :
  ∀ (fuel:Nat) {listed:Array Bool} {s s1:AState} {Γ:Ghost} {a:Act} {w:World},listed.size=ops.size→ClosedL ops listed→(restL n listed).length + (restS n ops.size listed).length=fuel →
   evalOps G (quietCall call) ((restL n listed).map fun i=>bops.getD i ⟨none,.bad,none⟩) s=some s1→evalOps G call ((restS n ops.size listed).map fun i=>bops.getD i ⟨none,.bad,none⟩) s1=some sF→Inv E s Γ a w→wpAny P .any ops Q fuel listed a w:=by
 simp only [pinOk,Bool.and_eq_true,List.all_eq_true,List.mem_range,decide_eq_true_eq] at hd
 obtain ⟨⟨⟨⟨hord,hnh⟩,hnle⟩,hpin⟩,hpair⟩:=hd
 obtain ⟨hlen,hget⟩:=cOpers_get hc
 intro fuel
 induction fuel with
 | zero =>
  intro listed s s1 Γ a w hsz hcl hl h h' hI
  have hn1:=List.eq_nil_of_length_eq_zero (show (restL n listed).length=0 by omega)
  have hn2:=List.eq_nil_of_length_eq_zero (show (restS n ops.size listed).length=0 by omega)
  rw [hn1] at h
  rw [hn2] at h'
  obtain rfl:=Option.some.inj (by simpa [evalOps] using h:some s=some s1)
  obtain rfl:=Option.some.inj (by simpa [evalOps] using h':some s=some sF)
  refine ⟨List.eq_nil_iff_forall_not_mem.2 fun i hi=>?_,hQ _ _ _ hI⟩
  obtain ⟨k1,o,k2,_⟩:=mem_ready.1 hi
  have hin:=(Array.getElem?_eq_some_iff.1 k2).1
  rcases Nat.lt_or_ge i n with hlt | hge
  ·have:i ∈ restL n listed:=mem_restL.2 ⟨hlt,k1⟩
   rw [hn1] at this; cases this
  ·have:i ∈ restS n ops.size listed:=mem_restS.2 ⟨hin,hge,k1⟩
   rw [hn2] at this; cases this
 | succ fuel ih =>
  intro listed s s1 Γ a w hsz hcl hl h h' hI
  have hlisted:∀ j,j < ops.size→listed.getD j true≠false→listed.getD j false=true:=fun j hj h=>by
   have hj':j < listed.size:=by omega
   simp [hj'] at h ⊢; exact h
  refine ⟨fun hr=>?_,fun i hi=>?_⟩
  ·
   have hex:∃ i,i < ops.size∧listed.getD i true=false∧∀ j,j < i→listed.getD j true≠false:=by
    have hne:∃ i,i < ops.size∧listed.getD i true=false:=by
     cases hx:restL n listed with
     | cons i r =>
      have:=mem_restL.1 (show i ∈ restL n listed by rw [hx]; exact List.mem_cons_self ..)
      exact ⟨i,by omega,this.2⟩
     | nil =>
      cases hy:restS n ops.size listed with
      | nil=>rw [hx,hy] at hl; simp at hl
      | cons i r =>
       have:=mem_restS.1 (show i ∈ restS n ops.size listed by rw [hy]; exact List.mem_cons_self ..)
       exact ⟨i,this.1,this.2.2⟩
    obtain ⟨i,h1,h2⟩:=hne
    induction i using Nat.strongRecOn with
    | _ i ihi =>
     by_cases hx:∃ j,j < i∧listed.getD j true=false
     ·obtain ⟨j,hj1,hj2⟩:=hx
      exact ihi j hj1 (by omega) hj2
     ·exact ⟨i,h1,h2,fun j hj hq=>hx ⟨j,hj,hq⟩⟩
   obtain ⟨i,him,hun,hleast⟩:=hex
   have hoi:ops[i]? = some ops[i]:=Array.getElem?_eq_getElem him
   have hready:i ∈ Region.ready .any ops listed:=by
    refine mem_ready.2 ⟨hun,_,hoi,fun e he hb=>?_⟩
    have:=hord i him
    rw [hoi] at this
    have hlt:=Array.all_eq_true'.1 this e he
    rw [hb] at hlt
    simp only [Bool.not_true,Bool.false_or,decide_eq_true_eq] at hlt
    exact hlisted e.on (by omega) (hleast _ hlt)
   rw [hr] at hready
   cases hready
  ·obtain ⟨hun,o,ho,hdeps⟩:=mem_ready.1 hi
   have hin:=(Array.getElem?_eq_some_iff.1 ho).1
   obtain ⟨g,hg1,hg2⟩:=hget i o (by simpa using ho)
   have hbi:bops.getD i ⟨none,.bad,none⟩=⟨o.dst,(cOp P hand draw o).getD .bad,g⟩:=by rw [List.getD_eq_getElem?_getD,hg2]; rfl
   unfold wpOp
   simp only [ho]
   rcases Nat.lt_or_ge i n with hlt | hge
   ·obtain ⟨l1,l2,hsplit⟩:=List.append_of_mem (mem_restL.2 ⟨hlt,hun⟩)
    have hs:=restL_sorted n listed
    rw [hsplit] at hs
    have hcomm:∀ x ∈ l1.map (fun i=>bops.getD i ⟨none,.bad,none⟩),commB x ⟨o.dst,(cOp P hand draw o).getD .bad,g⟩=true:=fun x hx=>by
     obtain ⟨j,hj,rfl⟩:=List.mem_map.1 hx
     have hji:j < i:=(List.pairwise_append.1 hs).2.2 j hj i (List.mem_cons_self ..)
     have hjm:=mem_restL.1 (show j ∈ restL n listed by rw [hsplit]; exact List.mem_append_left _ hj)
     have:=hpair i hlt j hji
     rw [Bool.or_eq_true] at this
     rcases this with h1 | h1
     ·exfalso
      have h2:=hcl.ready ho hdeps (waits_of h1)
      rw [getD_both' hjm.2] at h2
      cases h2
     ·rw [hg2] at h1
      split at h1
      ·rename_i x y hx hy
       cases hy
       rw [List.getD_eq_getElem?_getD,hx]
       exact h1
      ·cases h1
    rw [hsplit,List.map_append,List.map_cons,hbi] at h
    obtain ⟨u,hu1,hu2⟩:=bubble quiet_pure hcomm h
    rw [← List.map_append,← restL_set hsplit (by omega)] at hu2
    have hkk:noHand ((cOp P hand draw o).getD .bad)=true:=by
     have hm:(⟨o.dst,(cOp P hand draw o).getD .bad,g⟩:AOper) ∈ bops.take n:=by
      refine List.mem_of_getElem? (i := i) ?_
      rw [List.getElem?_take_of_lt hlt]; exact hg2
     exact hnh _ hm
    rw [← restS_off (size := ops.size) (listed := listed) hlt] at h'
    refine oper_any hG hS hkk hg1 hu1 hI fun Γ' a' w' hI'=>ih (by simp [hsz]) (hcl.list ho hdeps) ?_ hu2 h' hI'
    rw [restL_set hsplit (by omega),restS_off hlt]
    rw [hsplit] at hl
    simp at hl ⊢
    omega
   ·have hall:∀ j,j < i→listed.getD j true≠false:=fun j hj hq=>by
     have hw:waitsB ops i j=true:=by
      rcases Bool.or_eq_true _ _ ▸ hpin i hin with h1 | h1
      ·have:i < n:=by simpa using h1
       omega
      ·exact List.all_eq_true.1 h1 j (List.mem_range.2 hj)
     have h2:=hcl.ready ho hdeps (waits_of hw)
     rw [getD_both' hq] at h2
     cases h2
    have hnil:restL n listed=[]:=List.eq_nil_iff_forall_not_mem.2 fun j hj=>by
     have:=mem_restL.1 hj
     exact hall j (by omega) this.2
    have hnil2:restL n (listed.setIfInBounds i true)=[]:=List.eq_nil_iff_forall_not_mem.2 fun j hj=>by
     have hm:=mem_restL.1 hj
     rw [getD_set_ne true (show i≠j by omega)] at hm
     exact hall j (by omega) hm.2
    rw [hnil] at h
    obtain rfl:=Option.some.inj (by simpa [evalOps] using h:some s=some s1)
    have hon:=restS_on (n := n) (size := ops.size) (listed := listed) (by omega) hin hge hun (fun j _ hj=>hall j hj)
    rw [hon,List.map_cons,hbi] at h'
    simp only [evalOps] at h'
    split at h' <;> first | (cases h'; done) | skip
    rename_i u hu
    refine oper_real hG hS hg1 hu hI fun Γ' a' w' hI'=>ih (s1 := u) (by simp [hsz]) (hcl.list ho hdeps) ?_ (by rw [hnil2]; rfl) h' hI'
    rw [hnil2]
    rw [hnil,hon] at hl
    simp at hl ⊢
    omega
end
end Go.Proofs.YtcfjcimhjmpkiaaGreatDoor.Abs
end
end
