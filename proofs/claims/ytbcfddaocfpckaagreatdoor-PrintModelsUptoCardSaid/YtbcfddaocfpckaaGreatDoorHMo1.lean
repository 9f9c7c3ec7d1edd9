import Derived.Deep.Quiet
import Derived.Orders
import Derived.LoopN
import Derived.Scope
import Derived.IntWalk
import Derived.Test.YtbcfddaocfpckaaGreatDoorHMo0
set_option linter.all false
open Array renaming getElem?_toList→aF,getElem?_eq_none→fA,getElem?_push→fB,getD_eq_getD_getElem?→aA,getElem?_map→aI,getElem?_eq_some_iff→fC,getElem?_eq_getElem→aG,all_eq_true'→fD,replicate→fE
open Bool renaming not_true→fF,false_eq_true→aK,and_eq_true→fG,not_eq_true'→fH,false_or→fJ,or_eq_true→aJ
open List renaming map_cons→cO,map_nil→cZ,range'_succ→fK,all_eq_true→aQ,ext_getElem?→fM,getElem?_map→aP,getElem?_eq_getElem→bG,getElem_mem→bZ,getElem?_eq_none→aX,all_cons→fO,getElem?_append→aW,getElem?_cons_zero→aY,getElem?_set→aU,getElem?_modify→aV,append_assoc→bJ,getElem?_append_left→bK,getElem?_append_right→bM,length_map→dF,length_append→aZ,mem_of_getElem?→aS,getElem?_set_ne→fQ,mem_append_left→fU,mem_append_right→fV,getElem?_eq_some_iff→ag,mem_cons_of_mem→ai,append_nil→fZ,nil_append→bn,cons_append→gB,mem_cons_self→aj,range→ah,pairwise_lt_range→gG,pairwise_append→gI,pairwise_cons→gJ,filter_filter→gK,filter_congr→gQ,filter_append→gU,filter_cons→gV,filter_eq_self→gW,mem_range→gX,eq_nil_of_length_eq_zero→bg,eq_nil_iff_forall_not_mem→gY,mem_cons→gZ,append_of_mem→gm,getD_eq_getElem?_getD→au,mem_map→dD,map_append→gp,getElem?_take→bH,replicate→aO,eq_of_mem_replicate→gq,getElem?_range→bF,take_range→gu,mem_iff_getElem?→bP,getElem?_drop→bI,mapM_cons→gy
open Nat renaming zero_add→dR,lt_or_ge→dJ,sub_self→dN,le_trans→dK,lt_of_lt_of_le→dM,le_refl→dI,not_lt_zero→gz,beq→iC,blt→iD,eq_of_beq_eq_true→iE,beq_refl→iF
open Option renaming map_eq_some_iff→eP,map_some→eX,bind_some→iG
open Option.some renaming injEq→eu,inj→ed
open Prod.mk renaming injEq→iH,inj→iI
section
section
namespace Go.Proofs.YtbcfddaocfpckaaGreatDoor.Abs
open Go Go.RowKit
section
variable {P:Program}{w:World}
def EntRel (e:AV×AV)(m:MapEntry):Prop:=e.1.flat=true∧e.2.flat1=true∧m.key=e.1.conc∧m.val=e.2.conc1
theorem eqCell_same {c:CK}{a b:AV}(h:eqCell c a b=some true):a.conc1=b.conc1:=by
 cases c<;>cases a<;>cases b<;>simp only [eqCell] at h<;>first|(cases h;done)|skip
 ·split at h
  ·rename_i e
   subst e
   simp only [eu,beq_iff_eq] at h
   rw [h]
  ·cases h
 ·simp only [eu,beq_iff_eq] at h
  rw [h]
 ·simp only [eu,beq_iff_eq] at h
  rw [h]
theorem eqCell_flat {c:CK}{a b:AV}{q:Bool}(h:eqCell c a b=some q):a.flat1=true∧b.flat1=true:=by
 cases c<;>cases a<;>cases b<;>simp only [eqCell] at h<;>first|(cases h;done)|exact ⟨rfl,rfl⟩
theorem flat1_conc {a:AV}(h:a.flat1=true):a.conc=a.conc1:=by cases a<;>first|rfl|(cases h)
theorem keySh_one {kt:TypeId}{c:CK}(hk:keySh P kt=some (.one c)):cKind P kt=some c:=by
 unfold keySh at hk
 split at hk
 ·split at hk
  ·split at hk<;>cases hk
  ·cases hk
 ·obtain ⟨c',h1,h2⟩:=eP.1 hk
  cases h2;exact h1
theorem keySh_pair {kt:TypeId}{c:CK}(hk:keySh P kt=some (.pair c)):∃e,P.underlying kt=some (.array 2 e)∧cKind P e=some c∧P.cellsOf e=1:=by
 unfold keySh at hk
 split at hk
 ·rename_i n e hu
  split at hk
  ·rename_i c' hc
   split at hk
   ·rename_i h2
    cases hk
    obtain ⟨hsz,rfl⟩:=h2
    exact ⟨e,hu,hc,hsz⟩
   ·cases hk
  ·cases hk
 ·obtain ⟨_,_,e⟩:=eP.1 hk;cases e
theorem keyEq_run {kt:TypeId}{sh:KSh}{a b:AV}{q:Bool}(hk:keySh P kt=some sh)(h:keyEq sh a b=some q)(w:World):(Op.equal kt a.conc b.conc).run P w=.ok q w∧(q=true→a.conc=b.conc):=by
 cases sh with
 |one c =>
  have hc:=keySh_one hk
  obtain ⟨f1,f2⟩:=eqCell_flat h
  rw [flat1_conc f1,flat1_conc f2]
  exact ⟨eqCell_run (Γ := fun _=>.imm) (w := w) hc (conc1_rep f1 _ w) (conc1_rep f2 _ w) h 9999 w,fun e=>by subst e;exact eqCell_same h⟩
 |pair c =>
  obtain ⟨e,hu,hc,hsz⟩:=keySh_pair hk
  unfold keyEq at h
  split at h<;>first|(cases h;done)|skip
  ·rename_i e;cases e
  rename_i c' x0 x1 y0 y1 e'
  cases e'
  obtain ⟨g1,g2⟩:=cKind_one hc
  obtain ⟨ie,hie⟩:=info_of_underlying g2
  have hp:∀(z0 z1:Value) (W:World),(part e #[z0,z1] 0).run P W=.ok z0 W∧(part e #[z0,z1] 1).run P W=.ok z1 W:=fun z0 z1 W=>⟨part_cell g1 g2 rfl W,part_cell g1 g2 rfl W⟩
  have he:∀{x y:AV} {r:Bool},eqCell c x y=some r→∀W,(Op.equalIn 9999 e x.conc1 y.conc1).run P W=.ok r W:=fun hr W=>by
   obtain ⟨f1,f2⟩:=eqCell_flat hr
   exact eqCell_run (Γ := fun _=>.imm) (w := W) hc (conc1_rep f1 _ W) (conc1_rep f2 _ W) hr 9998 W
  have hrun:∀{q0:Bool},eqCell c x0 y0=some q0→∀q1,(q0=true→eqCell c x1 y1=some q1)→(Op.equal kt (AV.agg [x0,x1]).conc (AV.agg [y0,y1]).conc).run P w=.ok (q0&&q1) w:=by
   intro q0 h0 q1 h1
   have e0:=he h0 w
   have:=run_equalIn_array (P := P) w 9999 (AV.conc1 x0::[AV.conc1 x1]).toArray (AV.conc1 y0::[AV.conc1 y1]).toArray hu hie
   show (Op.equalIn (9999+1) kt (.agg (AV.conc1 x0::[AV.conc1 x1]).toArray) (.agg (AV.conc1 y0::[AV.conc1 y1]).toArray)).run P w=_
   rw [this,hsz]
   show (Op.eqItems 9999 e 1 #[x0.conc1,x1.conc1] #[y0.conc1,y1.conc1] [0,1]).run P w=_
   simp only [Op.eqItems,Sem.run_bind,Nat.mul_one,(hp _ _ w).1,Result.andThen_ok,e0]
   cases q0 with
   |false=>simp
   |true =>
    have e1:=he (h1 rfl) w
    simp only [fF,aK,if_false,Sem.run_bind,(hp _ _ w).2,Result.andThen_ok,e1]
    cases q1<;>simp
  cases h0:eqCell c x0 y0 with
  |none=>rw [h0] at h;cases h
  |some q0 =>
   rw [h0] at h
   cases q0 with
   |false =>
    obtain rfl:=ed h
    exact ⟨by simpa using hrun h0 false (fun h=>by cases h),fun h=>by cases h⟩
   |true =>
    have h1:eqCell c x1 y1=some q:=h
    refine ⟨by simpa using hrun h0 q (fun _=>h1),fun e=>?_⟩
    subst e
    simp only [AV.conc,cO,cZ,eqCell_same h0,eqCell_same h1]
structure Found (sh:KSh)(k:AV)(es:List (AV×AV))(st:Nat)(r:Option AV)(q:Option (Nat×Value)):Prop where
 no:r=none→q=none∧∀v,update sh k v es=some (es++[(k,v)])
 yes:∀v,r=some v→∃i k',q=some (st+i,v.conc1)∧v.flat1=true∧es[i]? = some (k',v)∧k.conc=k'.conc∧∀v2,update sh k v2 es=some (es.set i (k',v2))
theorem Found.here {sh:KSh}{k k' v:AV}{es:List (AV×AV)}{st:Nat}(hq:keyEq sh k k'=some true)(hc:k.conc=k'.conc)(hf:v.flat1=true):Found sh k ((k',v)::es) st (some v) (some (st,v.conc1)) :=
 ⟨fun e=>(by cases e),fun u e=>by cases e;exact ⟨0,k',rfl,hf,rfl,hc,fun v2=>by simp [update,hq]⟩⟩
theorem Found.later {sh:KSh}{k k' v:AV}{es:List (AV×AV)}{st:Nat}{r:Option AV}{q:Option (Nat×Value)}(hq:keyEq sh k k'=some false)(h:Found sh k es (st+1) r q):Found sh k ((k',v)::es) st r q:=by
 refine ⟨fun e=>⟨(h.no e).1,fun v2=>by simp [update,hq,(h.no e).2 v2]⟩,fun u e=>?_⟩
 obtain ⟨i,k2,h1,h2,h3,h4,h5⟩:=h.yes u e
 exact ⟨i+1,k2,by rw [h1,Nat.add_assoc,Nat.add_comm 1 i],h2,by simpa using h3,h4,fun v2=>by simp [update,hq,h5 v2]⟩
theorem Found.none_ {sh:KSh}{k:AV}{st:Nat}:Found sh k [] st none none:=⟨fun _=>⟨rfl,fun _=>rfl⟩,fun _ e=>by cases e⟩
theorem find_run {kt:TypeId}{sh:KSh}{k:AV}(hk:keySh P kt=some sh)(w:World):∀{es:List (AV×AV)} {ms:List MapEntry} {r:Option AV} (st:Nat),All2 EntRel es ms→find sh k es=some r →
  ∃q,(Instr.findAsking kt k.conc ms st).run P w=.ok q w∧Found sh k es st r q
 |_,_,r,st,.nil,h=>by
  obtain rfl:=ed h
  exact ⟨none,rfl,.none_⟩
 |_,_,r,st,.cons (x := e) (y := m) (l := es) (m := ms) he hes,h=>by
  obtain ⟨k',v⟩:=e
  simp only [find] at h
  cases hq:keyEq sh k k' with
  |none=>rw [hq] at h;cases h
  |some q =>
   rw [hq] at h
   obtain ⟨e1,e2⟩:=keyEq_run hk hq w
   obtain ⟨r1,r2,r3,r4⟩:=he
   cases q with
   |true =>
    obtain rfl:=ed h
    refine ⟨some (st,v.conc1),?_,.here hq (e2 rfl) r2⟩
    simp only [Instr.findAsking,Sem.run_bind,r3,e1,Result.andThen_ok,r4]
    rfl
   |false =>
    obtain ⟨q,h1,h2⟩:=find_run hk w (st+1) hes h
    refine ⟨q,?_,.later hq h2⟩
    simp only [Instr.findAsking,Sem.run_bind,r3,e1,Result.andThen_ok]
    exact h1
theorem sameNow_one {kt:TypeId}{c:CK}{a b:AV}{q:Bool}{d:TypeDesc}(hc:cKind P kt=some c)(hd:P.underlying kt=some d)(h:eqCell c a b=some q):Instr.sameNow d a.conc1 b.conc1=some q:=by
 unfold cKind at hc
 rw [hd] at hc
 cases d<;>simp only at hc<;>first|(cases hc;done)|skip
 all_goals
  cases hc
  cases a<;>cases b<;>simp only [eqCell] at h<;>first|(cases h;done)|skip
 all_goals first
  |exact h
  |(simp only [AV.conc1,Instr.sameNow];rw [← h];congr 1;rw [Bool.eq_iff_iff,beq_toListBytes];simp)
theorem findNow_run {kt:TypeId}{c:CK}{k:AV}{d:TypeDesc}(hk:keySh P kt=some (.one c))(hd:P.underlying kt=some d):∀{es:List (AV×AV)} {ms:List MapEntry} {r:Option AV} (st:Nat),All2 EntRel es ms→find (.one c) k es=some r →
  ∃q,Instr.findNow d k.conc ms st=some q∧Found (.one c) k es st r q
 |_,_,r,st,.nil,h=>by
  obtain rfl:=ed h
  exact ⟨none,rfl,.none_⟩
 |_,_,r,st,.cons (x := e) (y := m) (l := es) (m := ms) he hes,h=>by
  obtain ⟨k',v⟩:=e
  simp only [find] at h
  cases hq:keyEq (.one c) k k' with
  |none=>rw [hq] at h;cases h
  |some q =>
   rw [hq] at h
   obtain ⟨r1,r2,r3,r4⟩:=he
   obtain ⟨f1,f2⟩:=eqCell_flat hq
   have hs:=sameNow_one (keySh_one hk) hd hq
   rw [← flat1_conc f1,← flat1_conc f2] at hs
   cases q with
   |true =>
    obtain rfl:=ed h
    refine ⟨some (st,v.conc1),?_,.here hq (by rw [flat1_conc f1,flat1_conc f2];exact eqCell_same hq) r2⟩
    simp only [Instr.findNow,r3,hs,r4]
   |false =>
    obtain ⟨q,h1,h2⟩:=findNow_run hk hd (st+1) hes h
    refine ⟨q,?_,.later hq h2⟩
    simp only [Instr.findNow,r3,hs]
    exact h1
theorem findKey_run {kt:TypeId}{sh:KSh}{k:AV}(hk:keySh P kt=some sh)(w:World){es:List (AV×AV)}{ms:List MapEntry}{r:Option AV}(he:All2 EntRel es ms)(h:find sh k es=some r) :
  ∃q,(Instr.findKey kt k.conc ms).run P w=.ok q w∧Found sh k es 0 r q:=by
 cases sh with
 |one c =>
  have hc:=keySh_one hk
  obtain ⟨d,hd⟩:=Option.isSome_iff_exists.1 (cKind_one hc).2
  obtain ⟨q,h1,h2⟩:=findNow_run hk hd 0 he h
  exact ⟨q,Go.MapKept.run_findKey hd h1,h2⟩
 |pair c =>
  obtain ⟨e,hu,_,_⟩:=keySh_pair hk
  obtain ⟨q,h1,h2⟩:=find_run hk w 0 he h
  exact ⟨q,(run_findKey_eq w (by rw [hu]) _ _).trans h1,h2⟩
theorem keyFit_flat {sh:KSh}{k:AV}(h:keyFit sh k=true):k.flat=true:=by
 unfold keyFit at h
 split at h<;>first|rfl|(cases h;done)
theorem checkKey_run {kt:TypeId}{sh:KSh}{k:AV}(hk:keySh P kt=some sh)(h:keyFit sh k=true)(e:Bool)(w:World):(Instr.checkKey e 10000 kt k.conc).run P w=.ok () w:=by
 have plain:∀{t:TypeId} {c:CK} (n:Nat) (v:Value),cKind P t=some c→(Instr.checkKey e (n+1) t v).run P w=.ok () w:=fun {t c} n v hc=>by
  unfold cKind at hc
  cases hd:P.underlying t with
  |none=>rw [hd] at hc;cases hc
  |some d =>
   rw [hd] at hc
   cases d<;>simp only at hc<;>first|(cases hc;done)|skip
   all_goals simp [Instr.checkKey,run_underlying hd]
 cases sh with
 |one c=>exact plain 9999 _ (keySh_one hk)
 |pair c =>
  obtain ⟨el,hu,hc,hsz⟩:=keySh_pair hk
  obtain ⟨g1,g2⟩:=cKind_one hc
  obtain ⟨ie,hie⟩:=info_of_underlying g2
  have hp:∀(z0 z1:Value),(part el #[z0,z1] 0).run P w=.ok z0 w∧(part el #[z0,z1] 1).run P w=.ok z1 w:=fun z0 z1=>⟨part_cell g1 g2 rfl w,part_cell g1 g2 rfl w⟩
  have hs:=sizeOf_run hie w
  rw [hsz] at hs
  have key:∀x0 x1:AV,(Instr.checkKey e (9999+1) kt (AV.agg [x0,x1]).conc).run P w=.ok () w:=fun x0 x1=>by
   have p1:=plain 9998 x0.conc1 hc
   have p2:=plain 9998 x1.conc1 hc
   simp only [AV.conc,cO,cZ]
   unfold Instr.checkKey
   simp only [Sem.run_bind,run_underlying hu,Result.andThen_ok]
   simp only [Std.Legacy.Range.forIn_eq_forIn_range',Std.Legacy.Range.size,Nat.sub_zero,Nat.add_one_sub_one,Nat.div_one]
   simp only [fK,List.range'_zero,List.forIn_cons,List.forIn_nil,Sem.run_bind,hs,Result.andThen_ok,Nat.zero_mul,dR,Nat.mul_one,(hp _ _).1,(hp _ _).2,p1,p2,Sem.run_pure]
  unfold keyFit at h
  split at h<;>first|(cases h;done)|skip
  all_goals first|exact key _ _|(rename_i e;cases e;done)|(rename_i e _;cases e;done)|(rename_i e _ _;cases e;done)|(rename_i e _ _ _;cases e;done)
end
section
variable {P:Program}{G:Nat→Option (List AV)}{E:Entry}{s:AState}{Γ:Ghost}{a:Act}{w:World}{o:Oper}
theorem conc_of_rep {v:AV}{cv:Value}(h:Rep Γ w v cv)(hf:v.flat=true):cv=v.conc:=by
 cases h with
 |agg cells cv hs h1 hn hr =>
  simp only [AV.flat,aQ] at hf
  simp only [AV.conc,Value.agg.injEq]
  apply Array.ext'
  apply fM
  intro j
  simp only [aP,aF]
  by_cases hj:j<cells.length
  ·have hc:=bG hj
   have:=(hr j _ hc).conc1 (hf _ (bZ hj))
   rw [hc,eX,← this]
   exact getD_of_lt (by omega)
  ·rw [aX (by omega),fA (by omega)];rfl
 |tup vs cv hs hr =>
  simp only [AV.flat,aQ] at hf
  simp only [AV.conc,Value.tuple.injEq]
  apply Array.ext'
  apply fM
  intro j
  simp only [aP,aF]
  by_cases hj:j<vs.length
  ·have hc:=bG hj
   have:=(hr j _ hc).conc1 (hf _ (bZ hj))
   rw [hc,eX,← this]
   exact getD_of_lt (by omega)
  ·rw [aX (by omega),fA (by omega)];rfl
 |fn f fst caps fv cv hs1 hr1 hs hr =>
  exact (Rep.fn f fst caps fv cv hs1 hr1 hs hr).conc1 hf
 |_=>first|rfl|(cases hf;done)
theorem all2_of_obj {es:List (AV×AV)}{ms:Array MapEntry}(hs:ms.size=es.length)(h:∀(i:Nat) (e:AV×AV),es[i]? = some e→∃m,ms[i]? = some m∧e.1.flat=true∧e.2.flat1=true∧m.key=e.1.conc∧m.val=e.2.conc1):All2 EntRel es ms.toList:=by
 refine All2.of_get (by simpa using hs.symm) fun j e m he hm=>?_
 obtain ⟨m',h1,h2⟩:=h j e he
 rw [aF,h1] at hm
 cases hm
 exact h2
theorem zero_conc {t:TypeId}{z:AV}(hz:zeroOf P t=some z)(hf:z.flat1=true)(w:World):(zeroValue t).run P w=.ok z.conc1 w:=by
 obtain ⟨i,zv,hi,hzv,hrep⟩:=zeroOf_spec hz
 rw [← (hrep (fun _=>.imm) w).1.conc1 hf]
 simp [zeroValue,typeInfo,hi,hzv]
def lookRes (ok:Bool)(z:AV):Option AV→Value
 |some v=>if ok then .tuple #[v.conc1,.bool true] else v.conc1
 |none=>if ok then .tuple #[z.conc1,.bool false] else z.conc1
def lookAV (ok:Bool)(z:AV):Option AV→AV
 |some v=>if ok then AV.tup [v,.bool true] else v
 |none=>if ok then AV.tup [z,.bool false] else z
theorem lookup_run {t kt et:TypeId}{sh:KSh}{k z:AV}{ok:Bool}{b:Nat}{ms:Array MapEntry}{clk:Nat}{es:List (AV×AV)}{r:Option AV}(ht:P.underlying t=some (.map kt et))(hk:keySh P kt=some sh)(hb:w.heap[b]? = some (.map ms clk))(he:All2 EntRel es ms.toList)(hf:find sh k es=some r)
  (hck:∀emp,(Instr.checkKey emp 10000 kt k.conc).run P w=.ok () w) (hz:(zeroValue et).run P w=.ok z.conc1 w):(Instr.lookup t (.map (some b)) k.conc ok).run P w=.ok (lookRes ok z r) w∧∀v,r=some v→v.flat1=true:=by
 obtain ⟨q,e1,e2⟩:=findKey_run hk w he hf
 cases r with
 |none =>
  obtain ⟨rfl,_⟩:=e2.no rfl
  refine ⟨?_,fun v e=>by cases e⟩
  simp only [Instr.lookup,Sem.run_bind,run_underlying ht,MapKept.run_getObj_map hb,hck,Result.andThen_ok,e1,hz,Sem.run_pure]
  rfl
 |some v =>
  obtain ⟨j,k',rfl,hv,_⟩:=e2.yes v rfl
  refine ⟨?_,fun v' e=>by cases e;exact hv⟩
  simp only [Instr.lookup,Sem.run_bind,run_underlying ht,MapKept.run_getObj_map hb,hck,Result.andThen_ok,e1,Sem.run_pure]
  rfl
theorem ok_look (hG:GOk G E.W0)(hI:Inv E s Γ a w){t kt et:TypeId}{sh:KSh}{z:AV}{x i:Operand}{x' i':Opnd}{u k v:AV}{ok:Bool}(ho:o.op=.lookup t x i ok)(ht:P.underlying t=some (.map kt et))(hk:keySh P kt=some sh)(hz:zeroOf P et=some z)(hzf:z.flat1=true)
  (hcx:cOpnd P t x=some x') (hci:cOpnd P kt i=some i') (hx:opnd G s.sl x'=some u) (hi:opnd G s.sl i'=some k) (h:lookVal s.hp sh z u k ok=some v):OpOk P E s v a w o:=by
 have k1:=(cOpnd_rep hG hI hcx hx).1
 have k2:=(cOpnd_rep hG hI hci hi).1
 unfold lookVal at h
 split at h
 ·cases h
 rename_i hfit
 have hfit:keyFit sh k=true:=by simpa using hfit
 have hkc:=conc_of_rep k2 (keyFit_flat hfit)
 have hzr:=zero_conc hz hzf w
 have hck:∀emp,(Instr.checkKey emp 10000 kt k.conc).run P w=.ok () w:=fun emp=>checkKey_run hk hfit emp w
 have fin:∀(r:Option AV),(∀v,r=some v→v.flat1=true)→(execOp a.eval o).run P w=.ok (.value (lookRes ok z r)) w →
   lookAV ok z r=v→OpOk P E s v a w o:=by
  intro r hr hrun hv
  have two:∀(y:AV) (b:Bool),y.flat1=true→Rep Γ w (if ok then AV.tup [y,.bool b] else y) (if ok then Value.tuple #[y.conc1,.bool b] else y.conc1):=fun y b hy=>by
   cases ok with
   |false=>exact conc1_rep hy Γ w
   |true =>
    refine .tup _ #[y.conc1,.bool b] rfl fun j c hj=>?_
    match j with
    |0=>cases hj;exact conc1_rep hy Γ w
    |1=>cases hj;exact .bool b
    |j+2=>simp at hj
  have nown:∀(y:AV) (b:Bool),y.flat1=true→∀k r,(if ok then AV.tup [y,.bool b] else y)≠.own k r:=fun y b hy=>by
   cases ok with
   |false=>exact flat1_own hy
   |true=>intro k r e;cases e
  cases r with
  |some y =>
   subst hv
   exact .pure hI hrun (two y true (hr y rfl)) fun k r e=>absurd e (nown y true (hr y rfl) k r)
  |none =>
   subst hv
   exact .pure hI hrun (two z false hzf) fun k r e=>absurd e (nown z false hzf k r)
 generalize hq:a.eval x=q at k1
 have hexec:∀r,(Instr.lookup t q k.conc ok).run P w=.ok r w→(execOp a.eval o).run P w=.ok (.value r) w:=fun r hr=>by
  simp only [execOp,ho,hq,hkc]
  rw [Sem.run_bind,hr];rfl
 have some_:∀{g:Nat} {es:List (AV×AV)} {r:Option AV},s.hp[g]? = some (.map es)→find sh k es=some r→Rep Γ w (.map g) q→lookAV ok z r=v→OpOk P E s v a w o:=by
  intro g es r hg hf hm hv
  cases hm with
  |map _ b hb =>
   obtain ⟨b',ms,clk,h1,h2,h3,h4⟩:=hI.rw.objs g _ hg
   obtain rfl:=hI.rw.inj b b' g hb h1
   obtain ⟨m1,m2⟩:=lookup_run (ok := ok) ht hk h2 (all2_of_obj h3 h4) hf hck hzr
   exact fin r m2 (hexec _ m1) hv
 split at h
 ·rename_i y hy
  split at hy<;>first|(cases hy;done)|skip
  split at hy<;>first|(cases hy;done)|skip
  rename_i hg
  exact some_ hg hy k1 (ed h)
 ·rename_i hy
  split at hy<;>first|(cases hy;done)|skip
  ·cases k1
   refine fin none (fun v e=>by cases e) (hexec _ ?_) (ed h)
   simp only [Instr.lookup,Sem.run_bind,run_underlying ht,Result.andThen_ok,Sem.run_pure,hck]
   have:(Instr.findKey kt k.conc []).run P w=.ok none w:=by
    obtain ⟨q,e1,e2⟩:=findKey_run (k := k) (r := none) hk w (.nil:All2 EntRel [] []) rfl
    obtain ⟨rfl,_⟩:=e2.no rfl
    exact e1
   simp only [this,Result.andThen_ok,Sem.run_bind,hzr,Sem.run_pure]
   rfl
  ·split at hy<;>first|(cases hy;done)|skip
   rename_i hg
   exact some_ hg hy k1 (ed h)
 ·cases h
theorem sameBits_cell {c:CK}{x y:AV}(n:Nat)(h:eqCell c x y=some true):Instr.sameBits n y.conc1 x.conc1=true:=by
 cases c<;>cases x<;>cases y<;>simp only [eqCell] at h<;>first|(cases h;done)|skip
 ·split at h
  ·rename_i e
   subst e
   simp only [eu,beq_iff_eq] at h
   subst h
   simp [AV.conc1,Instr.sameBits]
  ·cases h
 ·simp only [eu,beq_iff_eq] at h
  subst h
  simp [AV.conc1,Instr.sameBits]
 ·simp only [eu,beq_iff_eq] at h
  subst h
  simp [AV.conc1,Instr.sameBits,beq_toListBytes]
theorem sameBits_refl {sh:KSh}{k:AV}(h:keyFit sh k=true):Instr.sameBits 10000 k.conc k.conc=true:=by
 have one:∀(x:AV),(∃k n,x=.int k n)∨(∃b,x=.bool b)∨(∃s,x=.str s)→∀n,Instr.sameBits n x.conc1 x.conc1=true:=fun x hx n=>by
  rcases hx with ⟨k,m,rfl⟩|⟨b,rfl⟩|⟨s,rfl⟩
  ·exact sameBits_cell (c := .int) n (by simp [eqCell])
  ·exact sameBits_cell (c := .bool) n (by simp [eqCell])
  ·exact sameBits_cell (c := .str) n (by simp [eqCell])
 have two:∀x y:AV,((∃k n,x=.int k n)∨(∃b,x=.bool b)∨(∃s,x=.str s))→((∃k n,y=.int k n)∨(∃b,y=.bool b)∨(∃s,y=.str s))→Instr.sameBits (9999+1) (AV.agg [x,y]).conc (AV.agg [x,y]).conc=true:=fun x y hx hy=>by
  simp only [AV.conc,cO,cZ,Instr.sameBits,List.zip_cons_cons,List.zip_nil_right,fO,List.all_nil,one x hx 9999,one y hy 9999,beq_self_eq_true,Bool.and_self]
 unfold keyFit at h
 split at h<;>first|(cases h;done)|skip
 ·exact one _ (.inl ⟨_,_,rfl⟩) _
 ·exact one _ (.inr (.inl ⟨_,rfl⟩)) _
 ·exact one _ (.inr (.inr ⟨_,rfl⟩)) _
 ·exact two _ _ (.inl ⟨_,_,rfl⟩) (.inl ⟨_,_,rfl⟩)
 ·exact two _ _ (.inr (.inr ⟨_,rfl⟩)) (.inr (.inr ⟨_,rfl⟩))
theorem ok_mupd (hG:GOk G E.W0)(hI:Inv E s Γ a w){t kt et:TypeId}{sh:KSh}{m k v:Operand}{m' k' v':Opnd}{g:Nat}{ka va:AV}{es es':List (AV×AV)}(ho:o.op=.mapUpdate t m k v)(ht:P.underlying t=some (.map kt et))(hk:keySh P kt=some sh)
  (hcm:cOpnd P t m=some m') (hck:cOpnd P kt k=some k') (hcv:cOpnd P et v=some v') (hm:opnd G s.sl m'=some (.map g)) (hka:opnd G s.sl k'=some ka) (hva:opnd G s.sl v'=some va) (hg:s.hp[g]? = some (.map es)) (hfit:keyFit sh ka=true) (hvf:va.flat1=true)
  (hf:∃r,find sh ka es=some r) (hu:update sh ka va es=some es'):OpOk P E { s with hp:=s.hp.set g (.map es'),ef := s.note g 0 } .undef a w o:=by
 obtain ⟨r,hf⟩:=hf
 have k1:=(cOpnd_rep hG hI hcm hm).1
 have hkc:=conc_of_rep (cOpnd_rep hG hI hck hka).1 (keyFit_flat hfit)
 have hvc:=(cOpnd_rep hG hI hcv hva).1.conc1 hvf
 generalize hq:a.eval m=q at k1
 cases k1 with
 |map _ b hb =>
  obtain ⟨b',ms,clk,h1,h2,h3,h4⟩:=hI.rw.objs g _ hg
  obtain rfl:=hI.rw.inj b b' g hb h1
  obtain ⟨q,e1,e2⟩:=findKey_run hk w (all2_of_obj h3 h4) hf
  have hlt:=lt_of_some h2
  have step:∀(ms':Array MapEntry) (clk':Nat),(ms'.size=es'.length∧∀(i:Nat) (e:AV×AV),es'[i]? = some e→∃m,ms'[i]? = some m∧e.1.flat=true∧e.2.flat1=true∧m.key=e.1.conc∧m.val=e.2.conc1) →
    Inv E { s with hp:=s.hp.set g (.map es'),ef := s.note g 0 } Γ a { w with heap:=w.heap.setIfInBounds b (.map ms' clk') }:=fun ms' clk' hrel=>by
   have same:∀b',b'≠b→({ w with heap:=w.heap.setIfInBounds b (.map ms' clk') }:World).heap[b']? = w.heap[b']?:=fun b' hne=>by simp [Ne.symm hne]
   refine hI.update hb ⟨rfl,rfl,rfl,by simp,fun b' _ hne=>⟨rfl,same b' hne⟩,fun b' q y k1 k2=>⟨k1,?_⟩,.refl _⟩ (noted_note s g 0) (by simp) ⟨b,ms',clk',hb,by simp [hlt],hrel.1,hrel.2⟩
   have:b'≠b:=by
    rintro rfl
    unfold Fixed at k1
    rw [hb] at k1
    exact k1
   exact (cell_heap (same b' this)).trans k2
  have hexec:∀w',(Instr.mapUpdate t (.map (some b)) ka.conc va.conc1).run P w=.ok () w'→(execOp a.eval o).run P w=.ok .skip w':=fun w' hr=>by
   simp only [execOp,ho,hq,hkc,hvc]
   rw [Sem.run_bind,hr];rfl
  have hchk:=checkKey_run hk hfit false w
  cases r with
  |none =>
   obtain ⟨rfl,hup⟩:=e2.no rfl
   have:=(hup va).symm.trans hu
   obtain rfl:=ed this
   refine ⟨Γ,Go.undef,_,.inr ⟨hexec { w with heap:=w.heap.setIfInBounds b (.map (ms.push { key := ka.conc,val := va.conc1,born := clk }) (clk+1)) } ?_,rfl⟩,step _ _ ⟨by simp [h3],fun i e he=>?_⟩,.undef,.of_ne (by simp)⟩
   ·simp only [Instr.mapUpdate,Sem.run_bind,run_underlying ht,Result.andThen_ok,MapKept.run_getObj_map h2,hchk,e1,MapKept.run_setObj_map _ h2]
   ·rw [aW] at he
    split at he
    ·rename_i hi
     obtain ⟨m,a1,a2⟩:=h4 i e he
     exact ⟨m,by rw [fB,if_neg (by omega)];exact a1,a2⟩
    ·rename_i hi
     have hi':i=es.length:=by
      rcases dJ (i - es.length) 1 with h' | h'
      ·omega
      ·rw [aX (by simpa using h')] at he;cases he
     subst hi'
     simp only [dN,aY,eu] at he
     subst he
     exact ⟨_,by rw [fB,if_pos h3.symm],keyFit_flat hfit,hvf,rfl,rfl⟩
  |some u =>
   obtain ⟨i,k2,rfl,_,hei,hkk,hup⟩:=e2.yes u rfl
   have:=(hup va).symm.trans hu
   obtain rfl:=ed this
   obtain ⟨mi,a1,a2,a3,a4,a5⟩:=h4 i _ hei
   have hkeep:(Instr.keyThatStays (((ms[0+i]?).map (·.key)).getD ka.conc) ka.conc).run P w=.ok ka.conc w:=by
    rw [dR,a1]
    simp only [eX,Option.getD_some,a4]
    unfold Instr.keyThatStays
    rw [← hkk,if_pos (sameBits_refl hfit)]
    rfl
   refine ⟨Γ,Go.undef,_,.inr ⟨hexec { w with heap:=w.heap.setIfInBounds b (.map (ms.modify (0+i) fun e=>{ e with key:=ka.conc,val := va.conc1 }) clk) } ?_,rfl⟩,step _ _ ⟨by simp [h3],fun j e he=>?_⟩,.undef,.of_ne (by simp)⟩
   ·simp only [Instr.mapUpdate,Sem.run_bind,run_underlying ht,Result.andThen_ok,MapKept.run_getObj_map h2,hchk,e1,hkeep,MapKept.run_setObj_map _ h2]
   ·rw [dR,Array.getElem?_modify]
    rw [aU] at he
    split at he
    ·rename_i hij
     subst hij
     split at he
     ·obtain rfl:=ed he
      refine ⟨{ mi with key:=ka.conc,val := va.conc1 },by rw [if_pos rfl,a1];rfl,a2,hvf,hkk,rfl⟩
     ·cases he
    ·rename_i hij
     obtain ⟨m,b1,b2⟩:=h4 j e he
     exact ⟨m,by rw [if_neg hij];exact b1,b2⟩
end
theorem update_find {sh:KSh}{k v:AV}:∀{es es':List (AV×AV)},update sh k v es=some es'→∃r,find sh k es=some r
 | [],_,_=>⟨none,rfl⟩
 |(k',v')::l,es',h=>by
  simp only [update] at h
  simp only [find]
  split at h
  ·exact ⟨_,rfl⟩
  ·obtain ⟨l',h',_⟩:=eP.1 h
   exact update_find h'
  ·cases h
theorem map_pair {α β:Type}{x:Option α}{s s':β}{v:α}(h:x.map (·,s)=some (v,s')):x=some v∧s'=s:=by
 obtain ⟨y,h1,h2⟩:=eP.1 h
 cases h2
 exact ⟨h1,rfl⟩
section
variable {P:Program}{G:Nat→Option (List AV)}{call:FuncId→List AV→List AObj→Option (AV×List AObj×Eff)}{E:Entry}{s s':AState}{Γ:Ghost}{a:Act}{w:World}{o:Oper}{hand:Nat→Bool}{draw:Bool}{ao:AOp}{v:AV}
theorem op_move (hG:GOk G E.W0)(hI:Inv E s Γ a w){x:Operand}(hop:o.op=.move x)(hc:cOp P hand draw o=some ao)(h:evalOp G call s ao=some (v,s')):OpFit P E Γ s s' v a w o ao:=by
 simp only [cOp,hop] at hc
 split at hc
 ·rename_i t
  split at hc
  ·obtain rfl:=ed hc
   simp only [evalOp] at h
   split at h<;>first|(cases h;done)|skip
   rename_i u hu
   cases h
   exact (ok_take hI (.inl hop) hu).fit
  ·obtain rfl:=ed hc
   replace h:=map_pair h;obtain ⟨h,hss⟩:=h
   subst hss
   exact (ok_mv (t := 0) hG hI (.inl hop) rfl h).fit hI
 ·obtain ⟨y,hy,rfl⟩:=eP.1 hc
  replace h:=map_pair h;obtain ⟨h,hss⟩:=h
  subst hss
  exact (ok_mv hG hI (.inl hop) hy h).fit hI
theorem op_assign (hG:GOk G E.W0)(hI:Inv E s Γ a w){x:Operand}(hop:o.op=.assign x)(hc:cOp P hand draw o=some ao)(h:evalOp G call s ao=some (v,s')):OpFit P E Γ s s' v a w o ao:=by
 simp only [cOp,hop] at hc
 split at hc
 ·rename_i t
  split at hc
  ·obtain rfl:=ed hc
   replace h:=map_pair h;obtain ⟨h,hss⟩:=h
   subst hss
   exact (ok_mv (t := 0) hG hI (.inr hop) rfl h).fit hI
  ·obtain rfl:=ed hc
   simp only [evalOp] at h
   split at h<;>first|(cases h;done)|skip
   rename_i u hu
   cases h
   exact (ok_take hI (.inr hop) hu).fit
 ·obtain ⟨y,hy,rfl⟩:=eP.1 hc
  replace h:=map_pair h;obtain ⟨h,hss⟩:=h
  subst hss
  exact (ok_mv hG hI (.inr hop) hy h).fit hI
theorem op_pick (hG:GOk G E.W0)(hI:Inv E s Γ a w){c x y:Operand}(hop:o.op=.pick c x y)(hc:cOp P hand draw o=some ao)(h:evalOp G call s ao=some (v,s')):OpFit P E Γ s s' v a w o ao:=by
 simp only [cOp,hop] at hc
 split at hc<;>first|(cases hc;done)|skip
 rename_i c' x' y' h1 h2 h3
 obtain rfl:=ed hc
 simp only [evalOp] at h
 split at h<;>first|(cases h;done)|skip
 ·rename_i hb
  replace h:=map_pair h;obtain ⟨h,hss⟩:=h
  subst hss
  exact (ok_pick (b := true) hG hI hop h1 h2 h3 hb h).fit hI
 ·rename_i hb
  replace h:=map_pair h;obtain ⟨h,hss⟩:=h
  subst hss
  exact (ok_pick (b := false) hG hI hop h1 h2 h3 hb h).fit hI
theorem op_new (hG:GOk G E.W0)(hI:Inv E s Γ a w)(hop:(∃e,o.op=.alloc e)∨(∃e x,o.op=.box e x))(hc:cOp P hand draw o=some ao)(h:evalOp G call s ao=some (v,s')):OpFit P E Γ s s' v a w o ao:=by
 rcases hop with ⟨e,hop⟩|⟨e,x,hop⟩
 ·simp only [cOp,hop] at hc
  split at hc<;>first|(cases hc;done)|skip
  rename_i z hz
  split at hc<;>first|(cases hc;done)|skip
  rename_i h1
  obtain rfl:=ed hc
  simp only [evalOp] at h
  cases h
  exact (ok_mk hI hop hz h1).fit
 ·simp only [cOp,hop] at hc
  obtain ⟨y,hy,rfl⟩:=eP.1 hc
  simp only [evalOp] at h
  split at h<;>first|(cases h;done)|skip
  rename_i u hu
  split at h<;>first|(cases h;done)|skip
  rename_i hl
  cases h
  exact (ok_box hG hI hop hy hu hl.2).fit
theorem op_build (hG:GOk G E.W0)(hI:Inv E s Γ a w){t:TypeId}{parts:Array (Nat×Operand)}(hop:o.op=.build t parts)(hc:cOp P hand draw o=some ao)(h:evalOp G call s ao=some (v,s')):OpFit P E Γ s s' v a w o ao:=by
 simp only [cOp,hop] at hc
 split at hc<;>first|(cases hc;done)|skip
 rename_i hs
 split at hc<;>first|(cases hc;done)|skip
 rename_i z ps hz hp
 obtain rfl:=ed hc
 simp only [evalOp] at h
 split at h<;>first|(cases h;done)|skip
 rename_i vs hv
 obtain ⟨cs,h1,h2⟩:=eP.1 h
 cases h2
 exact (ok_build hG hI hop hs hz hp hv h1).fit
theorem op_lit (hG:GOk G E.W0)(hI:Inv E s Γ a w){t:TypeId}{len:Nat}{parts:Array (Nat×Operand)}(hop:o.op=.buildSlice t len parts)(hc:cOp P hand draw o=some ao)(h:evalOp G call s ao=some (v,s')):OpFit P E Γ s s' v a w o ao:=by
 simp only [cOp,hop] at hc
 split at hc<;>first|(cases hc;done)|skip
 rename_i e ht
 split at hc<;>first|(cases hc;done)|skip
 rename_i hx
 obtain ⟨h1,h2,h3,h4⟩:=hx
 obtain ⟨ps,hp,rfl⟩:=eP.1 hc
 by_cases hm:(hand litMark||hand (litMark+1+e))=true
 ·simp only [hm,if_true,evalOp] at h ⊢
  split at h<;>first|(cases h;done)|skip
  rename_i vs hv
  split at h<;>first|(cases h;done)|skip
  rename_i hall
  cases h
  exact (ok_lita hG hI hop ht h1 h2 h4 hp hv hall).fit
 ·simp only [if_neg hm,evalOp] at h ⊢
  split at h<;>first|(cases h;done)|skip
  rename_i vs hv
  split at h
  ·rename_i hall
   cases h
   exact (ok_lit hG hI hop ht h1 h2 h3 h4 hp hv hall).fit
  ·split at h<;>first|(cases h;done)|skip
   rename_i hall
   cases h
   exact (ok_lita hG hI hop ht h1 h2 h4 hp hv hall).fit
theorem op_load (hG:GOk G E.W0)(hI:Inv E s Γ a w){t:TypeId}{p:Operand}(hop:o.op=.load t p)(hc:cOp P hand draw o=some ao)(h:evalOp G call s ao=some (v,s')):OpFit P E Γ s s' v a w o ao:=by
 simp only [cOp,hop] at hc
 split at hc<;>first|(cases hc;done)|skip
 rename_i p' hp
 split at hc
 ·rename_i ht
  obtain rfl:=ed hc
  simp only [evalOp] at h
  split at h<;>first|(cases h;done)|skip
  rename_i x hx
  replace h:=map_pair h;obtain ⟨h,hss⟩:=h
  subst hss
  exact (ok_lda hG hI hop ht hp hx h).fit hI
 ·rename_i ht
  have ht:isAggB P t=false:=by simpa using ht
  split at hc<;>first|(cases hc;done)|skip
  rename_i hu
  split at hc
  ·obtain rfl:=ed hc
   simp only [evalOp] at h
   split at h<;>first|(cases h;done)|skip
   rename_i g q hx
   split at h<;>first|(cases h;done)|skip
   rename_i cs t' hg
   split at h<;>first|(cases h;done)|skip
   rename_i u hv
   cases h
   exact (ok_ldt hG hI hop ht hu hp hx hg hv).fit
  ·obtain rfl:=ed hc
   simp only [evalOp] at h
   split at h<;>first|(cases h;done)|skip
   rename_i x hx
   replace h:=map_pair h;obtain ⟨h,hss⟩:=h
   subst hss
   exact (ok_ldc hG hI hop ht hu hp hx h).fit hI
theorem op_store (hG:GOk G E.W0)(hI:Inv E s Γ a w){t:TypeId}{p x:Operand}(hop:o.op=.store t p x)(hc:cOp P hand draw o=some ao)(h:evalOp G call s ao=some (v,s')):OpFit P E Γ s s' v a w o ao:=by
 simp only [cOp,hop] at hc
 split at hc
 ·cases hc
 rename_i hti
 have hi:∃i,P.info? t=some i:=by
  cases hq:P.info? t with
  |none=>rw [hq] at hti;exact absurd rfl hti
  |some i=>exact ⟨i,rfl⟩
 obtain ⟨i,hi⟩:=hi
 split at hc<;>first|(cases hc;done)|skip
 rename_i p' hp
 have st:∀{y},cOpnd P t x=some y→evalOp G call s (.st (P.cellsOf t) p' y)=some (v,s')→OpFit P E Γ s s' v a w o (.st (P.cellsOf t) p' y):=by
  intro y hy h
  simp only [evalOp] at h
  split at h<;>first|(cases h;done)|skip
  rename_i g q u hpp hx
  split at h<;>first|(cases h;done)|skip
  ·rename_i cs t' hg
   split at h<;>first|(cases h;done)|skip
   rename_i hn
   cases h
   exact (ok_st hG hI hi hop hp hy hpp hx hg hn).fit
  ·rename_i l t' e0 m hg
   split at h<;>first|(cases h;done)|skip
   rename_i hn
   cases h
   exact (ok_stb hG hI hi hop hp hy hpp hx hg hn).fit
 split at hc
 ·rename_i hag
  simp only [fG,fH,beq_iff_eq] at hag
  split at hc
  ·rename_i sl hsl
   have hx:x=.tmp sl:=by
    cases x<;>simp only [isTmp] at hsl<;>first|(cases hsl;done)|(cases hsl;rfl)
   subst hx
   obtain rfl:=ed hc
   simp only [evalOp] at h
   split at h<;>first|(cases h;done)|skip
   rename_i g q u hpp hx
   split at h<;>first|(cases h;done)|skip
   rename_i cs t' hg
   split at h<;>first|(cases h;done)|skip
   rename_i hn
   cases h
   exact (ok_stt hG hI hi hag.2 hop hp hpp hx hg hn).fit
  ·obtain ⟨y,hy,rfl⟩:=eP.1 hc
   exact st hy h
 ·obtain ⟨y,hy,rfl⟩:=eP.1 hc
  exact st hy h
theorem op_plain1 (hG:GOk G E.W0)(hI:Inv E s Γ a w)(hop:(∃x,o.op=.nilCheck x)∨(∃op t x y t',o.op=.binOp op t x y t')∨(∃op t x,o.op=.unOp op t x))(hc:cOp P hand draw o=some ao)(h:evalOp G call s ao=some (v,s')):OpFit P E Γ s s' v a w o ao:=by
 rcases hop with ⟨x,hop⟩|⟨op,t,x,y,t',hop⟩|⟨op,t,x,hop⟩
 ·simp only [cOp,hop] at hc
  obtain ⟨y,hy,rfl⟩:=eP.1 hc
  simp only [evalOp] at h
  split at h<;>first|(cases h;done)|skip
  ·rename_i hx;cases h;exact (ok_nilchk hG hI hop hy hx (.inl ⟨_,rfl⟩)).fit hI
  ·rename_i hx;cases h;exact (ok_nilchk hG hI hop hy hx (.inr (.inl ⟨_,_,rfl⟩))).fit hI
  ·rename_i hx;cases h;exact (ok_nilchk hG hI hop hy hx (.inr (.inr ⟨_,_,_,rfl⟩))).fit hI
 ·simp only [cOp,hop] at hc
  split at hc<;>first|(cases hc;done)|skip
  rename_i sh x' y' h1 h2 h3
  obtain rfl:=ed hc
  simp only [evalOp] at h
  split at h<;>first|(cases h;done)|skip
  rename_i u u' hx hy
  replace h:=map_pair h;obtain ⟨h,hss⟩:=h
  subst hss
  exact (ok_bin hG hI hop h1 h2 h3 hx hy h).fit hI
 ·simp only [cOp,hop] at hc
  obtain ⟨y,hy,rfl⟩:=eP.1 hc
  simp only [evalOp] at h
  split at h<;>first|(cases h;done)|skip
  rename_i u hx
  replace h:=map_pair h;obtain ⟨h,hss⟩:=h
  subst hss
  exact (ok_un hG hI hop hy hx h).fit hI
theorem op_convert (hG:GOk G E.W0)(hI:Inv E s Γ a w){src dst:TypeId}{x:Operand}(hop:o.op=.convert src dst x)(hc:cOp P hand draw o=some ao)(h:evalOp G call s ao=some (v,s')):OpFit P E Γ s s' v a w o ao:=by
 simp only [cOp,hop] at hc
 split at hc<;>first|(cases hc;done)|skip
 ·rename_i x' k k' hx' hs hd
  obtain rfl:=ed hc
  simp only [evalOp] at h
  split at h<;>first|(cases h;done)|skip
  rename_i u hu
  replace h:=map_pair h;obtain ⟨h,hss⟩:=h
  subst hss
  cases u<;>simp only [convVal] at h<;>first|(cases h;done)|skip
  obtain rfl:=ed h
  exact (ok_conv_int hG hI hop hs hd hx' hu).fit
 ·rename_i x' hx' hs hd
  obtain rfl:=ed hc
  simp only [evalOp] at h
  split at h<;>first|(cases h;done)|skip
  rename_i u hu
  replace h:=map_pair h;obtain ⟨h,hss⟩:=h
  subst hss
  cases u<;>simp only [convVal] at h<;>first|(cases h;done)|skip
  obtain rfl:=ed h
  exact (ok_conv_str hG hI hop hs hd hx' hu).fit
theorem op_make (hG:GOk G E.W0)(hI:Inv E s Γ a w)(hop:(∃fn x y,o.op=.makeFunc fn x y)∨(∃t r,o.op=.makeMap t r)∨(∃t l c,o.op=.makeSlice t l c))(hc:cOp P hand draw o=some ao)(h:evalOp G call s ao=some (v,s')):OpFit P E Γ s s' v a w o ao:=by
 rcases hop with ⟨fn,x,y,hop⟩|⟨t,r,hop⟩|⟨t,l,c,hop⟩
 ·cases fn with
  |func f =>
   simp only [cOp,hop] at hc
   split at hc<;>first|(cases hc;done)|skip
   rename_i us vs h1 h2
   obtain rfl:=ed hc
   simp only [evalOp] at h
   split at h<;>first|(cases h;done)|skip
   rename_i u1 u2 h3 h4
   cases h
   exact (ok_mkfn hG hI hop h1 h2 h3 h4).fit
  |_=>simp only [cOp,hop] at hc;cases hc
 ·cases r with
  |none =>
   simp only [cOp,hop] at hc
   obtain rfl:=ed hc
   simp only [evalOp] at h
   cases h
   exact (ok_mkmap hI hop).fit
  |some r=>simp only [cOp,hop] at hc;cases hc
 ·have fin:∀{e:TypeId} {z:AV} {i:TypeInfo} {n:Opnd},P.underlying t=some (.slice e)→zeroOf P e=some z→P.info? e=some i→(z.cells.all AV.one=true∧z.cells.length=i.size∧i.bytes≤16384∧0<i.size) →
    (∀kd m,opnd G s.sl n=some (.int kd m)→a.eval l=.int kd m∧a.eval c=.int kd m)→evalOp G call s (.mksl e z.cells n)=some (v,s')→OpFit P E Γ s s' v a w o (.mksl e z.cells n):=by
   intro e z i n ht hz hi hx hev h
   simp only [evalOp] at h
   split at h<;>first|(cases h;done)|skip
   rename_i kd m hm
   split at h<;>first|(cases h;done)|skip
   rename_i hb
   cases h
   exact (ok_mksl hI ⟨l,c,hop,(hev kd m hm).1,(hev kd m hm).2⟩ ht hi hz hx.1 hx.2.1 hx.2.2.2 hx.2.2.1 hb.1 hb.2).fit
  have slot:∀{q:Nat} {kd:IntKind} {m:Int},opnd G s.sl (.tmp q)=some (.int kd m)→a.eval (.tmp q)=.int kd m:=fun {q kd m} hm=>by
   have:=(cOpnd_rep (P := P) (t := 0) (x := .tmp q) (y := .tmp q) hG hI rfl hm).1
   generalize a.eval (.tmp q)=u at this
   cases this;rfl
  cases l<;>cases c<;>simp only [cOp,hop] at hc<;>first|(cases hc;done)|skip
  ·split at hc<;>first|(cases hc;done)|skip
   rename_i hlc
   subst hlc
   split at hc<;>first|(cases hc;done)|skip
   rename_i e ht
   split at hc<;>first|(cases hc;done)|skip
   rename_i z i hz hi
   split at hc<;>first|(cases hc;done)|skip
   rename_i hx
   obtain rfl:=ed hc
   exact fin ht hz hi hx (fun kd m hm=>⟨slot hm,slot hm⟩) h
  ·rename_i x y
   cases x<;>cases y<;>simp only at hc<;>first|(cases hc;done)|skip
   split at hc<;>first|(cases hc;done)|skip
   rename_i hlc
   obtain ⟨rfl,rfl⟩:=hlc
   split at hc<;>first|(cases hc;done)|skip
   rename_i e ht
   split at hc<;>first|(cases hc;done)|skip
   rename_i z i hz hi
   split at hc<;>first|(cases hc;done)|skip
   rename_i hx
   obtain rfl:=ed hc
   exact fin ht hz hi hx (fun kd m hm=>by cases hm;exact ⟨rfl,rfl⟩) h
theorem op_slice (hG:GOk G E.W0)(hI:Inv E s Γ a w){t:TypeId}{x:Operand}{lo hi mx:Option Operand}(hop:o.op=.slice t x lo hi mx)(hc:cOp P hand draw o=some ao)(h:evalOp G call s ao=some (v,s')):OpFit P E Γ s s' v a w o ao:=by
 cases mx with
 |some m =>
  cases lo with
  |some l=>simp only [cOp,hop] at hc;cases hc
  |none =>
   cases hi with
   |none=>simp only [cOp,hop] at hc;cases hc
   |some hi=>simp only [cOp,hop] at hc;cases hc
 |none =>
  simp only [cOp,hop] at hc
  split at hc<;>first|(cases hc;done)|skip
  rename_i sh x' lo' hi' h1 h2 h3 h4
  obtain rfl:=ed hc
  simp only [evalOp] at h
  split at h<;>first|(cases h;done)|skip
  rename_i u vl vh k1 k2 k3
  replace h:=map_pair h;obtain ⟨h,hss⟩:=h
  subst hss
  exact (ok_slice hG hI hop h1 h2 h3 h4 k1 k2 k3 h).fit hI
theorem op_addr (hG:GOk G E.W0)(hI:Inv E s Γ a w)(hop:(∃t x f,o.op=.fieldAddr t x f)∨(∃t x f,o.op=.field t x f)∨(∃t x i,o.op=.indexAddr t x i)∨(∃t x i,o.op=.index t x i))(hc:cOp P hand draw o=some ao)(h:evalOp G call s ao=some (v,s')):OpFit P E Γ s s' v a w o ao:=by
 rcases hop with ⟨t,x,f,hop⟩|⟨t,x,f,hop⟩|⟨t,x,i,hop⟩|⟨t,x,i,hop⟩
 ·simp only [cOp,hop] at hc
  split at hc<;>first|(cases hc;done)|skip
  rename_i off n agg x' h1 h2
  obtain rfl:=ed hc
  simp only [evalOp] at h
  split at h<;>first|(cases h;done)|skip
  rename_i u hx
  replace h:=map_pair h;obtain ⟨h,hss⟩:=h
  subst hss
  exact (ok_fa hG hI hop h1 h2 hx h).fit hI
 ·simp only [cOp,hop] at hc;cases hc
 ·simp only [cOp,hop] at hc
  split at hc<;>first|(cases hc;done)|skip
  all_goals
   rename_i x' i' h1 h2 h3
   obtain rfl:=ed hc
   simp only [evalOp] at h
   split at h<;>first|(cases h;done)|skip
   rename_i u n hx hi
   replace h:=map_pair h;obtain ⟨h,hss⟩:=h
   subst hss
   exact (ok_ia hG hI hop h1 h2 h3 hx hi h).fit hI
 ·simp only [cOp,hop] at hc
  split at hc<;>first|(cases hc;done)|skip
  rename_i x' i' h1 h2 h3
  obtain rfl:=ed hc
  simp only [evalOp] at h
  split at h<;>first|(cases h;done)|skip
  rename_i u n hx hi
  replace h:=map_pair h;obtain ⟨h,hss⟩:=h
  subst hss
  exact (ok_idx hG hI hop h1 h2 h3 hx hi h).fit hI
theorem op_map (hG:GOk G E.W0)(hI:Inv E s Γ a w)(hop:(∃t x i ok,o.op=.lookup t x i ok)∨(∃t m k x,o.op=.mapUpdate t m k x))(hc:cOp P hand draw o=some ao)(h:evalOp G call s ao=some (v,s')):OpFit P E Γ s s' v a w o ao:=by
 rcases hop with ⟨t,x,i,ok,hop⟩|⟨t,m,k,x,hop⟩
 ·simp only [cOp,hop] at hc
  split at hc<;>first|(cases hc;done)|skip
  rename_i kt et ht
  split at hc<;>first|(cases hc;done)|skip
  rename_i sh z x' i' h1 h2 h3 h4
  split at hc<;>first|(cases hc;done)|skip
  rename_i hz
  obtain rfl:=ed hc
  simp only [evalOp] at h
  split at h<;>first|(cases h;done)|skip
  rename_i u n hx hi
  replace h:=map_pair h;obtain ⟨h,hss⟩:=h
  subst hss
  exact (ok_look hG hI hop ht h1 h2 hz h3 h4 hx hi h).fit
 ·simp only [cOp,hop] at hc
  split at hc<;>first|(cases hc;done)|skip
  rename_i kt et ht
  split at hc<;>first|(cases hc;done)|skip
  rename_i sh m' k' x' h1 h2 h3 h4
  obtain rfl:=ed hc
  simp only [evalOp] at h
  split at h<;>first|(cases h;done)|skip
  rename_i g ka va hm hk hv
  split at h<;>first|(cases h;done)|skip
  rename_i es hg
  split at h<;>first|(cases h;done)|skip
  rename_i hf
  simp only [fG] at hf
  split at h<;>first|(cases h;done)|skip
  rename_i es' hu
  cases h
  exact (ok_mupd hG hI hop ht h1 h2 h3 h4 hm hk hv hg hf.1 hf.2 (update_find hu) hu).fit
theorem op_iter (hG:GOk G E.W0)(hI:Inv E s Γ a w)(hop:(∃t x,o.op=.range t x)∨(∃x b,o.op=.next x b)∨(∃x i,o.op=.extract x i))(hc:cOp P hand draw o=some ao)(h:evalOp G call s ao=some (v,s')):OpFit P E Γ s s' v a w o ao:=by
 rcases hop with ⟨t,x,hop⟩|⟨x,b,hop⟩|⟨x,i,hop⟩
 ·simp only [cOp,hop] at hc;cases hc
 ·simp only [cOp,hop] at hc;cases hc
 ·simp only [cOp,hop] at hc
  obtain ⟨x',hx',rfl⟩:=eP.1 hc
  simp only [evalOp] at h
  split at h<;>first|(cases h;done)|skip
  rename_i vs hx
  obtain ⟨u,h1,h2⟩:=eP.1 h
  cases h2
  exact (ok_extract hG hI hop hx' hx h1).fit hI
end
def Went (P:Program)(f:FuncId)(xs:Array Value)(w:World)(R:Value→World→Prop):Prop :=
 (callFunc f xs).run P w=.ok (.enter f xs) w∧Calls P f xs w fun e w''=>∃v,e=.returned v∧R v w''
theorem Went.mono {P:Program}{f:FuncId}{xs:Array Value}{w:World}{R R':Value→World→Prop}(h:Went P f xs w R)(hr:∀v w',R v w'→R' v w'):Went P f xs w R' :=
 ⟨h.1,h.2.mono fun _ w'' ⟨v,hv,h⟩=>⟨v,hv,hr v w'' h⟩⟩
structure Tidy (Γ:Ghost)(n:Nat):Prop where
 res:∀b m,Γ b≠.list m .res
 arg:∀b m j,Γ b≠.list m (.arg j)
 cell:∀b m g i,Γ b=.list m (.cell g i)→g<n
def CallSpec (P:Program)(W0:World)(F:FuncId→List AV→List AObj→Option (AV×List AObj×Eff)):Prop :=
 ∀f args hp v hp' e,F f args hp=some (v,hp',e)→∀(Γ:Ghost) (w:World) (xs:Array Value),RW W0 Γ w hp→Tidy Γ hp.length→xs.size=args.length →
  (∀j x,args[j]? = some x→Rep Γ w x (xs.getD j Go.undef)∧OwnAt Γ w (.slot j) x (xs.getD j Go.undef)) →
  Went P f xs w fun cv w'=>∃Γ',RW W0 Γ' w' hp'∧Rep Γ' w' v cv∧OwnAt Γ' w' .res v cv∧Frame Γ w Γ' w' e∧hp.length≤hp'.length∧∀b g,Γ' b=.own g→g<hp.length→Γ b=.own g
theorem FixedK.own {o g:Nat}:¬FixedK o (.own g):=fun h=>h
theorem RW.alike {W0 w:World}{Γ Γ':Ghost}{hp:List AObj}(h:RW W0 Γ w hp)(hf:FixMono Γ w Γ' w)(ho:∀b g,Γ b=.own g↔Γ' b=.own g)
  (hc:∀b n g i,g<hp.length→Γ b=.list n (.cell g i)→Γ' b=.list n (.cell g i)) (hi:∀b,Γ b=.imm→Γ' b=.imm):RW W0 Γ' w hp:=by
 have hom:OwnMono Γ Γ':=fun b g hb=>(ho b g).1 hb
 refine ⟨fun g o hg=>?_,fun b b' g h1 h2=>h.inj b b' g ((ho b g).2 h1) ((ho b' g).2 h2),fun b hb=>hi b (h.fresh b hb),fun b g hb=>h.lt b g ((ho b g).2 hb),h.old,fun b hb=>hi b (h.oldImm b hb),fun g hg b hb=>h.dead g hg b ((ho b g).2 hb)⟩
 have hlt:=Zq hg
 have:=h.objs g o hg
 cases o with
 |dead=>trivial
 |cells cs t =>
  obtain ⟨b,C,h1,h2,h3,h4⟩:=this
  refine ⟨b,C,hom b g h1,h2,h3,fun i c hc'=>?_⟩
  obtain ⟨a1,a2,a3⟩:=h4 i c hc'
  exact ⟨a1,a2.mono hf hom,a3.mono hf hom fun b n hb=>⟨hc b n g i hlt hb,rfl⟩⟩
 |map es =>
  obtain ⟨b,ms,clk,h1,h2,h3,h4⟩:=this
  exact ⟨b,ms,clk,hom b g h1,h2,h3,h4⟩
 |iter s pos =>
  obtain ⟨b,h1,h2⟩:=this
  exact ⟨b,hom b g h1,h2⟩
 |buf _ _ _ _ =>
  obtain ⟨b,C,h1,h2,h3⟩:=this
  exact ⟨b,C,hom b g h1,h2,h3.mono fun b n i hb=>⟨hc b n g i hlt hb,rfl⟩⟩
def seenK (n:Nat):Kind→Kind
 |.list m (.slot _)=>.list m .outer
 |.list m .res=>.list m .outer
 |.list m (.arg j)=>.list m (.slot j)
 |.list m (.cell g i)=>if g<n then .list m (.cell g i) else .imm
 |k=>k
def backK:Kind→Kind→Kind
 |.list m (.slot t),_=>.list m (.slot t)
 |_,.list _ (.slot _)=>.imm
 |_,.list _ (.arg _)=>.imm
 |_,k=>k
theorem seenK_fix {n o:Nat}{k:Kind}(h:FixedK o k):FixedK o (seenK n k):=by
 cases k with
 |imm=>trivial
 |own g=>exact h.elim
 |list m l =>
  cases l<;>simp only [seenK]<;>first|exact h|skip
  split
  ·exact h
  ·trivial
theorem seenK_own {n g:Nat}{k:Kind}:k=.own g↔seenK n k=.own g:=by
 cases k with
 |imm=>simp [seenK]
 |own g=>simp [seenK]
 |list m l =>
  cases l<;>simp only [seenK]<;>try simp
  split<;>simp
theorem seenK_imm {n:Nat}{k:Kind}(h:k=.imm):seenK n k=.imm:=by subst h;rfl
theorem seen_tidy (Γ:Ghost)(n:Nat):Tidy (fun b=>seenK n (Γ b)) n:=by
 refine ⟨fun b m h=>?_,fun b m j h=>?_,fun b m g i h=>?_⟩<;>revert h<;>cases Γ b with
 |imm=>simp [seenK]
 |own g=>simp [seenK]
 |list m l =>
  cases l<;>simp only [seenK]<;>try simp
  try (split<;>simp<;>try omega)
theorem RW.seen {W0 w:World}{Γ:Ghost}{hp:List AObj}(h:RW W0 Γ w hp):RW W0 (fun b=>seenK hp.length (Γ b)) w hp :=
 h.alike (fun _ _ _ h1 h2=>⟨seenK_fix h1,h2⟩) (fun _ _=>seenK_own) (fun b n g i hl hb=>by simp [hb,seenK,hl]) (fun _=>seenK_imm)
section
variable {P:Program}{G:Nat→Option (List AV)}{E:Entry}{s:AState}{Γ:Ghost}{a:Act}{w:World}
theorem Inv.hand (h:Inv E s Γ a w)(m:Loc)(t:Nat){v:AV}(hv:s.sl[t]? = some v) :
  ∃Γ',Inv E (s.let_ t) Γ' a w∧Rep Γ' w v (a.tmps.getD t Go.undef)∧OwnAt Γ' w m v (a.tmps.getD t Go.undef)∧FixMono Γ w Γ' w∧OwnMono Γ Γ'∧∀b n j,Γ b=.list n (.arg j)→Γ' b=.list n (.arg j):=by
 have f1:=relab_fix (Γ := Γ) (w := w) (l := .slot t) (toLoc_fix (l := m))
 have o1:OwnMono Γ (relab Γ (.slot t) (toLoc m)):=relab_own
 refine ⟨relab Γ (.slot t) (toLoc m),⟨h.defers,⟨by simpa [AState.let_] using h.slots.size,fun u x hx=>?_,fun u x hx=>?_⟩,h.rw.relab toLoc_fix toLoc_listF (by simp),h.fr.relab (l := .slot t) toLoc_fix trivial,h.base,h.base2,h.le,fun b g hb=>h.back b g (relab_own_inv toLoc_listF hb)⟩,?_,?_,f1,o1,fun b n j hb=>relab_other hb (by simp)⟩
 ·simp only [AState.let_,aV] at hx
  obtain ⟨y,hy,e⟩:=eP.1 hx
  have:=(h.slots.rep u y hy).mono f1 o1
  split at e
  ·subst e;exact this.ro
  ·subst e;exact this
 ·simp only [AState.let_,aV] at hx
  obtain ⟨y,hy,e⟩:=eP.1 hx
  split at e
  ·subst e;exact .of_ro _ _ _ _ _
  ·rename_i ne
   subst e
   exact (h.slots.own u y hy).mono f1 o1 fun b n hb=>⟨relab_other hb (by simp;omega),rfl⟩
 ·exact (h.slots.rep t v hv).mono f1 o1
 ·exact (h.slots.own t v hv).mono f1 o1 fun b n hb=>⟨relab_at hb,rfl⟩
theorem args_ok (hG:GOk G E.W0):∀{args:List (Nat ⊕ Opnd)} {ts:List TypeId} {xs:List Operand} {hand:Nat→Bool} {vs sl:List AV} (k:Nat) {s:AState} {Γ:Ghost},Inv E s Γ a w→cArgs P hand ts xs=some args→argVals G s.sl args=some (vs,sl) →
  ∃Γ',Inv E { s with sl:=sl } Γ' a w∧FixMono Γ w Γ' w∧OwnMono Γ Γ'∧(∀b n j,j<k→Γ b=.list n (.arg j)→Γ' b=.list n (.arg j))∧vs.length=xs.length ∧
   ∀j v,vs[j]? = some v→∃x,xs[j]? = some x∧Rep Γ' w v (a.eval x)∧OwnAt Γ' w (.arg (k+j)) v (a.eval x):=by
 intro args
 induction args with
 |nil =>
  intro ts xs hand vs sl k s Γ hI hc h
  simp only [argVals,eu,iH] at h
  obtain ⟨rfl,rfl⟩:=h
  have:xs=[]:=by
   cases xs with
   |nil=>rfl
   |cons x xs =>
    cases ts with
    |nil=>simp [cArgs] at hc
    |cons t ts =>
     simp only [cArgs] at hc
     split at hc<;>simp at hc
  subst this
  exact ⟨Γ,hI,.refl _ _,.refl _,fun _ _ _ _ h=>h,rfl,fun j v hv=>by simp at hv⟩
 |cons p args ih =>
  intro ts xs hand vs sl k s Γ hI hc h
  cases xs with
  |nil=>cases ts<;>simp [cArgs] at hc
  |cons x xs =>
   cases ts with
   |nil=>simp [cArgs] at hc
   |cons t ts =>
    simp only [cArgs] at hc
    split at hc
    case h_2=>cases hc
    rename_i y l hy hl
    obtain ⟨rfl,rfl⟩:=List.cons.inj (ed hc)
    have step:∀(v:AV) (s1:AState) (Γ1:Ghost) (vs1:List AV),Inv E s1 Γ1 a w→s1.hp=s.hp→s1.ef=s.ef→s1.bs=s.bs→FixMono Γ w Γ1 w→OwnMono Γ Γ1→(∀b n j,j<k→Γ b=.list n (.arg j)→Γ1 b=.list n (.arg j)) →
      Rep Γ1 w v (a.eval x)→OwnAt Γ1 w (.arg k) v (a.eval x)→argVals G s1.sl l=some (vs1,sl)→vs=v::vs1 →
      ∃Γ',Inv E { s with sl:=sl } Γ' a w∧FixMono Γ w Γ' w∧OwnMono Γ Γ'∧(∀b n j,j<k→Γ b=.list n (.arg j)→Γ' b=.list n (.arg j))∧vs.length=(x::xs).length ∧
       ∀j v,vs[j]? = some v→∃x',(x::xs)[j]? = some x'∧Rep Γ' w v (a.eval x')∧OwnAt Γ' w (.arg (k+j)) v (a.eval x'):=by
     intro v s1 Γ1 vs1 i1 e1 e2 e3 f1 o1 k1 r1 w1 h1 hvs
     obtain ⟨Γ2,i2,f2,o2,k2,hlen,hall⟩:=ih (k+1) i1 hl h1
     subst hvs
     refine ⟨Γ2,by rw [← e1,← e2,← e3];exact i2,f1.trans f2,o1.trans o2,fun b n j hj hb=>k2 b n j (by omega) (k1 b n j hj hb),by simp [hlen],fun j u hu=>?_⟩
     cases j with
     |zero =>
      obtain rfl:=ed hu
      exact ⟨x,rfl,r1.mono f2 o2,w1.mono f2 o2 fun b n hb=>⟨k2 b n k (by omega) hb,rfl⟩⟩
     |succ j =>
      obtain ⟨x',hx',hr,ho⟩:=hall j u (by simpa using hu)
      exact ⟨x',by simpa using hx',hr,by rw [show k+(j+1)=k+1+j by omega];exact ho⟩
    have plain:∀(q:Opnd),cOpnd P t x=some q∨(∃i,x=.tmp i∧q=.tmp i)→y=.inr q →
      ∃Γ',Inv E { s with sl:=sl } Γ' a w∧FixMono Γ w Γ' w∧OwnMono Γ Γ'∧(∀b n j,j<k→Γ b=.list n (.arg j)→Γ' b=.list n (.arg j))∧vs.length=(x::xs).length ∧
       ∀j v,vs[j]? = some v→∃x',(x::xs)[j]? = some x'∧Rep Γ' w v (a.eval x')∧OwnAt Γ' w (.arg (k+j)) v (a.eval x'):=by
     intro q hq hp
     subst hp
     have hq:cOpnd P t x=some q:=by
      rcases hq with h|⟨i,rfl,rfl⟩
      ·exact h
      ·rfl
     simp only [argVals] at h
     split at h
     case h_2=>cases h
     rename_i v hv
     obtain ⟨p1,h1,h2⟩:=eP.1 h
     obtain ⟨rfl,rfl⟩:=iI h2
     exact step v s Γ p1.1 hI rfl rfl rfl (.refl _ _) (.refl _) (fun _ _ _ _ h=>h) (cOpnd_rep hG hI hq hv).1 (cOpnd_own hG hI _ hq hv) h1 rfl
    split at hy
    ·rename_i i
     split at hy
     ·obtain rfl:=ed hy
      simp only [argVals] at h
      split at h
      case h_2=>cases h
      rename_i v hv
      obtain ⟨p1,h1,h2⟩:=eP.1 h
      obtain ⟨rfl,rfl⟩:=iI h2
      obtain ⟨Γ1,i1,r1,w1,f1,o1,k1⟩:=hI.hand (.arg k) i hv
      exact step v (s.let_ i) Γ1 p1.1 i1 rfl rfl rfl f1 o1 (fun b n j _ hb=>k1 b n j hb) r1 w1 h1 rfl
     ·exact plain _ (.inr ⟨i,rfl,rfl⟩) (ed hy).symm
    ·obtain ⟨q,hq,rfl⟩:=eP.1 hy
     exact plain q (.inl hq) rfl
theorem spared_after {s:AState}{e:Eff}{g:Nat}(hg:g<s.bs)(h:Spared (s.after e) g):Spared s.ef g∧Spared e g:=by
 cases e with
 |none=>exact ⟨h,fun _ _ e=>by cases e⟩
 |some p =>
  obtain ⟨x,y⟩:=p
  simp only [AState.after] at h
  split at h
  ·obtain ⟨h1,h2⟩:=spared_or h
   exact ⟨h1,fun _ _ e=>by cases e;exact h2⟩
  ·exact ⟨h,fun _ _ e=>by cases e;omega⟩
theorem Inv.called (hI:Inv E s Γ a w){Γ':Ghost}{w':World}{hp:List AObj}{e:Eff}{v:AV}{cv:Value}(hr:RW E.W0 Γ' w' hp)(hv:Rep Γ' w' v cv)(ho:OwnAt Γ' w' .res v cv)
  (hf:Frame (fun b=>seenK s.hp.length (Γ b)) w Γ' w' e) (hle:s.hp.length≤hp.length∧∀b g,Γ' b=.own g→g<s.hp.length→seenK s.hp.length (Γ b)=.own g) :
  ∃Γ'',Inv E { sl := s.sl,hp := hp,ef := s.after e,bs := s.bs } Γ'' a w'∧Rep Γ'' w' v cv∧OwnAt Γ'' w' .res v cv:=by
 have lt:∀b,Γ b≠.imm→b<w.heap.size:=fun b hb=>by
  rcases dJ b w.heap.size with h' | h'
  ·exact h'
  ·exact absurd (hI.rw.fresh b h') hb
 have slot:∀b m t,Γ b=.list m (.slot t)→Γ' b=.list m .outer∧w'.heap[b]? = w.heap[b]?:=fun b m t hb=>by
  obtain ⟨e1,e2⟩:=hf.keep b (lt b (by rw [hb];simp)) (by simp only [hb,seenK,Kept])
  exact ⟨by rw [e1];simp [hb,seenK],e2⟩
 have back:∀b,(∃m t,Γ b=.list m (.slot t)∧Γ' b=.list m .outer∧backK (Γ b) (Γ' b)=.list m (.slot t))∨((∀m t,Γ b≠.list m (.slot t))∧∀k,(∀m t,k≠.list m (.slot t))→(∀m t,k≠.list m (.arg t))→Γ' b=k→backK (Γ b) (Γ' b)=k):=by
  intro b
  cases hb:Γ b with
  |imm=>refine .inr ⟨by simp,fun k h1 h2 h3=>?_⟩;subst h3;cases hg:Γ' b with
   |list m l=>rw [hg] at h1 h2;cases l<;>first|rfl|exact absurd rfl (h1 _ _)|exact absurd rfl (h2 _ _)
   |_=>rfl
  |own g=>refine .inr ⟨by simp,fun k h1 h2 h3=>?_⟩;subst h3;cases hg:Γ' b with
   |list m l=>rw [hg] at h1 h2;cases l<;>first|rfl|exact absurd rfl (h1 _ _)|exact absurd rfl (h2 _ _)
   |_=>rfl
  |list n q =>
   cases q with
   |slot t=>exact .inl ⟨n,t,rfl,(slot b n t hb).1,rfl⟩
   |_ =>
    refine .inr ⟨by simp,fun k h1 h2 h3=>?_⟩;subst h3;cases hg:Γ' b with
    |list m l=>rw [hg] at h1 h2;cases l<;>first|rfl|exact absurd rfl (h1 _ _)|exact absurd rfl (h2 _ _)
    |_=>rfl
 have imm':∀b,(∀m t,Γ b≠.list m (.slot t))→(∃m t,Γ' b=.list m (.slot t))∨(∃m t,Γ' b=.list m (.arg t))→backK (Γ b) (Γ' b)=.imm:=by
  intro b h h2
  cases hb:Γ b with
  |imm=>rcases h2 with ⟨m,t,e⟩|⟨m,t,e⟩<;>rw [e]<;>rfl
  |own g=>rcases h2 with ⟨m,t,e⟩|⟨m,t,e⟩<;>rw [e]<;>rfl
  |list n q=>cases q with
   |slot t=>exact absurd hb (h n t)
   |_=>rcases h2 with ⟨m,t,e⟩|⟨m,t,e⟩<;>rw [e]<;>rfl
 have f3:FixMono Γ' w' (fun b=>backK (Γ b) (Γ' b)) w':=by
  intro b o v h1 h2
  refine ⟨?_,h2⟩
  unfold Fixed at h1 ⊢
  rcases back b with ⟨m,t,e1,e2,e3⟩|⟨h,h'⟩
  ·show FixedK o (backK (Γ b) (Γ' b))
   rw [e3]
   rw [e2] at h1
   exact h1
  ·show FixedK o (backK (Γ b) (Γ' b))
   by_cases hs:(∃m t,Γ' b=.list m (.slot t))∨(∃m t,Γ' b=.list m (.arg t))
   ·rw [imm' b h hs];trivial
   ·rw [h' (Γ' b) (fun m t e=>hs (.inl ⟨m,t,e⟩)) (fun m t e=>hs (.inr ⟨m,t,e⟩)) rfl];exact h1
 have own':∀b g,Γ' b=.own g↔backK (Γ b) (Γ' b)=.own g:=by
  intro b g
  rcases back b with ⟨m,t,e1,e2,e3⟩|⟨h,h'⟩
  ·rw [e3,e2];simp
  ·by_cases hs:(∃m t,Γ' b=.list m (.slot t))∨(∃m t,Γ' b=.list m (.arg t))
   ·rw [imm' b h hs]
    rcases hs with ⟨m,t,e⟩|⟨m,t,e⟩<;>rw [e]<;>simp
   ·rw [h' (Γ' b) (fun m t e=>hs (.inl ⟨m,t,e⟩)) (fun m t e=>hs (.inr ⟨m,t,e⟩)) rfl]
 have keepL:∀b k,(∀m,k≠.list m .outer)→(∀m t,k≠.list m (.slot t))→(∀m t,k≠.list m (.arg t))→Γ' b=k→backK (Γ b) (Γ' b)=k:=by
  intro b k h0 h1 h2 hb
  rcases back b with ⟨m,t,e1,e2,e3⟩|⟨h,h'⟩
  ·rw [e2] at hb;exact absurd hb.symm (h0 m)
  ·exact h' k h1 h2 hb
 have o3:OwnMono Γ' (fun b=>backK (Γ b) (Γ' b)):=fun b g hb=>(own' b g).1 hb
 have f1:FixMono Γ w (fun b=>seenK s.hp.length (Γ b)) w:=fun _ _ _ h1 h2=>⟨seenK_fix h1,h2⟩
 have o1:OwnMono Γ (fun b=>seenK s.hp.length (Γ b)):=fun b g hb=>seenK_own.1 hb
 have fAll:=(f1.trans hf.fix).trans f3
 have oAll:=(o1.trans hf.own).trans o3
 refine ⟨fun b=>backK (Γ b) (Γ' b),⟨hI.defers,⟨hI.slots.size,fun t x hx=>(hI.slots.rep t x hx).mono fAll oAll,fun t x hx=>(hI.slots.own t x hx).mono fAll oAll fun b n hb=>?_⟩,?_,?_,hI.base,hI.base2,dK hI.le hle.1,fun b g hb hl=>hI.back b g (seenK_own.2 (hle.2 b g ((own' b g).2 hb) (dM hl hI.le))) hl⟩,hv.mono f3 o3,ho.mono f3 o3 fun b n hb=>⟨keepL b _ (by simp) (by simp) (by simp) hb,rfl⟩⟩
 ·refine ⟨?_,(slot b n t hb).2⟩
  show backK (Γ b) (Γ' b)=_
  rw [hb];rfl
 ·exact hr.alike f3 own' (fun b n g i _ hb=>keepL b _ (by simp) (by simp) (by simp) hb) (fun b hb=>keepL b _ (by simp) (by simp) (by simp) hb)
 ·refine ⟨hf.os.trans hI.fr.os,hf.tape.trans hI.fr.tape,hf.output.trans hI.fr.output,dK hI.fr.size hf.size,hI.fr.fix.trans fAll,hI.fr.own.trans oAll,fun b hb hk=>?_⟩
  have hb':=dM hb hI.fr.size
  cases hg:E.Γ0 b with
  |imm =>
   obtain ⟨e1,e2⟩:=hI.fr.keep b hb (by rw [hg];trivial)
   rw [hg] at e1
   obtain ⟨e3,e4⟩:=hf.keep b hb' (by simp only [e1,seenK,Kept])
   simp only [e1,seenK] at e3
   exact ⟨keepL b _ (by simp) (by simp) (by simp) e3,e4.trans e2⟩
  |own g =>
   rw [hg] at hk
   obtain ⟨s1,s2⟩:=spared_after (hI.base b g hg) hk
   obtain ⟨e1,e2⟩:=hI.fr.keep b hb (by rw [hg];exact s1)
   rw [hg] at e1
   obtain ⟨e3,e4⟩:=hf.keep b hb' (by simp only [e1,seenK,Kept];exact s2)
   simp only [e1,seenK] at e3
   exact ⟨keepL b _ (by simp) (by simp) (by simp) e3,e4.trans e2⟩
  |list n m =>
   rw [hg] at hk
   cases m with
   |outer =>
    obtain ⟨e1,e2⟩:=hI.fr.keep b hb (by rw [hg];trivial)
    rw [hg] at e1
    obtain ⟨e3,e4⟩:=hf.keep b hb' (by simp only [e1,seenK,Kept])
    simp only [e1,seenK] at e3
    refine ⟨?_,e4.trans e2⟩
    show backK (Γ b) (Γ' b)=_
    rw [e1,e3];rfl
   |cell g i =>
    have hgb:=hI.base2 b n g i hg
    obtain ⟨s1,s2⟩:=spared_after hgb hk
    obtain ⟨e1,e2⟩:=hI.fr.keep b hb (by rw [hg];exact s1)
    rw [hg] at e1
    have hlt:g<s.hp.length:=dM hgb hI.le
    obtain ⟨e3,e4⟩:=hf.keep b hb' (by simp only [e1,seenK,if_pos hlt,Kept];exact s2)
    simp only [e1,seenK,if_pos hlt] at e3
    exact ⟨keepL b _ (by simp) (by simp) (by simp) e3,e4.trans e2⟩
   |slot t=>exact hk.elim
   |res=>exact hk.elim
   |arg j=>exact hk.elim
end
section
variable {P:Program}{G:Nat→Option (List AV)}{call:FuncId→List AV→List AObj→Option (AV×List AObj×Eff)}{E:Entry}{s s':AState}{Γ:Ghost}{a:Act}{w:World}{o:Oper}{hand:Nat→Bool}{draw:Bool}{ao:AOp}{v:AV}
theorem call_eq {c:Call}{b:Callee}{xs:List Operand}{ts:List TypeId}(h0:c.callee=b)(h1:c.args.toList=xs)(h2:c.argTypes.toList=ts):c={ callee := b,args := xs.toArray,argTypes := ts.toArray }:=by
 cases c with
 |mk q xs' ts'=>subst h0 h1 h2;simp
theorem op_builtin (hG:GOk G E.W0)(hI:Inv E s Γ a w){c:Call}(hop:o.op=.call c)(hnv:∀f,c.callee≠.value f)(hc:cOp P hand draw o=some ao)(h:evalOp G call s ao=some (v,s')):OpFit P E Γ s s' v a w o ao:=by
 simp only [cOp,hop] at hc
 split at hc
 ·rename_i f hf;exact absurd hf (hnv f)
 ·rename_i hf
  split at hc<;>first|(cases hc;done)|skip
  rename_i x t hx ht
  rw [call_eq hf hx ht] at hop
  split at hc<;>first|(cases hc;done)|skip
  all_goals
   rename_i hu
   obtain ⟨x',hx',rfl⟩:=eP.1 hc
   simp only [evalOp] at h
   split at h<;>first|(cases h;done)|skip
   rename_i u hu'
   replace h:=map_pair h
   obtain ⟨h,hss⟩:=h
   subst hss
  ·exact (ok_len (sh := .str) hG hI hop hu hx' hu' h).fit hI
  ·exact (ok_len (sh := .slice) hG hI hop ⟨_,hu⟩ hx' hu' h).fit hI
  ·exact (ok_len (sh := .map) hG hI hop ⟨_,_,hu⟩ hx' hu' h).fit hI
 ·rename_i hf
  split at hc<;>first|(cases hc;done)|skip
  rename_i q x t u hx ht
  rw [call_eq hf hx ht] at hop
  split at hc<;>first|(cases hc;done)|skip
  rename_i e hu
  split at hc<;>first|(cases hc;done)|skip
  rename_i i z hi hz
  split at hc
  case isFalse=>cases hc
  rename_i hk
  obtain ⟨rfl,hk1,hk2,hk3⟩:=hk
  split at hc<;>first|(cases hc;done)|skip
  ·rename_i sl x' hx'
   obtain rfl:=ed hc
   simp only [evalOp] at h
   split at h<;>first|(cases h;done)|skip
   rename_i k' r y hsl hy
   split at h<;>first|(cases h;done)|skip
   rename_i k'' r' hr
   split at h<;>first|(cases h;done)|skip
   rename_i hh
   obtain ⟨rfl,rfl,hid,hb⟩:=hh
   cases h
   exact (ok_app hG hI hop hu hi hz hk2 hk1 hk3 hx' hsl hy hr hid hb).fit
  ·rename_i x' hx'
   obtain rfl:=ed hc
   simp only [evalOp] at h
   split at h<;>first|(cases h;done)|skip
   rename_i y hy
   split at h<;>first|(cases h;done)|skip
   rename_i k'' r' hr
   split at h<;>first|(cases h;done)|skip
   rename_i hh
   obtain ⟨rfl,hid,hb⟩:=hh
   cases h
   exact (ok_appn hG hI hop hu hi hz hk2 hk1 hk3 hx' hy hr hid hb).fit
 ·rename_i hf
  split at hc<;>first|(cases hc;done)|skip
  rename_i q x t u hx ht
  rw [call_eq hf hx ht] at hop
  split at hc<;>first|(cases hc;done)|skip
  rename_i e hu
  split at hc<;>first|(cases hc;done)|skip
  rename_i i hi
  split at hc<;>first|(cases hc;done)|skip
  rename_i hk
  obtain ⟨rfl,hk1⟩:=hk
  split at hc<;>first|(cases hc;done)|skip
  rename_i d' x' hd' hx'
  obtain rfl:=ed hc
  simp only [evalOp] at h
  split at h<;>first|(cases h;done)|skip
  ·rename_i g off len k'' y hd hy
   split at h<;>first|(cases h;done)|skip
   rename_i k' r cs t' hr hg
   split at h<;>first|(cases h;done)|skip
   rename_i hh
   obtain ⟨rfl,rfl,hfit,hone⟩:=hh
   cases h
   exact (ok_copy hG hI hop hu hi hk1 hd' hx' hd hy hr hg hfit hone).fit
  ·rename_i k'' y hd hy
   split at h<;>first|(cases h;done)|skip
   rename_i k' r hr
   split at h<;>first|(cases h;done)|skip
   rename_i hh
   subst hh
   cases h
   exact (ok_copy0 hG hI hop hu hi hd' hx' hd hy hr).fit
 ·rename_i hf
  split at hc<;>first|(cases hc;done)|skip
  rename_i t l ht
  split at hc<;>first|(cases hc;done)|skip
  obtain ⟨ps,hps,rfl⟩:=eP.1 hc
  simp only [evalOp] at h
  split at h<;>first|(cases h;done)|skip
  rename_i n vs hv
  obtain ⟨r,hr,e⟩:=eP.1 h
  cases e
  exact (ok_minmax (isMax := false) hG hI (by rw [hop];cases c;simp only at hf;subst hf;rfl) hps hv hr).fit
 ·rename_i hf
  split at hc<;>first|(cases hc;done)|skip
  rename_i t l ht
  split at hc<;>first|(cases hc;done)|skip
  obtain ⟨ps,hps,rfl⟩:=eP.1 hc
  simp only [evalOp] at h
  split at h<;>first|(cases h;done)|skip
  rename_i n vs hv
  obtain ⟨r,hr,e⟩:=eP.1 h
  cases e
  exact (ok_minmax (isMax := true) hG hI (by rw [hop];cases c;simp only at hf;subst hf;rfl) hps hv hr).fit
 ·cases hc
theorem op_fit (hG:GOk G E.W0)(hI:Inv E s Γ a w)(hnv:∀c f,o.op=.call c→c.callee≠.value f)(hc:cOp P hand draw o=some ao)(h:evalOp G call s ao=some (v,s')):OpFit P E Γ s s' v a w o ao:=by
 cases hop:o.op with
 |move x=>exact op_move hG hI hop hc h
 |assign x=>exact op_assign hG hI hop hc h
 |pick c x y=>exact op_pick hG hI hop hc h
 |alloc e=>exact op_new hG hI (.inl ⟨_,hop⟩) hc h
 |box e x=>exact op_new hG hI (.inr ⟨_,_,hop⟩) hc h
 |build t ps=>exact op_build hG hI hop hc h
 |buildSlice t n ps=>exact op_lit hG hI hop hc h
 |load t p=>exact op_load hG hI hop hc h
 |store t p x=>exact op_store hG hI hop hc h
 |nilCheck x=>exact op_plain1 hG hI (.inl ⟨_,hop⟩) hc h
 |binOp op t x y t'=>exact op_plain1 hG hI (.inr (.inl ⟨_,_,_,_,_,hop⟩)) hc h
 |unOp op t x=>exact op_plain1 hG hI (.inr (.inr ⟨_,_,_,hop⟩)) hc h
 |convert src dst x=>exact op_convert hG hI hop hc h
 |makeFunc fn x y=>exact op_make hG hI (.inl ⟨_,_,_,hop⟩) hc h
 |makeMap t r=>exact op_make hG hI (.inr (.inl ⟨_,_,hop⟩)) hc h
 |makeSlice t l c=>exact op_make hG hI (.inr (.inr ⟨_,_,_,hop⟩)) hc h
 |slice t x lo hi mx=>exact op_slice hG hI hop hc h
 |fieldAddr t x f=>exact op_addr hG hI (.inl ⟨_,_,_,hop⟩) hc h
 |field t x f=>exact op_addr hG hI (.inr (.inl ⟨_,_,_,hop⟩)) hc h
 |indexAddr t x i=>exact op_addr hG hI (.inr (.inr (.inl ⟨_,_,_,hop⟩))) hc h
 |index t x i=>exact op_addr hG hI (.inr (.inr (.inr ⟨_,_,_,hop⟩))) hc h
 |lookup t x i ok=>exact op_map hG hI (.inl ⟨_,_,_,_,hop⟩) hc h
 |mapUpdate t m k x=>exact op_map hG hI (.inr ⟨_,_,_,_,hop⟩) hc h
 |range t x=>exact op_iter hG hI (.inl ⟨_,_,hop⟩) hc h
 |next x b=>exact op_iter hG hI (.inr (.inl ⟨_,_,hop⟩)) hc h
 |extract x i=>exact op_iter hG hI (.inr (.inr ⟨_,_,hop⟩)) hc h
 |call c=>exact op_builtin hG hI hop (fun f=>hnv c f hop) hc h
 |_=>simp [cOp,hop] at hc
end
section
variable {P:Program}{G:Nat→Option (List AV)}{call:FuncId→List AV→List AObj→Option (AV×List AObj×Eff)}{E:Entry}{s s':AState}{Γ:Ghost}{a:Act}{w:World}{o:Oper}{hand:Nat→Bool}{draw:Bool}{ao:AOp}{v:AV}
theorem nm_not_own {x:AV}{k:Nat}{r:List (List AV)}:x.nm≠.own k r:=by cases x<;>simp [AV.nm]
theorem three {first vs caps:List AV}{fv cv:Array Value}{xs:Array Value}(h1:fv.size=first.length)(h2:xs.size=vs.length)(h3:cv.size=caps.length){R:Nat→AV→Value→Prop}
  (k1:∀j x,first[j]? = some x→R j x.nm (fv.getD j Go.undef)) (k2:∀j x,vs[j]? = some x→R (first.length+j) x (xs.getD j Go.undef)) (k3:∀j x i,caps[j]? = some x→R i x.nm (cv.getD j Go.undef)) :
  ((fv++xs)++cv).size=(first.map AV.nm++vs++caps.map AV.nm).length∧∀j x,(first.map AV.nm++vs++caps.map AV.nm)[j]? = some x→R j x (((fv++xs)++cv).getD j Go.undef):=by
 refine ⟨by simp [h1,h2,h3],fun j x hx=>?_⟩
 have hget:∀i,((fv++xs)++cv).getD i Go.undef=if i<first.length then fv.getD i Go.undef else if i<first.length+vs.length then xs.getD (i - first.length) Go.undef else cv.getD (i - (first.length+vs.length)) Go.undef:=by
  intro i
  simp only [aA,Array.getElem?_append,Array.size_append,h1,h2]
  split
  ·split
   ·rfl
   ·rfl
  ·rename_i hge
   rw [if_neg (by omega)]
 rw [hget]
 by_cases c1:j<first.length
 ·rw [if_pos c1]
  rw [bJ,bK (by simpa using c1),aP] at hx
  obtain ⟨y,hy,rfl⟩:=eP.1 hx
  exact k1 j y hy
 ·rw [if_neg c1]
  by_cases c2:j<first.length+vs.length
  ·rw [if_pos c2]
   rw [bJ,bM (by simpa using c1),bK (by simp;omega)] at hx
   simp only [dF] at hx
   have:=k2 _ x hx
   rwa [show first.length+(j - first.length)=j by omega] at this
  ·rw [if_neg c2]
   rw [bM (by simp;omega),aP] at hx
   simp only [aZ,dF] at hx
   obtain ⟨y,hy,rfl⟩:=eP.1 hx
   exact k3 _ y j hy
theorem call_run {c:Call}{f:Operand}(hop:o.op=.call c)(hcal:c.callee=.value f){g:FuncId}{fv cv:Array Value}(hf:a.eval f=.func (.func g) fv cv)(w:World) :
  (execOp a.eval o).run P w=(callFunc g ((fv++c.args.map a.eval)++cv)).run P w:=by
 simp only [execOp,hop]
 simp only [resolve,hcal,Deferred.ofValue,hf,Sem.run_bind,Sem.run_pure,Result.andThen_ok,invoke]
theorem op_call (hG:GOk G E.W0)(hS:CallSpec P E.W0 call)(hI:Inv E s Γ a w){c:Call}{f:Operand}(hop:o.op=.call c)(hcal:c.callee=.value f)(hc:cOp P hand draw o=some ao)(h:evalOp G call s ao=some (v,s'))
  {K:Act→World→Prop} {Q:Exit→Act→World→Prop} (hK:∀Γ' cv w',Inv E s' Γ' a w'→Rep Γ' w' v cv→OwnAt Γ' w' .res v cv→K (a.put o.dst cv) w'):o.wp P a w K Q:=by
 simp only [cOp,hop,hcal] at hc
 split at hc<;>first|(cases hc;done)|skip
 rename_i f' args hf hargs
 obtain rfl:=ed hc
 simp only [evalOp] at h
 split at h<;>first|(cases h;done)|skip
 rename_i g first caps vs sl hfv hvs
 split at h<;>first|(cases h;done)|skip
 rename_i u hp e hcall
 cases h
 obtain ⟨Γ1,i1,f1,o1,_,hlen,hall⟩:=args_ok hG first.length hI hargs hvs
 have hfn:=((cOpnd_rep hG hI hf hfv).1).mono f1 o1
 generalize hq:a.eval f=q at hfn
 cases hfn with
 |fn _ _ _ fv cv hs1 hr1 hs hr =>
  have f2:FixMono Γ1 w (fun b=>seenK s.hp.length (Γ1 b)) w:=fun _ _ _ h1 h2=>⟨seenK_fix h1,h2⟩
  have o2:OwnMono Γ1 (fun b=>seenK s.hp.length (Γ1 b)):=fun b g hb=>seenK_own.1 hb
  obtain ⟨t1,t2⟩:=three (first := first) (vs := vs) (caps := caps) (fv := fv) (cv := cv) (xs := c.args.map a.eval) hs1 (by simp [hlen]) hs
   (R := fun j x y=>Rep (fun b=>seenK s.hp.length (Γ1 b)) w x y∧OwnAt (fun b=>seenK s.hp.length (Γ1 b)) w (.slot j) x y)
   (fun j x hx=>⟨((hr1 j x hx).mono f2 o2).nm,.of_ne fun _ _=>nm_not_own⟩)
   (fun j x hx=>by
    obtain ⟨y,hy,hr,ho⟩:=hall j x hx
    have:(c.args.map a.eval).getD j Go.undef=a.eval y:=by
     rw [aF] at hy
     rw [aA,aI,hy];rfl
    rw [this]
    exact ⟨hr.mono f2 o2,ho.mono f2 o2 fun b n hb=>⟨by simp [hb,seenK],rfl⟩⟩)
   (fun j x i hx=>⟨((hr j x hx).mono f2 o2).nm,.of_ne fun _ _=>nm_not_own⟩)
  have hw:=hS g _ _ _ _ _ hcall _ w _ i1.rw.seen (seen_tidy Γ1 _) t1 t2
  unfold Oper.wp
  rw [call_run hop hcal hq]
  have fin:∀cv w',(∃Γ',RW E.W0 Γ' w' hp∧Rep Γ' w' v cv∧OwnAt Γ' w' .res v cv∧Frame (fun b=>seenK s.hp.length (Γ1 b)) w Γ' w' e∧s.hp.length≤hp.length∧∀b g,Γ' b=.own g→g<s.hp.length→seenK s.hp.length (Γ1 b)=.own g)→K (a.put o.dst cv) w':=by
   rintro cv w' ⟨Γ',r1,r2,r3,r4,r5⟩
   obtain ⟨Γ'',j1,j2,j3⟩:=i1.called r1 r2 r3 r4 r5
   exact hK Γ'' cv w' j1 j2 j3
  obtain ⟨hrun,hw⟩:=hw
  rw [hrun,Oper.upon_enter]
  refine hw.mono fun en w'' ⟨cv',hv,hR⟩=>?_
  subst hv
  exact fin cv' w'' hR
theorem op_wp (hG:GOk G E.W0)(hS:CallSpec P E.W0 call)(hI:Inv E s Γ a w)(hc:cOp P hand draw o=some ao)(h:evalOp G call s ao=some (v,s'))
  {K:Act→World→Prop} {Q:Exit→Act→World→Prop} (hK:∀Γ' cv w',Inv E s' Γ' a w'→Rep Γ' w' v cv→OwnAt Γ' w' .res v cv→K (a.put o.dst cv) w'):o.wp P a w K Q:=by
 by_cases hv:∃c f,o.op=.call c∧c.callee=.value f
 ·obtain ⟨c,f,h1,h2⟩:=hv
  exact op_call hG hS hI h1 h2 hc h hK
 ·exact (op_fit hG hI (fun c f h1 h2=>hv ⟨c,f,h1,h2⟩) hc h).1.wp hK
structure Behind (W w:World):Prop where
 os:w.os=W.os
 tape:w.tape=W.tape
 output:w.output=W.output
 size:W.heap.size≤w.heap.size
 upon:Upon W w
theorem Behind.inv (hI:Inv E s Γ a w){w':World}(h:Behind w w'):Inv E s Γ a w' :=
 hI.plain (X := fun _=>False) ⟨h.os,h.tape,h.output,h.size,fun b hb _=>⟨rfl,h.upon b hb⟩,fun _ _ _ h1 h2=>⟨h1,h.upon.cell h2⟩,.refl _⟩ (fun _ hx=>hx.elim) (fun _ _ h=>h) (fun b hb=>hI.rw.fresh b (dK h.size hb))
def quietK (n:Nat):Kind→Kind
 |.list m (.cell g i)=>if g<n then .list m (.cell g i) else .imm
 |.list m _=>.list m .outer
 |k=>k
theorem quietK_fix {n o:Nat}{k:Kind}(h:FixedK o k):FixedK o (quietK n k):=by
 cases k with
 |imm=>trivial
 |own g=>exact h.elim
 |list m l =>
  cases l<;>simp only [quietK]<;>first|exact h|skip
  split
  ·exact h
  ·trivial
theorem quietK_own {n g:Nat}{k:Kind}:k=.own g↔quietK n k=.own g:=by
 cases k with
 |imm=>simp [quietK]
 |own g=>simp [quietK]
 |list m l =>
  cases l<;>simp only [quietK]<;>try simp
  split<;>simp
theorem quiet_tidy (Γ:Ghost)(n:Nat):Tidy (fun b=>quietK n (Γ b)) n:=by
 refine ⟨fun b m h=>?_,fun b m j h=>?_,fun b m g i h=>?_⟩<;>revert h<;>cases Γ b with
 |imm=>simp [quietK]
 |own g=>simp [quietK]
 |list m l =>
  cases l<;>simp only [quietK]<;>try simp
  try (split<;>simp<;>try omega)
theorem quiet_kept (n:Nat)(k:Kind):Kept none (quietK n k):=by
 cases k with
 |imm=>trivial
 |own g=>exact fun _ _ e=>by cases e
 |list m l =>
  cases l<;>simp only [quietK]<;>try trivial
  split
  ·exact fun _ _ e=>by cases e
  ·trivial
theorem RW.quiet {W0 w:World}{Γ:Ghost}{hp:List AObj}(h:RW W0 Γ w hp):RW W0 (fun b=>quietK hp.length (Γ b)) w hp :=
 h.alike (fun _ _ _ h1 h2=>⟨quietK_fix h1,h2⟩) (fun _ _=>quietK_own) (fun b n g i hl hb=>by simp [hb,quietK,hl]) (fun b hb=>by simp [hb,quietK])
theorem args_quiet (hG:GOk G E.W0)(hI:Inv E s Γ a w):∀{args:List (Nat ⊕ Opnd)} {ts:List TypeId} {xs:List Operand} {hand:Nat→Bool} {vs sl:List AV},cArgs P hand ts xs=some args→noHand (.call (.glob 0) args)=true →
  argVals G s.sl args=some (vs,sl)→sl=s.sl∧vs.length=xs.length∧∀(j:Nat) (v:AV),vs[j]? = some v→∃x,xs[j]? = some x∧Rep Γ w v (a.eval x)∧∀k r,v=.own k r→r=[]∧a.eval x=.slice none 0 0:=by
 intro args
 induction args with
 |nil =>
  intro ts xs hand vs sl hc _ h
  simp only [argVals,eu,iH] at h
  obtain ⟨rfl,rfl⟩:=h
  have:xs=[]:=by
   cases xs with
   |nil=>rfl
   |cons x xs =>
    cases ts with
    |nil=>simp [cArgs] at hc
    |cons t ts =>
     simp only [cArgs] at hc
     split at hc<;>simp at hc
  subst this
  exact ⟨rfl,rfl,fun j v hv=>by simp at hv⟩
 |cons p args ih =>
  intro ts xs hand vs sl hc hq h
  cases xs with
  |nil=>cases ts<;>simp [cArgs] at hc
  |cons x xs =>
   cases ts with
   |nil=>simp [cArgs] at hc
   |cons t ts =>
    simp only [cArgs] at hc
    split at hc
    case h_2=>cases hc
    rename_i y l hy hl
    obtain ⟨rfl,rfl⟩:=List.cons.inj (ed hc)
    simp only [noHand,fO,fG] at hq
    cases y with
    |inl i=>exact absurd hq.1 (by simp)
    |inr q =>
     have hqx:cOpnd P t x=some q:=by
      split at hy
      ·rename_i i
       split at hy
       ·cases hy
       ·cases hy;rfl
      ·obtain ⟨q',h1,h2⟩:=eP.1 hy
       cases h2;exact h1
     simp only [argVals] at h
     split at h
     case h_2=>cases h
     rename_i v hv
     obtain ⟨p1,h1,h2⟩:=eP.1 h
     obtain ⟨rfl,rfl⟩:=iI h2
     obtain ⟨e1,e2,e3⟩:=ih hl hq.2 h1
     obtain ⟨r1,r2⟩:=cOpnd_rep hG hI hqx hv
     refine ⟨e1,by simp [e2],fun j u hu=>?_⟩
     cases j with
     |zero =>
      obtain rfl:=ed hu
      exact ⟨x,rfl,r1,r2⟩
     |succ j =>
      obtain ⟨x',hx',hr⟩:=e3 j u (by simpa using hu)
      exact ⟨x',by simpa using hx',hr⟩
theorem flat1_rep {Γ Γ':Ghost}{w w':World}{v:AV}{cv:Value}(h:Rep Γ w v cv)(hf:v.flat1=true):Rep Γ' w' v cv:=by
 rw [h.conc1 hf];exact conc1_rep hf Γ' w'
theorem flat_rep {Γ Γ':Ghost}{w w':World}{v:AV}{cv:Value}(h:Rep Γ w v cv)(hf:v.flat=true):Rep Γ' w' v cv:=by
 cases h with
 |agg cells cv hs h1 hn hr =>
  simp only [AV.flat,aQ] at hf
  exact .agg cells cv hs h1 hn fun j c hc=>flat1_rep (hr j c hc) (hf c (aS hc))
 |tup vs cv hs hr =>
  simp only [AV.flat,aQ] at hf
  exact .tup vs cv hs fun j c hc=>flat1_rep (hr j c hc) (hf c (aS hc))
 |fn f fst caps fv cv hs1 hr1 hs hr=>exact flat1_rep (Rep.fn f fst caps fv cv hs1 hr1 hs hr) hf
 |undef=>exact .undef
 |bool=>exact .bool _
 |int=>exact .int _ _
 |str=>exact .str _
 |nilp=>exact .nilp
 |nilf=>exact .nilf
 |nilm=>exact .nilm
 |nili=>exact .nili
 |_=>cases hf
theorem Behind.refl (w:World):Behind w w:=⟨rfl,rfl,rfl,dI _,.refl w⟩
theorem flat_own {v:AV}(h:v.flat=true):∀k r,v≠.own k r:=by cases v<;>first|(cases h;done)|simp
theorem op_quiet (hG:GOk G E.W0)(hS:CallSpec P E.W0 call)(hI:Inv E s Γ a w)(hc:cOp P hand draw o=some ao)(hq:quietOp ao=true)(hn:noHand ao=true)(h:evalOp G (quietCall call) s ao=some (v,s'))
  {K:Act→Prop} (hK:∀cv,s'=s→Rep Γ w v cv→(∀l,OwnAt Γ w l v cv)→K (a.put o.dst cv)):o.quiet P a (Behind w) K:=by
 by_cases hv:∃c f,o.op=.call c∧c.callee=.value f
 ·obtain ⟨c,f,hop,hcal⟩:=hv
  simp only [cOp,hop,hcal] at hc
  split at hc<;>first|(cases hc;done)|skip
  rename_i f' args hf hargs
  obtain rfl:=ed hc
  simp only [evalOp] at h
  split at h<;>first|(cases h;done)|skip
  rename_i g first caps vs sl hfv hvs
  split at h<;>first|(cases h;done)|skip
  rename_i u hp e hcall
  cases h
  unfold quietCall at hcall
  split at hcall<;>first|(cases hcall;done)|skip
  rename_i u' hp1 hcall1
  split at hcall<;>first|(cases hcall;done)|skip
  rename_i hflat
  cases hcall
  obtain ⟨q1,q2,q3⟩:=args_quiet hG hI hargs hn hvs
  subst q1
  have main:∀w',Behind w w'→o.quietAt P a (Behind w) w' v.conc∧∃Γ' w'',Rep Γ' w'' v v.conc:=by
   intro w' hw'
   have hI':=hw'.inv hI
   obtain ⟨_,_,q3⟩:=args_quiet hG hI' hargs hn hvs
   have hfn:=(cOpnd_rep hG hI' hf hfv).1
   generalize hq:a.eval f=q at hfn
   cases hfn with
   |fn _ _ _ fv cv hs1 hr1 hs hr =>
    have f2:FixMono Γ w' (fun b=>quietK s.hp.length (Γ b)) w':=fun _ _ _ h1 h2=>⟨quietK_fix h1,h2⟩
    have o2:OwnMono Γ (fun b=>quietK s.hp.length (Γ b)):=fun b g hb=>quietK_own.1 hb
    obtain ⟨t1,t2⟩:=three (first := first) (vs := vs) (caps := caps) (fv := fv) (cv := cv) (xs := c.args.map a.eval) hs1 (by simp [q2]) hs
     (R := fun j x y=>Rep (fun b=>quietK s.hp.length (Γ b)) w' x y∧OwnAt (fun b=>quietK s.hp.length (Γ b)) w' (.slot j) x y)
     (fun j x hx=>⟨((hr1 j x hx).mono f2 o2).nm,.of_ne fun _ _=>nm_not_own⟩)
     (fun j x hx=>by
      obtain ⟨y,hy,hr,ho⟩:=q3 j x hx
      have:(c.args.map a.eval).getD j Go.undef=a.eval y:=by
       rw [aF] at hy
       rw [aA,aI,hy];rfl
      rw [this]
      exact ⟨hr.mono f2 o2,.nil ho⟩)
     (fun j x i hx=>⟨((hr j x hx).mono f2 o2).nm,.of_ne fun _ _=>nm_not_own⟩)
    have hw:=hS g _ _ _ _ _ hcall1 _ w' _ hI'.rw.quiet (quiet_tidy Γ _) t1 t2
    unfold Oper.quietAt
    rw [call_run hop hcal hq]
    have fin:∀cv w'',(∃Γ',RW E.W0 Γ' w'' hp1∧Rep Γ' w'' v cv∧OwnAt Γ' w'' .res v cv∧Frame (fun b=>quietK s.hp.length (Γ b)) w' Γ' w'' none∧s.hp.length≤hp1.length∧∀b g,Γ' b=.own g→g<s.hp.length→quietK s.hp.length (Γ b)=.own g)→cv=v.conc∧Behind w w''∧Upon w' w'':=by
     rintro cv w'' ⟨Γ',r1,r2,r3,r4,r5⟩
     have hup:Upon w' w'':=fun b hb=>(r4.keep b hb (quiet_kept _ _)).2
     exact ⟨conc_of_rep r2 hflat,⟨r4.os.trans hw'.os,r4.tape.trans hw'.tape,r4.output.trans hw'.output,dK hw'.size r4.size,fun b hb=>(hup b (dM hb hw'.size)).trans (hw'.upon b hb)⟩,hup⟩
    obtain ⟨hrun,hw⟩:=hw
    obtain ⟨en,w1,_,⟨cv1,_,hR1⟩,_⟩:=hw []
    rw [hrun]
    refine ⟨⟨rfl,hw.mono fun en w'' ⟨cv',hv,hR⟩=>?_⟩,?_⟩
    ·subst hv
     obtain ⟨e1,e2,_⟩:=fin cv' w'' hR
     exact ⟨by rw [e1],e2⟩
    ·obtain ⟨e1,_,_⟩:=fin cv1 w1 hR1
     obtain ⟨Γ',_,r2,_⟩:=hR1
     rw [e1] at r2
     exact ⟨Γ',w1,r2⟩
  obtain ⟨Γ',w'',hrep⟩:=(main w (.refl w)).2
  exact ⟨v.conc,fun w' hw'=>(main w' hw').1,hK _ rfl (flat_rep hrep hflat) fun l=>.of_ne (flat_own hflat)⟩
 ·obtain ⟨h1,h2⟩:=op_fit hG hI (fun c f h1 h2=>hv ⟨c,f,h1,h2⟩) hc h
  obtain ⟨e,cv,hr,r1,r2⟩:=h2 hq
  exact ⟨cv,fun w' hw'=>by
   unfold Oper.quietAt
   rw [hr w' hw'.upon]
   exact ⟨rfl,rfl⟩,hK cv e r1 fun l=>.nil r2⟩
end
structure LocF (W:List Nat)(f:List AV→List AV):Prop where
 len:∀l,(f l).length=l.length
 out:∀(l:List AV) (i:Nat),i∉W→(f l)[i]? = l[i]?
 on:∀(l m:List AV) (i:Nat),i∈W→l.length=m.length→l[i]? = m[i]?→(f l)[i]? = (f m)[i]?
theorem LocF.id (W:List Nat):LocF W id:=⟨fun _=>rfl,fun _ _ _=>rfl,fun _ _ _ _ _ h=>h⟩
theorem LocF.set (d:Nat)(v:AV):LocF [d] (fun l=>l.set d v):=by
 refine ⟨fun l=>by simp,fun l i hi=>?_,fun l m i hi hl h=>?_⟩
 ·have:d≠i:=fun e=>hi (by simp [e])
  rw [fQ this]
 ·have:i=d:=by simpa using hi
  subst this
  simp only [List.getElem?_set_self']
  rw [h]
theorem LocF.mod (t:Nat):LocF [t] (fun l=>l.modify t AV.ro):=by
 refine ⟨fun l=>by simp,fun l i hi=>?_,fun l m i hi hl h=>?_⟩
 ·have:t≠i:=fun e=>hi (by simp [e])
  rw [aV];simp [this]
 ·rw [aV,aV,h]
theorem LocF.comp {V W:List Nat}{f g:List AV→List AV}(hf:LocF V f)(hg:LocF W g):LocF (W++V) (fun l=>g (f l)):=by
 refine ⟨fun l=>by rw [hg.len,hf.len],fun l i hi=>?_,fun l m i hi hl h=>?_⟩
 ·rw [List.mem_append,not_or] at hi
  rw [hg.out _ _ hi.1,hf.out _ _ hi.2]
 ·have hfi:(f l)[i]? = (f m)[i]?:=by
   by_cases h2:i∈V
   ·exact hf.on l m i h2 hl h
   ·rw [hf.out _ _ h2,hf.out _ _ h2,h]
  by_cases h1:i∈W
  ·exact hg.on _ _ i h1 (by rw [hf.len,hf.len,hl]) hfi
  ·rw [hg.out _ _ h1,hg.out _ _ h1,hfi]
theorem LocF.swap {V W:List Nat}{f g:List AV→List AV}(hf:LocF V f)(hg:LocF W g)(hd:apartB V W=true)(l:List AV):f (g l)=g (f l):=by
 have hd':∀i,i∈V→i∉W:=fun i hi hw=>by
  have:=aQ.1 hd i hi
  simp at this
  exact this hw
 refine fM fun i=>?_
 by_cases h1:i∈V
 ·have h2:=hd' i h1
  rw [hg.out (f l) i h2,hf.on (g l) l i h1 (hg.len l) (hg.out l i h2)]
 ·rw [hf.out (g l) i h1]
  by_cases h2:i∈W
  ·exact (hg.on (f l) l i h2 (hf.len l) (hf.out l i h1)).symm
  ·rw [hg.out l i h2,hg.out (f l) i h2,hf.out l i h1]
def Agree (R:List Nat)(l m:List AV):Prop:=∀i∈R,l[i]? = m[i]?
theorem Agree.left {R S:List Nat}{l m:List AV}(h:Agree (R++S) l m):Agree R l m:=fun i hi=>h i (fU _ hi)
theorem Agree.right {R S:List Nat}{l m:List AV}(h:Agree (R++S) l m):Agree S l m:=fun i hi=>h i (fV _ hi)
theorem Agree.of_loc {W R:List Nat}{f:List AV→List AV}(hf:LocF W f)(hd:apartB W R=true)(l:List AV):Agree R l (f l):=fun i hi=>by
 refine (hf.out l i fun hw=>?_).symm
 have:=aQ.1 hd i hw
 simp at this
 exact this hi
theorem Agree.symm {R:List Nat}{l m:List AV}(h:Agree R l m):Agree R m l:=fun i hi=>(h i hi).symm
section
variable {G:Nat→Option (List AV)}
theorem opnd_congr {x:Opnd}{l m:List AV}(h:Agree (oR x) l m):opnd G l x=opnd G m x:=by
 cases x with
 |tmp t=>simp only [opnd];rw [h t (by simp [oR])]
 |const v=>rfl
 |glob g=>rfl
theorem opnds_congr:∀{xs:List Opnd} {l m:List AV},Agree (oRs xs) l m→opnds G l xs=opnds G m xs
 | [],_,_,_=>rfl
 |x::xs,l,m,h=>by
  have h':Agree (oR x++oRs xs) l m:=by simpa [oRs] using h
  simp only [opnds]
  rw [opnd_congr h'.left,opnds_congr h'.right]
theorem optOpnd_congr {x:Option Opnd}{l m:List AV}(h:Agree (oRo x) l m):optOpnd G l x=optOpnd G m x:=by
 cases x with
 |none=>rfl
 |some x=>simp only [optOpnd];rw [opnd_congr h]
theorem argVals_congr:∀{args:List (Nat ⊕ Opnd)} {l m:List AV} {vs sl:List AV},(args.all fun|.inr _=>true|.inl _=>false)=true →
  Agree (args.flatMap fun x=>match x with|.inl t=>[t]|.inr x=>oR x) l m→argVals G l args=some (vs,sl)→sl=l∧argVals G m args=some (vs,m)
 | [],l,m,vs,sl,_,_,h=>by
  simp only [argVals,eu,iH] at h ⊢
  exact ⟨h.2.symm,h.1,trivial⟩
 |.inl t::args,_,_,_,_,hn,_,_=>by simp at hn
 |.inr x::args,l,m,vs,sl,hn,ha,h=>by
  simp only [fO,fG] at hn
  have ha':Agree (oR x++(args.flatMap fun x=>match x with|.inl t=>[t]|.inr x=>oR x)) l m:=by simpa using ha
  simp only [argVals] at h ⊢
  rw [← opnd_congr (G := G) ha'.left]
  split at h<;>first|(cases h;done)|skip
  rename_i v hv
  obtain ⟨p,h1,h2⟩:=eP.1 h
  obtain ⟨rfl,rfl⟩:=iI h2
  obtain ⟨e1,e2⟩:=argVals_congr hn.2 ha'.right h1
  refine ⟨e1,?_⟩
  simp only [hv,e2,eX]
end
def LookLe (h h':List AObj):Prop:=(∀p v,ldcVal h p=some v→ldcVal h' p=some v)∧∀n p v,ldaVal h n p=some v→ldaVal h' n p=some v
theorem LookLe.refl (h:List AObj):LookLe h h:=⟨fun _ _ h=>h,fun _ _ _ h=>h⟩
theorem LookLe.of_get {h h':List AObj}(hg:∀(g:Nat) (cs:List AV) (t:TypeId),h[g]? = some (AObj.cells cs t)→∃(cs':List AV) (t':TypeId),h'[g]? = some (AObj.cells cs' t')∧cs'.map AV.ro=cs.map AV.ro)
  (hb:∀(g:Nat) (l:List UInt8) (t e:TypeId) (m:List AV),h[g]? = some (AObj.buf l t e m)→h'[g]? = some (AObj.buf l t e m)):LookLe h h':=by
 refine ⟨fun p v hv=>?_,fun n p v hv=>?_⟩
 ·unfold ldcVal at hv ⊢
  split at hv<;>first|exact hv|(cases hv;done)|skip
  split at hv<;>first|(cases hv;done)|skip
  ·rename_i g o _ cs t hcs
   obtain ⟨cs',t',h1,h2⟩:=hg _ _ _ hcs
   simp only [h1]
   rw [← aP] at hv ⊢
   rw [h2];exact hv
  ·rename_i g o _ l t e m hbs
   simp only [hb _ _ _ _ _ hbs]
   exact hv
 ·unfold ldaVal at hv ⊢
  split at hv<;>first|exact hv|(cases hv;done)|skip
  split at hv<;>first|(cases hv;done)|skip
  rename_i g o _ cs t hcs
  obtain ⟨cs',t',h1,h2⟩:=hg _ _ _ hcs
  simp only [h1]
  have hl:cs'.length=cs.length:=by have:=congrArg List.length h2;simpa using this
  rw [hl]
  rw [List.map_take,List.map_drop] at hv ⊢
  rw [h2];exact hv
theorem LookLe.app (h:List AObj)(o:AObj):LookLe h (h++[o]):=.of_get (fun g cs t hg=>⟨cs,t,by rw [bK (ag.1 hg).1];exact hg,rfl⟩) (fun g l t e m hg=>by rw [bK (ag.1 hg).1];exact hg)
theorem ro_ro (v:AV):v.ro.ro=v.ro:=by cases v<;>rfl
theorem map_ro_set (cs:List AV)(o:Nat)(v:AV)(h:cs[o]? = some v):(cs.set o v.ro).map AV.ro=cs.map AV.ro:=by
 refine fM fun i=>?_
 rw [aP,aP,aU]
 split
 ·rename_i e
  subst e
  have hl:=(ag.1 h).1
  rw [if_pos hl,h]
  simp [ro_ro]
 ·rfl
theorem LookLe.mark {h:List AObj}{g o:Nat}{cs:List AV}{t:TypeId}{v:AV}(h1:h[g]? = some (.cells cs t))(h2:cs[o]? = some v):LookLe h (h.set g (.cells (cs.set o v.ro) t))∧LookLe (h.set g (.cells (cs.set o v.ro) t)) h:=by
 have hl:=(ag.1 h1).1
 constructor
 ·refine .of_get (fun g' cs' t' hg=>?_) fun g' l t e m hg=>by
   have hne:g≠g':=fun e=>by subst e;rw [h1] at hg;cases hg
   rw [fQ hne];exact hg
  rw [aU]
  split
  ·rename_i e;subst e
   rw [h1] at hg;cases hg
   exact ⟨cs.set o v.ro,t,by simp [hl],map_ro_set cs o v h2⟩
  ·exact ⟨_,_,hg,rfl⟩
 ·refine .of_get (fun g' cs' t' hg=>?_) fun g' l t e m hg=>by
   have hne:g≠g':=fun e=>by subst e;rw [List.getElem?_set_self hl] at hg;cases hg
   rw [fQ hne] at hg;exact hg
  rw [aU] at hg
  split at hg
  ·rename_i e;subst e
   simp only [hl,if_true,eu,AObj.cells.injEq] at hg
   obtain ⟨rfl,rfl⟩:=hg
   exact ⟨_,_,h1,(map_ro_set cs o v h2).symm⟩
  ·exact ⟨_,_,hg,rfl⟩
section
variable {G:Nat→Option (List AV)}{call:FuncId→List AV→List AObj→Option (AV×List AObj×Eff)}
def tkF (ao:AOp)(l:List AV):List AV :=
 match opTakes ao with
 | [t]=>l.modify t AV.ro
 |_=>l
theorem tkF_loc (ao:AOp):LocF (opTakes ao) (tkF ao):=by
 cases ao<;>first|exact LocF.id _|exact LocF.mod _
structure OpSpec (G:Nat→Option (List AV))(call:FuncId→List AV→List AObj→Option (AV×List AObj×Eff))(ao:AOp)(k:HK)(s:AState)(v:AV)(s':AState):Prop where
 sl:s'.sl=tkF ao s.sl
 bs:s'.bs=s.bs
 any:∀t,Agree (opReads ao) s.sl t.sl→t.hp=s.hp→t.ef=s.ef→t.bs=s.bs→evalOp G call t ao=some (v,⟨tkF ao t.sl,s'.hp,s'.ef,t.bs⟩)
 still:(match k with|.free|.look|.read=>True|_=>False)→s'.hp=s.hp∧s'.ef=s.ef
 free:k=.free→∀t,Agree (opReads ao) s.sl t.sl→evalOp G call t ao=some (v,⟨tkF ao t.sl,t.hp,t.ef,t.bs⟩)
 look:k=.look→∀t,Agree (opReads ao) s.sl t.sl→LookLe s.hp t.hp→evalOp G call t ao=some (v,⟨tkF ao t.sl,t.hp,t.ef,t.bs⟩)
 read:(match k with|.free|.look|.read=>True|_=>False)→∀t,Agree (opReads ao) s.sl t.sl→t.hp=s.hp→evalOp G call t ao=some (v,⟨tkF ao t.sl,t.hp,t.ef,t.bs⟩)
 alloc:k=.alloc→s'.ef=s.ef∧∃obs,s'.hp=s.hp++obs∧∀t,Agree (opReads ao) s.sl t.sl→t.hp.length=s.hp.length→evalOp G call t ao=some (v,⟨tkF ao t.sl,t.hp++obs,t.ef,t.bs⟩)
 mark:k=.mark→s'.hp.length=s.hp.length∧LookLe s.hp s'.hp∧LookLe s'.hp s.hp∧∀t obs,Agree (opReads ao) s.sl t.sl→t.hp=s.hp++obs→t.ef=s.ef→t.bs=s.bs→evalOp G call t ao=some (v,⟨tkF ao t.sl,s'.hp++obs,s'.ef,t.bs⟩)
theorem OpSpec.of_free {ao:AOp}{s:AState}{v:AV}{s':AState}(h:s'=⟨tkF ao s.sl,s.hp,s.ef,s.bs⟩)(hf:∀t,Agree (opReads ao) s.sl t.sl→evalOp G call t ao=some (v,⟨tkF ao t.sl,t.hp,t.ef,t.bs⟩)):OpSpec G call ao .free s v s':=by
 subst h
 refine ⟨rfl,rfl,fun t ha h1 h2 h3=>?_,fun _=>⟨rfl,rfl⟩,fun _=>hf,(fun h=>by cases h),fun _ t ha _=>hf t ha,(fun h=>by cases h),(fun h=>by cases h)⟩
 rw [hf t ha,h1,h2]
theorem OpSpec.of_read {ao:AOp}{s:AState}{v:AV}{s':AState}(h:s'=⟨tkF ao s.sl,s.hp,s.ef,s.bs⟩)(hf:∀t,Agree (opReads ao) s.sl t.sl→t.hp=s.hp→evalOp G call t ao=some (v,⟨tkF ao t.sl,t.hp,t.ef,t.bs⟩)):OpSpec G call ao .read s v s':=by
 subst h
 refine ⟨rfl,rfl,fun t ha h1 h2 h3=>?_,fun _=>⟨rfl,rfl⟩,(fun h=>by cases h),(fun h=>by cases h),fun _ t ha h1=>hf t ha h1,(fun h=>by cases h),(fun h=>by cases h)⟩
 rw [hf t ha h1,h1,h2]
theorem OpSpec.of_look {ao:AOp}{s:AState}{v:AV}{s':AState}(h:s'=⟨tkF ao s.sl,s.hp,s.ef,s.bs⟩)(hf:∀t,Agree (opReads ao) s.sl t.sl→LookLe s.hp t.hp→evalOp G call t ao=some (v,⟨tkF ao t.sl,t.hp,t.ef,t.bs⟩)):OpSpec G call ao .look s v s':=by
 subst h
 refine ⟨rfl,rfl,fun t ha h1 h2 h3=>?_,fun _=>⟨rfl,rfl⟩,(fun h=>by cases h),fun _=>hf,fun _ t ha h1=>hf t ha (h1▸.refl _),(fun h=>by cases h),(fun h=>by cases h)⟩
 rw [hf t ha (h1▸.refl _),h1,h2]
theorem OpSpec.of_set {ao:AOp}{s:AState}{v:AV}{s':AState}(h1:s'.sl=tkF ao s.sl)(h2:s'.bs=s.bs)(hf:∀t,Agree (opReads ao) s.sl t.sl→t.hp=s.hp→t.ef=s.ef→t.bs=s.bs→evalOp G call t ao=some (v,⟨tkF ao t.sl,s'.hp,s'.ef,t.bs⟩)):OpSpec G call ao .set s v s' :=
 ⟨h1,h2,hf,(fun h=>h.elim),(fun h=>by cases h),(fun h=>by cases h),(fun h=>h.elim),(fun h=>by cases h),(fun h=>by cases h)⟩
theorem pair_map {α:Type}{x:Option AV}{s:α}{v:AV}{s':α}(h:x.map (·,s)=some (v,s')):x=some v∧s'=s:=by
 cases x with
 |none=>cases h
 |some a=>cases h;exact ⟨rfl,rfl⟩
theorem op_spec (hq:∀f args hp v hp' e,call f args hp=some (v,hp',e)→hp'=hp∧e=none){ao:AOp}{k:HK}{s:AState}{v:AV}{s':AState}(hk:hkind ao=some k)(h:evalOp G call s ao=some (v,s')):OpSpec G call ao k s v s':=by
 cases ao<;>simp only [hkind,eu,reduceCtorEq] at hk<;>try subst hk
 case un op x =>
  simp only [evalOp] at h
  split at h<;>first|(cases h;done)|skip
  rename_i a ha
  obtain ⟨h1,rfl⟩:=pair_map h
  refine .of_free rfl fun t ht=>?_
  simp only [evalOp,← opnd_congr (G := G) (x := x) ht,ha,h1,eX]
  rfl
 case fa off x =>
  simp only [evalOp] at h
  split at h<;>first|(cases h;done)|skip
  rename_i a ha
  obtain ⟨h1,rfl⟩:=pair_map h
  refine .of_free rfl fun t ht=>?_
  simp only [evalOp,← opnd_congr (G := G) (x := x) ht,ha,h1,eX]
  rfl
 case fld off n agg x =>
  simp only [evalOp] at h
  split at h<;>first|(cases h;done)|skip
  rename_i a ha
  obtain ⟨h1,rfl⟩:=pair_map h
  refine .of_free rfl fun t ht=>?_
  simp only [evalOp,← opnd_congr (G := G) (x := x) ht,ha,h1,eX]
  rfl
 case mv x =>
  simp only [evalOp] at h
  obtain ⟨h1,rfl⟩:=pair_map h
  refine .of_free rfl fun t ht=>?_
  simp only [evalOp,← opnd_congr (G := G) (x := x) ht,h1,eX]
  rfl
 case take i =>
  simp only [evalOp] at h
  split at h<;>first|(cases h;done)|skip
  rename_i a ha
  cases h
  refine .of_free rfl fun t ht=>?_
  simp only [evalOp,← ht i (by simp [opReads]),ha]
  rfl
 case pick c a b =>
  simp only [evalOp] at h
  split at h<;>first|(cases h;done)|skip
  ·rename_i hc
   obtain ⟨h1,rfl⟩:=pair_map h
   refine .of_free rfl fun t ht=>?_
   simp only [evalOp,← opnd_congr (G := G) (x := c) ht.left,← opnd_congr (G := G) (x := a) ht.right.left,hc,h1,eX]
   rfl
  ·rename_i hc
   obtain ⟨h1,rfl⟩:=pair_map h
   refine .of_free rfl fun t ht=>?_
   simp only [evalOp,← opnd_congr (G := G) (x := c) ht.left,← opnd_congr (G := G) (x := b) ht.right.right,hc,h1,eX]
   rfl
 case nilchk x =>
  simp only [evalOp] at h
  split at h<;>first|(cases h;done)|skip
  all_goals
   rename_i hc
   cases h
   refine .of_free rfl fun t ht=>?_
   simp only [evalOp,← opnd_congr (G := G) (x := x) ht,hc]
   rfl
 case extract x i =>
  simp only [evalOp] at h
  split at h<;>first|(cases h;done)|skip
  rename_i vs hc
  obtain ⟨u,h1,h2⟩:=eP.1 h
  cases h2
  refine .of_free rfl fun t ht=>?_
  simp only [evalOp,← opnd_congr (G := G) (x := x) ht,hc,h1,eX]
  rfl
 case slice sh x lo hi =>
  simp only [evalOp] at h
  split at h<;>first|(cases h;done)|skip
  rename_i a b c h0 h1 h2
  obtain ⟨h3,rfl⟩:=pair_map h
  refine .of_free rfl fun t ht=>?_
  simp only [evalOp,← opnd_congr (G := G) (x := x) ht.left,← optOpnd_congr (G := G) (x := lo) ht.right.left,← optOpnd_congr (G := G) (x := hi) ht.right.right,h0,h1,h2,h3,eX]
  rfl
 case slice3 sh x hi mx =>
  simp only [evalOp] at h
  split at h<;>first|(cases h;done)|skip
  rename_i a b c h0 h1 h2
  obtain ⟨h3,rfl⟩:=pair_map h
  refine .of_free rfl fun t ht=>?_
  simp only [evalOp,← opnd_congr (G := G) (x := x) ht.left,← opnd_congr (G := G) (x := hi) ht.right.left,← opnd_congr (G := G) (x := mx) ht.right.right,h0,h1,h2,h3,eX]
  rfl
 case build zero parts =>
  simp only [evalOp] at h
  split at h<;>first|(cases h;done)|skip
  rename_i vs hvs
  obtain ⟨u,h1,h2⟩:=eP.1 h
  cases h2
  refine .of_free rfl fun t ht=>?_
  simp only [evalOp,← opnds_congr (G := G) (xs := List.map (fun (p:Nat×Nat×Opnd)=>p.2.2) parts) ht,hvs,h1,eX]
  rfl
 case bin op sh x y =>
  simp only [evalOp] at h
  split at h<;>first|(cases h;done)|skip
  rename_i a b ha hb
  obtain ⟨h1,rfl⟩:=pair_map h
  refine .of_free rfl fun t ht=>?_
  simp only [evalOp,← opnd_congr (G := G) (x := x) ht.left,← opnd_congr (G := G) (x := y) ht.right,ha,hb,h1,eX]
  rfl
 case ia sh x y =>
  simp only [evalOp] at h
  split at h<;>first|(cases h;done)|skip
  rename_i a b ha hb
  obtain ⟨h1,rfl⟩:=pair_map h
  refine .of_free rfl fun t ht=>?_
  simp only [evalOp,← opnd_congr (G := G) (x := x) ht.left,← opnd_congr (G := G) (x := y) ht.right,ha,hb,h1,eX]
  rfl
 case idx x y =>
  simp only [evalOp] at h
  split at h<;>first|(cases h;done)|skip
  rename_i a b ha hb
  obtain ⟨h1,rfl⟩:=pair_map h
  refine .of_free rfl fun t ht=>?_
  simp only [evalOp,← opnd_congr (G := G) (x := x) ht.left,← opnd_congr (G := G) (x := y) ht.right,ha,hb,h1,eX]
  rfl
 case min xs =>
  simp only [evalOp] at h
  split at h<;>first|(cases h;done)|skip
  rename_i n l hxs
  obtain ⟨u,h1,h2⟩:=eP.1 h
  cases h2
  refine .of_free rfl fun t ht=>?_
  simp only [evalOp,← opnds_congr (G := G) (xs := xs) ht,hxs,h1,eX]
  rfl
 case max xs =>
  simp only [evalOp] at h
  split at h<;>first|(cases h;done)|skip
  rename_i n l hxs
  obtain ⟨u,h1,h2⟩:=eP.1 h
  cases h2
  refine .of_free rfl fun t ht=>?_
  simp only [evalOp,← opnds_congr (G := G) (xs := xs) ht,hxs,h1,eX]
  rfl
 case ldc x =>
  simp only [evalOp] at h
  split at h<;>first|(cases h;done)|skip
  rename_i a ha
  obtain ⟨h1,rfl⟩:=pair_map h
  refine .of_look rfl fun t ht hl=>?_
  simp only [evalOp,← opnd_congr (G := G) (x := x) ht,ha,hl.1 _ _ h1,eX]
  rfl
 case lda n x =>
  simp only [evalOp] at h
  split at h<;>first|(cases h;done)|skip
  rename_i a ha
  obtain ⟨h1,rfl⟩:=pair_map h
  refine .of_look rfl fun t ht hl=>?_
  simp only [evalOp,← opnd_congr (G := G) (x := x) ht,ha,hl.2 _ _ _ h1,eX]
  rfl
 case len sh x =>
  simp only [evalOp] at h
  split at h<;>first|(cases h;done)|skip
  rename_i a ha
  obtain ⟨h1,rfl⟩:=pair_map h
  refine .of_read rfl fun t ht hl=>?_
  have e:lenVal t.hp sh a=some v:=by rw [hl];exact h1
  simp only [evalOp,← opnd_congr (G := G) (x := x) ht,ha,e,eX]
  rfl
 case conv c x =>
  simp only [evalOp] at h
  split at h<;>first|(cases h;done)|skip
  rename_i a ha
  obtain ⟨h1,rfl⟩:=pair_map h
  refine .of_read rfl fun t ht hl=>?_
  have e:convVal t.hp c a=some v:=by rw [hl];exact h1
  simp only [evalOp,← opnd_congr (G := G) (x := x) ht,ha,e,eX]
  rfl
 case app k b i x =>
  simp only [evalOp] at h
  split at h<;>first|(cases h;done)|skip
  rename_i k' r a h0 ha
  split at h<;>first|(cases h;done)|skip
  rename_i k'' r' h1
  split at h<;>first|(cases h;done)|skip
  rename_i hc
  cases h
  refine .of_read rfl fun t ht hl=>?_
  have e0:=ht i (by simp [opReads])
  have e1:Agree (oR x) s.sl t.sl:=fun j hj=>ht j (ai _ hj)
  have e:rowsOf t.hp a=some (k'',r'):=by rw [hl];exact h1
  simp only [evalOp,← opnd_congr (G := G) (x := x) e1,← e0,h0,ha,e]
  rw [if_pos hc]
  rfl
 case apps b i x =>
  simp only [evalOp] at h
  split at h<;>first|(cases h;done)|skip
  rename_i k' r l h0 ha
  split at h<;>first|(cases h;done)|skip
  rename_i hc
  cases h
  refine .of_free rfl fun t ht=>?_
  have e0:=ht i (by simp [opReads])
  have e1:Agree (oR x) s.sl t.sl:=fun j hj=>ht j (ai _ hj)
  simp only [evalOp,← opnd_congr (G := G) (x := x) e1,← e0,h0,ha]
  rw [if_pos hc]
  rfl
 case appn k b x =>
  simp only [evalOp] at h
  split at h<;>first|(cases h;done)|skip
  rename_i a ha
  split at h<;>first|(cases h;done)|skip
  rename_i k'' r' h1
  split at h<;>first|(cases h;done)|skip
  rename_i hc
  cases h
  refine .of_read rfl fun t ht hl=>?_
  have e:rowsOf t.hp a=some (k'',r'):=by rw [hl];exact h1
  simp only [evalOp,← opnd_congr (G := G) (x := x) ht,ha,e]
  rw [if_pos hc]
  rfl
 case call f args =>
  split at hk<;>first|(cases hk;done)|skip
  rename_i hn
  cases hk
  simp only [evalOp] at h
  split at h<;>first|(cases h;done)|skip
  rename_i g first caps vs sl hf hvs
  split at h<;>first|(cases h;done)|skip
  rename_i u hp e hcall
  cases h
  obtain ⟨rfl,rfl⟩:=hq _ _ _ _ _ _ hcall
  have hall:(args.all fun|.inr _=>true|.inl _=>false)=true:=hn
  obtain ⟨rfl,_⟩:=argVals_congr (G := G) (m := s.sl) hall (fun _ _=>rfl) hvs
  refine .of_read rfl fun t ht hl=>?_
  obtain ⟨_,e2⟩:=argVals_congr (G := G) hall ht.right hvs
  have hcall':=hcall
  rw [← hl] at hcall'
  simp only [evalOp,← opnd_congr (G := G) (x := f) ht.left,hf,e2,hcall']
  rfl
 case st n x y =>
  simp only [evalOp] at h
  split at h<;>first|(cases h;done)|skip
  rename_i g o a ha hb
  split at h<;>first|(cases h;done)|skip
  all_goals
   rename_i hg
   split at h<;>first|(cases h;done)|skip
   rename_i hc
   cases h
   refine .of_set rfl rfl fun t ht h1 h2 h3=>?_
   simp only [evalOp,← opnd_congr (G := G) (x := x) ht.left,← opnd_congr (G := G) (x := y) ht.right,ha,hb,h1,hg,AState.note,h2,h3]
   rw [if_pos hc]
   rfl
 case stt x i =>
  simp only [evalOp] at h
  split at h<;>first|(cases h;done)|skip
  rename_i g o a ha hb
  split at h<;>first|(cases h;done)|skip
  rename_i cs ty hg
  split at h<;>first|(cases h;done)|skip
  rename_i hc
  cases h
  refine .of_set rfl rfl fun t ht h1 h2 h3=>?_
  have e0:=ht i (by simp [opReads])
  have e1:Agree (oR x) s.sl t.sl:=fun j hj=>ht j (ai _ hj)
  simp only [evalOp,← opnd_congr (G := G) (x := x) e1,← e0,ha,hb,h1,hg,AState.note,AState.let_,h2,h3]
  rw [if_pos hc]
  rfl
 case copy k x y =>
  simp only [evalOp] at h
  split at h<;>first|(cases h;done)|skip
  ·rename_i g off len k'' a ha hb
   split at h<;>first|(cases h;done)|skip
   rename_i k' r cs ty hr hg
   split at h<;>first|(cases h;done)|skip
   rename_i hc
   cases h
   refine .of_set rfl rfl fun t ht h1 h2 h3=>?_
   simp only [evalOp,← opnd_congr (G := G) (x := x) ht.left,← opnd_congr (G := G) (x := y) ht.right,ha,hb,h1,hr,hg,AState.note,h2,h3]
   rw [if_pos hc]
   rfl
  ·rename_i a ha hb
   split at h<;>first|(cases h;done)|skip
   rename_i k' r hr
   split at h<;>first|(cases h;done)|skip
   rename_i hc
   cases h
   refine .of_set rfl rfl fun t ht h1 h2 h3=>?_
   simp only [evalOp,← opnd_congr (G := G) (x := x) ht.left,← opnd_congr (G := G) (x := y) ht.right,ha,hb,h1,hr]
   rw [if_pos hc,← h1,← h2]
   rfl
 case ldt x =>
  simp only [evalOp] at h
  split at h<;>first|(cases h;done)|skip
  rename_i g o ha
  split at h<;>first|(cases h;done)|skip
  rename_i cs ty hg
  split at h<;>first|(cases h;done)|skip
  rename_i u hu
  cases h
  obtain ⟨l1,l2⟩:=LookLe.mark hg hu
  have hlt:=(ag.1 hg).1
  refine ⟨rfl,rfl,fun t ht h1 h2 h3=>?_,(fun h=>h.elim),(fun h=>by cases h),(fun h=>by cases h),(fun h=>h.elim),(fun h=>by cases h),fun _=>⟨by simp,l1,l2,fun t obs ht h1 h2 h3=>?_⟩⟩
  ·simp only [evalOp,← opnd_congr (G := G) (x := x) ht,ha,h1,hg,hu,AState.note,h2,h3]
   rfl
  ·have e:(s.hp++obs)[g]? = some (.cells cs ty):=by rw [bK hlt];exact hg
   simp only [evalOp,← opnd_congr (G := G) (x := x) ht,ha,h1,e,hu,AState.note,h2,h3,List.set_append_left _ _ hlt]
   rfl
 case lit e k parts =>
  cases parts with
  |nil =>
   simp only [hkind,eu] at hk
   subst hk
   have key:∀t:AState,evalOp G call t (.lit e k [])=some (.own k [],t):=fun t=>rfl
   rw [key] at h
   cases h
   exact .of_free rfl fun t _=>key t
  |cons p0 ps =>
  simp only [hkind,eu] at hk
  subst hk
  generalize hps:p0::ps=parts at *
  simp only [evalOp] at h
  split at h<;>first|(cases h;done)|skip
  rename_i vs hvs
  split at h
  ·rename_i hc
   cases h
   have key:∀t:AState,Agree (opReads (.lit e k parts)) s.sl t.sl→evalOp G call t (.lit e k parts)=some (.own k (vs.map fun v=>v.cells.map AV.ro),t):=fun t ht=>by
    simp only [evalOp,← opnds_congr (G := G) (xs := parts) ht,hvs]
    rw [if_pos hc]
   refine ⟨rfl,rfl,fun t ht h1 h2 h3=>?_,(fun h=>h.elim),(fun h=>by cases h),(fun h=>by cases h),(fun h=>h.elim),fun _=>⟨rfl,[],by simp,fun t ht _=>?_⟩,(fun h=>by cases h)⟩
   ·rw [key t ht,← h1,← h2];rfl
   ·rw [key t ht,fZ];rfl
  ·rename_i hc0
   split at h<;>first|(cases h;done)|skip
   rename_i hc
   cases h
   have key:∀t:AState,Agree (opReads (.lit e k parts)) s.sl t.sl→evalOp G call t (.lit e k parts)=some (.arr t.hp.length 0 vs.length k,{ t with hp:=t.hp++[.cells (vs.map AV.cells).flatten e] }):=fun t ht=>by
    simp only [evalOp,← opnds_congr (G := G) (xs := parts) ht,hvs]
    rw [if_neg hc0,if_pos hc]
   refine ⟨rfl,rfl,fun t ht h1 h2 h3=>?_,(fun h=>h.elim),(fun h=>by cases h),(fun h=>by cases h),(fun h=>h.elim),fun _=>⟨rfl,_,rfl,fun t ht hl=>?_⟩,(fun h=>by cases h)⟩
   ·rw [key t ht,h1,h2];rfl
   ·rw [key t ht,hl];rfl
theorem wanted_congr {s t:AState}{g:Option (Nat×Bool)}(h:Agree (match g with|some (i,_)=>[i]|none=>[]) s.sl t.sl):wantedA s g=wantedA t g:=by
 cases g with
 |none=>rfl
 |some p =>
  obtain ⟨i,b⟩:=p
  simp only [wantedA]
  rw [h i (by simp)]
def putF (d:Option Nat)(v:AV)(l:List AV):List AV:=match d with|some d=>l.set d v|none=>l
theorem putF_loc (d:Option Nat)(v:AV):LocF d.toList (putF d v):=by
 cases d with
 |none=>exact LocF.id _
 |some d=>exact LocF.set d v
theorem putF_eq (s:AState)(d:Option Nat)(v:AV):s.put d v=⟨putF d v s.sl,s.hp,s.ef,s.bs⟩:=by cases d<;>rfl
structure StepA (G:Nat→Option (List AV))(call:FuncId→List AV→List AObj→Option (AV×List AObj×Eff))(o:AOper)(k:HK)(s s':AState)(f:List AV→List AV):Prop where
 loc:LocF (opWrites o) f
 sl:s'.sl=f s.sl
 bs:s'.bs=s.bs
 any:∀t,Agree (opReadsO o) s.sl t.sl→t.hp=s.hp→t.ef=s.ef→t.bs=s.bs→evalOper G call o t=some ⟨f t.sl,s'.hp,s'.ef,t.bs⟩
 still:(match k with|.free|.look|.read=>True|_=>False)→s'.hp=s.hp∧s'.ef=s.ef
 free:k=.free→∀t,Agree (opReadsO o) s.sl t.sl→evalOper G call o t=some ⟨f t.sl,t.hp,t.ef,t.bs⟩
 look:k=.look→∀t,Agree (opReadsO o) s.sl t.sl→LookLe s.hp t.hp→evalOper G call o t=some ⟨f t.sl,t.hp,t.ef,t.bs⟩
 read:(match k with|.free|.look|.read=>True|_=>False)→∀t,Agree (opReadsO o) s.sl t.sl→t.hp=s.hp→evalOper G call o t=some ⟨f t.sl,t.hp,t.ef,t.bs⟩
 alloc:k=.alloc→s'.ef=s.ef∧∃obs,s'.hp=s.hp++obs∧∀t,Agree (opReadsO o) s.sl t.sl→t.hp.length=s.hp.length→evalOper G call o t=some ⟨f t.sl,t.hp++obs,t.ef,t.bs⟩
 mark:k=.mark→s'.hp.length=s.hp.length∧LookLe s.hp s'.hp∧LookLe s'.hp s.hp∧∀t obs,Agree (opReadsO o) s.sl t.sl→t.hp=s.hp++obs→t.ef=s.ef→t.bs=s.bs→evalOper G call o t=some ⟨f t.sl,s'.hp++obs,s'.ef,t.bs⟩
theorem step_of (hq:∀f args hp v hp' e,call f args hp=some (v,hp',e)→hp'=hp∧e=none){o:AOper}{k:HK}{s s':AState}(hk:hkind o.op=some k)(h:evalOper G call o s=some s'):∃f,StepA G call o k s s' f:=by
 have wg:∀t:AState,Agree (opReadsO o) s.sl t.sl→wantedA t o.guard=wantedA s o.guard:=fun t ht=>(wanted_congr ht.left).symm
 simp only [evalOper] at h
 split at h<;>first|(cases h;done)|skip
 ·rename_i hw
  split at h<;>first|(cases h;done)|skip
  rename_i v s1 he
  obtain rfl:=ed h
  have S:=op_spec hq hk he
  have run:∀(t:AState) (hp:List AObj) (ef:Eff),wantedA t o.guard=some true→evalOp G call t o.op=some (v,⟨tkF o.op t.sl,hp,ef,t.bs⟩)→evalOper G call o t=some ⟨putF o.dst v (tkF o.op t.sl),hp,ef,t.bs⟩:=fun t hp ef h1 h2=>by
   simp only [evalOper,h1,h2,putF_eq]
  refine ⟨fun l=>putF o.dst v (tkF o.op l),(tkF_loc o.op).comp (putF_loc o.dst v),by rw [putF_eq,S.sl],by rw [putF_eq];exact S.bs,fun t ht h1 h2 h3=>?_,fun hs=>?_,fun hk t ht=>?_,fun hk t ht hl=>?_,fun hk t ht hl=>?_,fun hk=>?_,fun hk=>?_⟩
  ·rw [putF_eq];exact run t _ _ ((wg t ht).trans hw) (S.any t ht.right h1 h2 h3)
  ·rw [putF_eq];exact S.still hs
  ·exact run t _ _ ((wg t ht).trans hw) (S.free hk t ht.right)
  ·exact run t _ _ ((wg t ht).trans hw) (S.look hk t ht.right hl)
  ·exact run t _ _ ((wg t ht).trans hw) (S.read hk t ht.right hl)
  ·obtain ⟨e1,obs,e2,e3⟩:=S.alloc hk
   rw [putF_eq]
   exact ⟨e1,obs,e2,fun t ht hl=>run t _ _ ((wg t ht).trans hw) (e3 t ht.right hl)⟩
  ·obtain ⟨e1,e2,e3,e4⟩:=S.mark hk
   rw [putF_eq]
   exact ⟨e1,e2,e3,fun t obs ht h1 h2 h3=>run t _ _ ((wg t ht).trans hw) (e4 t obs ht.right h1 h2 h3)⟩
 ·rename_i hw
  obtain rfl:=ed h
  have run:∀t:AState,wantedA t o.guard=some false→evalOper G call o t=some ⟨putF o.dst .undef t.sl,t.hp,t.ef,t.bs⟩:=fun t h1=>by
   simp only [evalOper,h1,putF_eq]
  have hl:LocF (opWrites o) (putF o.dst .undef):=by
   have:=(LocF.id (opTakes o.op)).comp (putF_loc o.dst .undef)
   exact this
  rw [putF_eq]
  refine ⟨putF o.dst .undef,hl,rfl,rfl,fun t ht h1 h2 h3=>?_,fun _=>⟨rfl,rfl⟩,fun _ t ht=>run t ((wg t ht).trans hw),fun _ t ht _=>run t ((wg t ht).trans hw),fun _ t ht _=>run t ((wg t ht).trans hw),fun _=>⟨rfl,[],by simp,fun t ht _=>?_⟩,fun _=>⟨rfl,.refl _,.refl _,fun t obs ht h1 h2 h3=>?_⟩⟩
  ·rw [run t ((wg t ht).trans hw),h1,h2]
  ·rw [run t ((wg t ht).trans hw),fZ]
  ·rw [run t ((wg t ht).trans hw),h1,h2]
theorem swap_ops (hq:∀f args hp v hp' e,call f args hp=some (v,hp',e)→hp'=hp∧e=none){o1 o2:AOper}{s s1 s2:AState}(hc:commB o1 o2=true)(h1:evalOper G call o1 s=some s1)(h2:evalOper G call o2 s1=some s2) :
  ∃u,evalOper G call o2 s=some u∧evalOper G call o1 u=some s2:=by
 simp only [commB,fG] at hc
 obtain ⟨⟨⟨hk,ha⟩,hb⟩,hd⟩:=hc
 split at hk<;>first|(cases hk;done)|skip
 rename_i k1 k2 hk1 hk2
 obtain ⟨f1,S1⟩:=step_of hq hk1 h1
 obtain ⟨f2,S2⟩:=step_of hq hk2 h2
 have A2:Agree (opReadsO o2) s1.sl s.sl:=by rw [S1.sl];exact (Agree.of_loc S1.loc ha s.sl).symm
 have A1:∀u:AState,u.sl=f2 s.sl→Agree (opReadsO o1) s.sl u.sl:=fun u hu=>by rw [hu];exact Agree.of_loc S2.loc hd s.sl
 have fin:∀(u:AState) (hp:List AObj) (ef:Eff),u.sl=f2 s.sl→u.bs=s.bs→hp=s2.hp→ef=s2.ef→evalOper G call o1 u=some ⟨f1 u.sl,hp,ef,u.bs⟩→evalOper G call o1 u=some s2:=fun u hp ef e1 e2 e3 e4 h=>by
  rw [h]
  have q1:f1 u.sl=s2.sl:=by rw [e1,S2.sl,S1.sl];exact S1.loc.swap S2.loc hb s.sl
  have q2:u.bs=s2.bs:=by rw [e2,S2.bs,S1.bs]
  rw [q1,q2,e3,e4]
 cases k1 with
 |free =>
  obtain ⟨p1,p2⟩:=S1.still trivial
  have e:=S2.any s A2 p1.symm p2.symm S1.bs.symm
  exact ⟨_,e,fin _ _ _ rfl rfl rfl rfl (S1.free rfl _ (A1 _ rfl))⟩
 |look =>
  obtain ⟨p1,p2⟩:=S1.still trivial
  have e:=S2.any s A2 p1.symm p2.symm S1.bs.symm
  cases k2 with
  |free=>obtain ⟨q1,q2⟩:=S2.still trivial;exact ⟨_,e,fin _ _ _ rfl rfl rfl rfl (S1.look rfl _ (A1 _ rfl) (by show LookLe s.hp s2.hp;rw [q1,p1];exact .refl _))⟩
  |look=>obtain ⟨q1,q2⟩:=S2.still trivial;exact ⟨_,e,fin _ _ _ rfl rfl rfl rfl (S1.look rfl _ (A1 _ rfl) (by show LookLe s.hp s2.hp;rw [q1,p1];exact .refl _))⟩
  |read=>obtain ⟨q1,q2⟩:=S2.still trivial;exact ⟨_,e,fin _ _ _ rfl rfl rfl rfl (S1.look rfl _ (A1 _ rfl) (by show LookLe s.hp s2.hp;rw [q1,p1];exact .refl _))⟩
  |mark=>obtain ⟨_,q2,_⟩:=S2.mark rfl;exact ⟨_,e,fin _ _ _ rfl rfl rfl rfl (S1.look rfl _ (A1 _ rfl) (by show LookLe s.hp s2.hp;rw [← p1];exact q2))⟩
  |alloc =>
   obtain ⟨_,obs,q2,_⟩:=S2.alloc rfl
   refine ⟨_,e,fin _ _ _ rfl rfl rfl rfl (S1.look rfl _ (A1 _ rfl) ?_)⟩
   show LookLe s.hp s2.hp
   rw [q2,p1]
   exact .of_get (fun g cs t hg=>⟨cs,t,by rw [bK (ag.1 hg).1];exact hg,rfl⟩) (fun g l t e m hg=>by rw [bK (ag.1 hg).1];exact hg)
  |set=>cases hk
 |read =>
  obtain ⟨p1,p2⟩:=S1.still trivial
  have e:=S2.any s A2 p1.symm p2.symm S1.bs.symm
  cases k2 with
  |free=>obtain ⟨q1,q2⟩:=S2.still trivial;exact ⟨_,e,fin _ _ _ rfl rfl rfl rfl (S1.read trivial _ (A1 _ rfl) (q1.trans p1))⟩
  |look=>obtain ⟨q1,q2⟩:=S2.still trivial;exact ⟨_,e,fin _ _ _ rfl rfl rfl rfl (S1.read trivial _ (A1 _ rfl) (q1.trans p1))⟩
  |read=>obtain ⟨q1,q2⟩:=S2.still trivial;exact ⟨_,e,fin _ _ _ rfl rfl rfl rfl (S1.read trivial _ (A1 _ rfl) (q1.trans p1))⟩
  |mark=>cases hk
  |alloc=>cases hk
  |set=>cases hk
 |set =>
  cases k2 with
  |free =>
   obtain ⟨q1,q2⟩:=S2.still trivial
   have e:=S2.free rfl s A2
   exact ⟨_,e,fin _ _ _ rfl rfl q1.symm q2.symm (S1.any _ (A1 _ rfl) rfl rfl rfl)⟩
  |_=>cases hk
 |alloc =>
  cases k2 with
  |free =>
   obtain ⟨q1,q2⟩:=S2.still trivial
   have e:=S2.free rfl s A2
   exact ⟨_,e,fin _ _ _ rfl rfl q1.symm q2.symm (S1.any _ (A1 _ rfl) rfl rfl rfl)⟩
  |_=>cases hk
 |mark =>
  obtain ⟨m1,m2,m3,m4⟩:=S1.mark rfl
  cases k2 with
  |free =>
   obtain ⟨q1,q2⟩:=S2.still trivial
   have e:=S2.free rfl s A2
   exact ⟨_,e,fin _ _ _ rfl rfl q1.symm q2.symm (S1.any _ (A1 _ rfl) rfl rfl rfl)⟩
  |look =>
   obtain ⟨q1,q2⟩:=S2.still trivial
   have e:=S2.look rfl s A2 m3
   exact ⟨_,e,fin _ _ _ rfl rfl q1.symm q2.symm (S1.any _ (A1 _ rfl) rfl rfl rfl)⟩
  |alloc =>
   obtain ⟨q1,obs,q2,q3⟩:=S2.alloc rfl
   have e:=q3 s A2 m1.symm
   refine ⟨_,e,fin _ _ _ rfl rfl q2.symm q1.symm (m4 _ obs (A1 _ rfl) rfl rfl rfl)⟩
  |_=>cases hk
end
section
variable {P:Program}{G:Nat→Option (List AV)}{call:FuncId→List AV→List AObj→Option (AV×List AObj×Eff)}{E:Entry}{s s':AState}{Γ:Ghost}{a:Act}{w:World}{hand:Nat→Bool}{draw:Bool}
def cGuard (ops:Array Oper):Option (Nat×Bool)→Option (Option (Nat×Bool))
 |none=>some none
 |some (j,want)=>match (ops[j]?).bind (·.dst) with
  |some d=>some (some (d,want))
  |none=>none
theorem wanted_ok (hI:Inv E s Γ a w){ops:Array Oper}{o:Oper}{g:Option (Nat×Bool)}{b:Bool}(hg:cGuard ops o.guard=some g)(h:wantedA s g=some b):Region.wanted o (yielded ops a.tmps)=b:=by
 unfold Region.wanted
 cases hq:o.guard with
 |none =>
  rw [hq] at hg
  obtain rfl:=ed hg
  simp only [wantedA,eu] at h
  exact h
 |some p =>
  obtain ⟨j,want⟩:=p
  rw [hq] at hg
  simp only [cGuard] at hg
  split at hg
  ·rename_i d hd
   obtain rfl:=ed hg
   simp only [wantedA] at h
   split at h<;>first|(cases h;done)|skip
   ·rename_i c hc
    obtain rfl:=ed h
    have hr:=hI.slots.rep d _ hc
    have hlt:d<a.tmps.size:=by rw [hI.slots.size];exact Zq hc
    have ht:a.tmps[d]? = some (a.tmps.getD d Go.undef):=getD_of_lt hlt
    generalize a.tmps.getD d Go.undef=u at hr ht
    cases hr
    simp only [yielded,hd,iG,ht]
    cases c<;>cases want<;>rfl
   ·rename_i hc
    obtain rfl:=ed h
    have hr:=hI.slots.rep d _ hc
    have hlt:d<a.tmps.size:=by rw [hI.slots.size];exact Zq hc
    have ht:a.tmps[d]? = some (a.tmps.getD d Go.undef):=getD_of_lt hlt
    generalize a.tmps.getD d Go.undef=u at hr ht
    cases hr
    simp only [yielded,hd,iG,ht]
    rfl
  ·cases hg
theorem cOpers_cons {ops:Array Oper}{o:Oper}{l:List Oper}{aops:List AOper}(h:cOpers P hand draw ops (o::l)=some aops) :
  ∃g r,cGuard ops o.guard=some g∧cOpers P hand draw ops l=some r∧aops=⟨o.dst,(cOp P hand draw o).getD .bad,g⟩::r:=by
 simp only [cOpers] at h
 split at h<;>first|(cases h;done)|skip
 rename_i g r h2 h3
 refine ⟨g,r,?_,h3,(ed h).symm⟩
 rw [← h2]
 unfold cGuard
 cases o.guard with
 |none=>rfl
 |some p=>rfl
theorem some_of_eval {o:Oper}{s s':AState}{v:AV}{call:FuncId→List AV→List AObj→Option (AV×List AObj×Eff)}(h:evalOp G call s ((cOp P hand draw o).getD .bad)=some (v,s')):cOp P hand draw o=some ((cOp P hand draw o).getD .bad):=by
 cases hc:cOp P hand draw o with
 |none=>rw [hc] at h;simp [evalOp] at h
 |some ao=>rfl
theorem ops_wp (hG:GOk G E.W0)(hS:CallSpec P E.W0 call){ops:Array Oper}{Q:Exit→Act→World→Prop}:∀{l:List Oper} {aops:List AOper} (k:Nat) {s s':AState} {Γ:Ghost} {a:Act} {w:World},(∀j,l[j]? = ops[k+j]?) →
  cOpers P hand draw ops l=some aops→evalOps G call aops s=some s'→Inv E s Γ a w→(∀Γ a w,Inv E s' Γ a w→Q .normal a w)→wpOps P ops Q (List.range' k l.length) a w
 | [],aops,k,s,s',Γ,a,w,_,hc,h,hI,hQ=>by
  obtain rfl:=ed (by simpa [cOpers] using hc:some []=some aops)
  obtain rfl:=ed (by simpa [evalOps] using h:some s=some s')
  exact hQ Γ a w hI
 |o::l,aops,k,s,s',Γ,a,w,hl,hc,h,hI,hQ=>by
  obtain ⟨g,r,h2,h3,rfl⟩:=cOpers_cons hc
  have ho:ops[k]? = some o:=by simpa using (hl 0).symm
  simp only [evalOps] at h
  split at h<;>first|(cases h;done)|skip
  rename_i s1 he
  have hl':∀j,l[j]? = ops[k+1+j]?:=fun j=>by
   have:=hl (j+1)
   simpa [Nat.add_assoc,Nat.add_comm 1 j] using this
  simp only [List.length_cons,fK,wpOps,ho]
  simp only [evalOper] at he
  split at he<;>first|(cases he;done)|skip
  ·rename_i hw
   rw [wanted_ok hI h2 hw]
   split at he<;>first|(cases he;done)|skip
   rename_i v s2 hev
   obtain rfl:=ed he
   simp only [if_true]
   refine .inl (op_wp hG hS hI (some_of_eval hev) hev fun Γ' cv w' i1 r1 o1=>?_)
   obtain ⟨Γ2,i2⟩:=i1.put o.dst r1 o1
   exact ops_wp hG hS (k+1) hl' h3 h i2 hQ
  ·rename_i hw
   rw [wanted_ok hI h2 hw]
   obtain rfl:=ed he
   simp only [aK,if_false]
   obtain ⟨Γ2,i2⟩:=hI.put o.dst (v := .undef) (cv := Go.undef) .undef (.of_ne (by simp))
   exact ops_wp hG hS (k+1) hl' h3 h i2 hQ
theorem ops_quiet (hG:GOk G E.W0)(hS:CallSpec P E.W0 call){ops:Array Oper}{Q:Exit→Act→World→Prop}{w:World}:∀{l:List Oper} {aops:List AOper} {s s':AState} {Γ:Ghost} {a:Act},
  cOpers P hand draw ops l=some aops→quietAll aops=true→evalOps G (quietCall call) aops s=some s'→Inv E s Γ a w→(∀Γ a w,Inv E s' Γ a w→Q .normal a w) →
  wpQuiet P ops (Behind w) (fun a'=>∀w',Behind w w'→Q .normal a' w') l a
 | [],aops,s,s',Γ,a,hc,_,h,hI,hQ=>by
  obtain rfl:=ed (by simpa [cOpers] using hc:some []=some aops)
  obtain rfl:=ed (by simpa [evalOps] using h:some s=some s')
  exact fun w' hw'=>hQ Γ a w' (hw'.inv hI)
 |o::l,aops,s,s',Γ,a,hc,hq,h,hI,hQ=>by
  obtain ⟨g,r,h2,h3,rfl⟩:=cOpers_cons hc
  simp only [quietAll,fG] at hq
  simp only [evalOps] at h
  split at h<;>first|(cases h;done)|skip
  rename_i s1 he
  simp only [wpQuiet]
  simp only [evalOper] at he
  split at he<;>first|(cases he;done)|skip
  ·rename_i hw
   rw [wanted_ok hI h2 hw]
   split at he<;>first|(cases he;done)|skip
   rename_i v s2 hev
   obtain rfl:=ed he
   simp only [if_true]
   refine op_quiet hG hS hI (some_of_eval hev) hq.1.1 hq.1.2 hev fun cv e r1 o1=>?_
   subst e
   obtain ⟨Γ2,i2⟩:=hI.put o.dst r1 (o1 .res)
   exact ops_quiet hG hS h3 hq.2 h i2 hQ
  ·rename_i hw
   rw [wanted_ok hI h2 hw]
   obtain rfl:=ed he
   simp only [aK,if_false]
   obtain ⟨Γ2,i2⟩:=hI.put o.dst (v := .undef) (cv := Go.undef) .undef (.of_ne (by simp))
   exact ops_quiet hG hS h3 hq.2 h i2 hQ
theorem bubble (hq:∀f args hp v hp' e,call f args hp=some (v,hp',e)→hp'=hp∧e=none){o:AOper}{l2:List AOper}{sF:AState}:∀{l1:List AOper} {s:AState},(∀x∈l1,commB x o=true)→evalOps G call (l1++o::l2) s=some sF →
  ∃u,evalOper G call o s=some u∧evalOps G call (l1++l2) u=some sF
 | [],s,_,h=>by
  simp only [bn,evalOps] at h
  split at h<;>first|(cases h;done)|skip
  rename_i u hu
  exact ⟨u,hu,h⟩
 |x::l1,s,hx,h=>by
  simp only [gB,evalOps] at h
  split at h<;>first|(cases h;done)|skip
  rename_i s1 h1
  obtain ⟨u1,h2,h3⟩:=bubble hq (fun y hy=>hx y (ai _ hy)) h
  obtain ⟨u,h4,h5⟩:=swap_ops hq (hx x (aj ..)) h1 h2
  refine ⟨u,h4,?_⟩
  simp only [gB,evalOps,h5]
  exact h3
theorem quiet_pure:∀f args hp v hp' e,quietCall call f args hp=some (v,hp',e)→hp'=hp∧e=none:=by
 intro f args hp v hp' e h
 unfold quietCall at h
 split at h<;>first|(cases h;done)|skip
 split at h<;>first|(cases h;done)|skip
 cases h
 exact ⟨rfl,rfl⟩
theorem cOpers_get:∀{l:List Oper} {aops:List AOper} {ops:Array Oper},cOpers P hand draw ops l=some aops→l.length=aops.length∧∀(i:Nat) (o:Oper),l[i]? = some o→∃g,cGuard ops o.guard=some g∧aops[i]? = some ⟨o.dst,(cOp P hand draw o).getD .bad,g⟩
 | [],aops,ops,h=>by
  obtain rfl:=ed (by simpa [cOpers] using h:some []=some aops)
  exact ⟨rfl,fun i o hi=>by simp at hi⟩
 |o::l,aops,ops,h=>by
  obtain ⟨g,r,h2,h3,rfl⟩:=cOpers_cons h
  obtain ⟨h4,h5⟩:=cOpers_get h3
  refine ⟨by simp [h4],fun i o' hi=>?_⟩
  cases i with
  |zero=>cases hi;exact ⟨g,h2,rfl⟩
  |succ i=>exact h5 i o' hi
theorem oper_any (hG:GOk G E.W0)(hS:CallSpec P E.W0 call){ops:Array Oper}{o:Oper}{g:Option (Nat×Bool)}{u:AState}{K:Act→World→Prop}{Q:Exit→Act→World→Prop}(hn:noHand ((cOp P hand draw o).getD .bad)=true)(h2:cGuard ops o.guard=some g)
  (he:evalOper G (quietCall call) ⟨o.dst,(cOp P hand draw o).getD .bad,g⟩ s=some u) (hI:Inv E s Γ a w) (hK:∀Γ a w,Inv E u Γ a w→K a w) :
  if Region.wanted o (yielded ops a.tmps)=true then o.wp P a w K Q∨(o.asks P a w∧LetsOut Q) else K (a.put o.dst Go.undef) w:=by
 simp only [evalOper] at he
 split at he<;>first|(cases he;done)|skip
 ·rename_i hw
  rw [wanted_ok hI h2 hw]
  split at he<;>first|(cases he;done)|skip
  rename_i v s2 hev
  obtain rfl:=ed he
  simp only [if_true]
  refine .inl ?_
  by_cases hc:∃f args,(cOp P hand draw o).getD .bad=.call f args
  ·obtain ⟨f,args,hcall⟩:=hc
   have hqt:quietOp ((cOp P hand draw o).getD .bad)=true:=by rw [hcall];rfl
   refine Oper.wp_of_quiet (C := Behind w) (K := fun a'=>∀w',Behind w w'→K a' w') (Behind.refl w) (fun a' w' hw' h=>h w' hw') ?_
   refine op_quiet hG hS hI (some_of_eval hev) hqt hn hev fun cv e r1 o1=>?_
   subst e
   obtain ⟨Γ2,i2⟩:=hI.put o.dst r1 (o1 .res)
   exact fun w' hw'=>hK _ _ w' (hw'.inv i2)
  ·have hev':evalOp G call s ((cOp P hand draw o).getD .bad)=some (v,s2):=by
    rw [← hev]
    cases hx:(cOp P hand draw o).getD .bad<;>first|rfl|exact absurd ⟨_,_,hx⟩ hc
   refine op_wp hG hS hI (some_of_eval hev') hev' fun Γ' cv w' i1 r1 o1=>?_
   obtain ⟨Γ2,i2⟩:=i1.put o.dst r1 o1
   exact hK _ _ _ i2
 ·rename_i hw
  rw [wanted_ok hI h2 hw]
  obtain rfl:=ed he
  simp only [aK,if_false]
  obtain ⟨Γ2,i2⟩:=hI.put o.dst (v := .undef) (cv := Go.undef) .undef (.of_ne (by simp))
  exact hK _ _ _ i2
theorem getD_both' {listed:Array Bool}{i:Nat}(h:listed.getD i true=false):listed.getD i false=false:=by
 rcases dJ i listed.size with h' | h'
 ·simp [h'] at h ⊢;exact h
 ·simp [fA h'] at h
def restL (n:Nat)(listed:Array Bool):List Nat:=(ah n).filter fun i=>!listed.getD i true
theorem restL_sorted (n:Nat)(listed:Array Bool):(restL n listed).Pairwise (· < ·):=List.Pairwise.filter _ gG
theorem mem_restL {n i:Nat}{listed:Array Bool}:i∈restL n listed↔i<n∧listed.getD i true=false:=by simp [restL]
theorem restL_set {n i:Nat}{listed:Array Bool}{l1 l2:List Nat}(h:restL n listed=l1++i::l2)(hi:i<listed.size):restL n (listed.setIfInBounds i true)=l1++l2:=by
 have hs:=restL_sorted n listed
 rw [h] at hs
 have h1:∀j∈l1,j≠i:=fun j hj=>Nat.ne_of_lt ((gI.1 hs).2.2 j hj i (aj ..))
 have h2:∀j∈l2,j≠i:=fun j hj=>Nat.ne_of_gt ((gJ.1 (gI.1 hs).2.1).1 j hj)
 have e:restL n (listed.setIfInBounds i true)=(restL n listed).filter fun j=>decide (j≠i):=by
  unfold restL
  rw [gK]
  refine gQ fun j _=>?_
  by_cases hji:j=i
  ·subst hji
   have:(listed.setIfInBounds j true).getD j true=true:=by simp [hi]
   simp [this]
  ·rw [getD_set_ne true (Ne.symm hji)];simp [hji]
 rw [e,h,gU,gV]
 simp only [ne_eq,not_true_eq_false,decide_false,aK,if_false]
 rw [gW.2 (fun j hj=>by simpa using h1 j hj),gW.2 (fun j hj=>by simpa using h2 j hj)]
theorem ops_any (hG:GOk G E.W0)(hS:CallSpec P E.W0 call){ops:Array Oper}{bops:List AOper}{Q:Exit→Act→World→Prop}{sF:AState}(hc:cOpers P hand draw ops ops.toList=some bops)(hd:drawOk ops bops=true)(hQ:∀Γ a w,Inv E sF Γ a w→Q .normal a w) :
  ∀(fuel:Nat) {listed:Array Bool} {s:AState} {Γ:Ghost} {a:Act} {w:World},listed.size=ops.size→ClosedL ops listed→(restL ops.size listed).length=fuel→evalOps G (quietCall call) ((restL ops.size listed).map fun i=>bops.getD i ⟨none,.bad,none⟩) s=some sF→Inv E s Γ a w→wpAny P .any ops Q fuel listed a w:=by
 simp only [drawOk,fG,aQ,gX] at hd
 obtain ⟨⟨hord,hnh⟩,hpair⟩:=hd
 obtain ⟨hlen,hget⟩:=cOpers_get hc
 intro fuel
 induction fuel with
 |zero =>
  intro listed s Γ a w hsz hcl hl h hI
  have hn:=bg hl
  rw [hn] at h
  obtain rfl:=ed (by simpa [evalOps] using h:some s=some sF)
  refine ⟨gY.2 fun i hi=>?_,hQ _ _ _ hI⟩
  obtain ⟨h1,o,h2,_⟩:=mem_ready.1 hi
  have:i∈restL ops.size listed:=mem_restL.2 ⟨(fC.1 h2).1,h1⟩
  rw [hn] at this
  cases this
 |succ fuel ih =>
  intro listed s Γ a w hsz hcl hl h hI
  have hlisted:∀j,j<ops.size→listed.getD j true≠false→listed.getD j false=true:=fun j hj h=>by
   have hj':j<listed.size:=by omega
   simp [hj'] at h ⊢;exact h
  refine ⟨fun hr=>?_,fun i hi=>?_⟩
  ·obtain ⟨i,r,hir⟩:∃i r,restL ops.size listed=i::r:=by
    cases hx:restL ops.size listed with
    |nil=>rw [hx] at hl;cases hl
    |cons i r=>exact ⟨i,r,rfl⟩
   have him:=mem_restL.1 (show i∈restL ops.size listed by rw [hir];exact aj ..)
   have hoi:ops[i]? = some ops[i]:=aG him.1
   have hready:i∈Region.ready .any ops listed:=by
    refine mem_ready.2 ⟨him.2,_,hoi,fun e he hb=>?_⟩
    have:=hord i him.1
    rw [hoi] at this
    have hlt:=fD.1 this e he
    rw [hb] at hlt
    simp only [fF,fJ,decide_eq_true_eq] at hlt
    refine hlisted e.on (by omega) fun hun=>?_
    have hm:=mem_restL.2 ⟨show e.on<ops.size by omega,hun⟩
    rw [hir] at hm
    have hs:=restL_sorted ops.size listed
    rw [hir] at hs
    rcases gZ.1 hm with he|hm
    ·omega
    ·have:=(gJ.1 hs).1 _ hm
     omega
   rw [hr] at hready
   cases hready
  ·obtain ⟨hun,o,ho,hdeps⟩:=mem_ready.1 hi
   have hin:=(fC.1 ho).1
   obtain ⟨l1,l2,hsplit⟩:=gm (mem_restL.2 ⟨hin,hun⟩)
   have hs:=restL_sorted ops.size listed
   rw [hsplit] at hs
   obtain ⟨g,hg1,hg2⟩:=hget i o (by simpa using ho)
   have hbi:bops.getD i ⟨none,.bad,none⟩=⟨o.dst,(cOp P hand draw o).getD .bad,g⟩:=by rw [au,hg2];rfl
   have hcomm:∀x∈l1.map (fun i=>bops.getD i ⟨none,.bad,none⟩),commB x ⟨o.dst,(cOp P hand draw o).getD .bad,g⟩=true:=fun x hx=>by
    obtain ⟨j,hj,rfl⟩:=dD.1 hx
    have hji:j<i:=(gI.1 hs).2.2 j hj i (aj ..)
    have hjm:=mem_restL.1 (show j∈restL ops.size listed by rw [hsplit];exact fU _ hj)
    have:=hpair i hin j hji
    rw [aJ] at this
    rcases this with h1|h1
    ·exfalso
     have h2:=hcl.ready ho hdeps (waits_of h1)
     rw [getD_both' hjm.2] at h2
     cases h2
    ·rw [hg2] at h1
     split at h1
     ·rename_i x y hx hy
      cases hy
      rw [au,hx]
      exact h1
     ·cases h1
   rw [hsplit,gp,cO,hbi] at h
   obtain ⟨u,hu1,hu2⟩:=bubble quiet_pure hcomm h
   rw [← gp,← restL_set hsplit (by omega)] at hu2
   have hkk:noHand ((cOp P hand draw o).getD .bad)=true:=hnh _ (aS hg2)
   have hlen2:(restL ops.size (listed.setIfInBounds i true)).length=fuel:=by
    rw [restL_set hsplit (by omega)]
    rw [hsplit] at hl
    simp at hl ⊢
    omega
   unfold wpOp
   simp only [ho]
   exact oper_any hG hS hkk hg1 hu1 hI fun Γ' a' w' hI'=>ih (by simp [hsz]) (hcl.list ho hdeps) hlen2 hu2 hI'
theorem oper_real (hG:GOk G E.W0)(hS:CallSpec P E.W0 call){ops:Array Oper}{o:Oper}{g:Option (Nat×Bool)}{u:AState}{K:Act→World→Prop}{Q:Exit→Act→World→Prop}(h2:cGuard ops o.guard=some g)
  (he:evalOper G call ⟨o.dst,(cOp P hand draw o).getD .bad,g⟩ s=some u) (hI:Inv E s Γ a w) (hK:∀Γ a w,Inv E u Γ a w→K a w) :
  if Region.wanted o (yielded ops a.tmps)=true then o.wp P a w K Q∨(o.asks P a w∧LetsOut Q) else K (a.put o.dst Go.undef) w:=by
 simp only [evalOper] at he
 split at he<;>first|(cases he;done)|skip
 ·rename_i hw
  rw [wanted_ok hI h2 hw]
  split at he<;>first|(cases he;done)|skip
  rename_i v s2 hev
  obtain rfl:=ed he
  simp only [if_true]
  refine .inl (op_wp hG hS hI (some_of_eval hev) hev fun Γ' cv w' i1 r1 o1=>?_)
  obtain ⟨Γ2,i2⟩:=i1.put o.dst r1 o1
  exact hK _ _ _ i2
 ·rename_i hw
  rw [wanted_ok hI h2 hw]
  obtain rfl:=ed he
  simp only [aK,if_false]
  obtain ⟨Γ2,i2⟩:=hI.put o.dst (v := .undef) (cv := Go.undef) .undef (.of_ne (by simp))
  exact hK _ _ _ i2
def restS (n size:Nat)(listed:Array Bool):List Nat:=(ah size).filter fun i=>decide (n≤i)&&!listed.getD i true
theorem restS_sorted (n size:Nat)(listed:Array Bool):(restS n size listed).Pairwise (· < ·):=List.Pairwise.filter _ gG
theorem mem_restS {n size i:Nat}{listed:Array Bool}:i∈restS n size listed↔i<size∧n≤i∧listed.getD i true=false:=by simp [restS]
theorem restS_off {n size i:Nat}{listed:Array Bool}(hi:i<n):restS n size (listed.setIfInBounds i true)=restS n size listed:=by
 unfold restS
 refine gQ fun j _=>?_
 by_cases hj:n≤j
 ·rw [getD_set_ne true (show i≠j by omega)]
 ·simp [hj]
theorem restS_on {n size i:Nat}{listed:Array Bool}(hi:i<listed.size)(hs:i<size)(hn:n≤i)(hun:listed.getD i true=false)(hb:∀j,n≤j→j<i→listed.getD j true≠false):restS n size listed=i::restS n size (listed.setIfInBounds i true):=by
 have e:restS n size (listed.setIfInBounds i true)=(restS n size listed).filter fun j=>decide (j≠i):=by
  unfold restS
  rw [gK]
  refine gQ fun j _=>?_
  by_cases hji:j=i
  ·subst hji
   have:(listed.setIfInBounds j true).getD j true=true:=by simp [hi]
   simp [this]
  ·rw [getD_set_ne true (Ne.symm hji)];simp [hji]
 obtain ⟨l1,l2,hsp⟩:=gm (mem_restS.2 ⟨hs,hn,hun⟩)
 have hso:=restS_sorted n size listed
 rw [hsp] at hso
 have h1:l1=[]:=gY.2 fun j hj=>by
  have hlt:=(gI.1 hso).2.2 j hj i (aj ..)
  have hm:=mem_restS.1 (show j∈restS n size listed by rw [hsp];exact fU _ hj)
  exact hb j hm.2.1 hlt hm.2.2
 subst h1
 rw [e,hsp,bn,gV]
 simp only [ne_eq,not_true_eq_false,decide_false,aK,if_false]
 rw [gW.2 fun j hj=>?_]
 have:=(gJ.1 hso).1 j hj
 have:j≠i:=by omega
 simpa using this
theorem ops_pin (hG:GOk G E.W0)(hS:CallSpec P E.W0 call){ops:Array Oper}{bops:List AOper}{n:Nat}{Q:Exit→Act→World→Prop}{sF:AState}(hc:cOpers P hand draw ops ops.toList=some bops)(hd:pinOk ops bops n=true)(hQ:∀Γ a w,Inv E sF Γ a w→Q .normal a w) :
  ∀(fuel:Nat) {listed:Array Bool} {s s1:AState} {Γ:Ghost} {a:Act} {w:World},listed.size=ops.size→ClosedL ops listed→(restL n listed).length+(restS n ops.size listed).length=fuel →
   evalOps G (quietCall call) ((restL n listed).map fun i=>bops.getD i ⟨none,.bad,none⟩) s=some s1→evalOps G call ((restS n ops.size listed).map fun i=>bops.getD i ⟨none,.bad,none⟩) s1=some sF→Inv E s Γ a w→wpAny P .any ops Q fuel listed a w:=by
 simp only [pinOk,fG,aQ,gX,decide_eq_true_eq] at hd
 obtain ⟨⟨⟨⟨hord,hnh⟩,hnle⟩,hpin⟩,hpair⟩:=hd
 obtain ⟨hlen,hget⟩:=cOpers_get hc
 intro fuel
 induction fuel with
 |zero =>
  intro listed s s1 Γ a w hsz hcl hl h h' hI
  have hn1:=bg (show (restL n listed).length=0 by omega)
  have hn2:=bg (show (restS n ops.size listed).length=0 by omega)
  rw [hn1] at h
  rw [hn2] at h'
  obtain rfl:=ed (by simpa [evalOps] using h:some s=some s1)
  obtain rfl:=ed (by simpa [evalOps] using h':some s=some sF)
  refine ⟨gY.2 fun i hi=>?_,hQ _ _ _ hI⟩
  obtain ⟨k1,o,k2,_⟩:=mem_ready.1 hi
  have hin:=(fC.1 k2).1
  rcases dJ i n with hlt|hge
  ·have:i∈restL n listed:=mem_restL.2 ⟨hlt,k1⟩
   rw [hn1] at this;cases this
  ·have:i∈restS n ops.size listed:=mem_restS.2 ⟨hin,hge,k1⟩
   rw [hn2] at this;cases this
 |succ fuel ih =>
  intro listed s s1 Γ a w hsz hcl hl h h' hI
  have hlisted:∀j,j<ops.size→listed.getD j true≠false→listed.getD j false=true:=fun j hj h=>by
   have hj':j<listed.size:=by omega
   simp [hj'] at h ⊢;exact h
  refine ⟨fun hr=>?_,fun i hi=>?_⟩
  ·
   have hex:∃i,i<ops.size∧listed.getD i true=false∧∀j,j<i→listed.getD j true≠false:=by
    have hne:∃i,i<ops.size∧listed.getD i true=false:=by
     cases hx:restL n listed with
     |cons i r =>
      have:=mem_restL.1 (show i∈restL n listed by rw [hx];exact aj ..)
      exact ⟨i,by omega,this.2⟩
     |nil =>
      cases hy:restS n ops.size listed with
      |nil=>rw [hx,hy] at hl;simp at hl
      |cons i r =>
       have:=mem_restS.1 (show i∈restS n ops.size listed by rw [hy];exact aj ..)
       exact ⟨i,this.1,this.2.2⟩
    obtain ⟨i,h1,h2⟩:=hne
    induction i using Nat.strongRecOn with
    |_ i ihi =>
     by_cases hx:∃j,j<i∧listed.getD j true=false
     ·obtain ⟨j,hj1,hj2⟩:=hx
      exact ihi j hj1 (by omega) hj2
     ·exact ⟨i,h1,h2,fun j hj hq=>hx ⟨j,hj,hq⟩⟩
   obtain ⟨i,him,hun,hleast⟩:=hex
   have hoi:ops[i]? = some ops[i]:=aG him
   have hready:i∈Region.ready .any ops listed:=by
    refine mem_ready.2 ⟨hun,_,hoi,fun e he hb=>?_⟩
    have:=hord i him
    rw [hoi] at this
    have hlt:=fD.1 this e he
    rw [hb] at hlt
    simp only [fF,fJ,decide_eq_true_eq] at hlt
    exact hlisted e.on (by omega) (hleast _ hlt)
   rw [hr] at hready
   cases hready
  ·obtain ⟨hun,o,ho,hdeps⟩:=mem_ready.1 hi
   have hin:=(fC.1 ho).1
   obtain ⟨g,hg1,hg2⟩:=hget i o (by simpa using ho)
   have hbi:bops.getD i ⟨none,.bad,none⟩=⟨o.dst,(cOp P hand draw o).getD .bad,g⟩:=by rw [au,hg2];rfl
   unfold wpOp
   simp only [ho]
   rcases dJ i n with hlt|hge
   ·obtain ⟨l1,l2,hsplit⟩:=gm (mem_restL.2 ⟨hlt,hun⟩)
    have hs:=restL_sorted n listed
    rw [hsplit] at hs
    have hcomm:∀x∈l1.map (fun i=>bops.getD i ⟨none,.bad,none⟩),commB x ⟨o.dst,(cOp P hand draw o).getD .bad,g⟩=true:=fun x hx=>by
     obtain ⟨j,hj,rfl⟩:=dD.1 hx
     have hji:j<i:=(gI.1 hs).2.2 j hj i (aj ..)
     have hjm:=mem_restL.1 (show j∈restL n listed by rw [hsplit];exact fU _ hj)
     have:=hpair i hlt j hji
     rw [aJ] at this
     rcases this with h1|h1
     ·exfalso
      have h2:=hcl.ready ho hdeps (waits_of h1)
      rw [getD_both' hjm.2] at h2
      cases h2
     ·rw [hg2] at h1
      split at h1
      ·rename_i x y hx hy
       cases hy
       rw [au,hx]
       exact h1
      ·cases h1
    rw [hsplit,gp,cO,hbi] at h
    obtain ⟨u,hu1,hu2⟩:=bubble quiet_pure hcomm h
    rw [← gp,← restL_set hsplit (by omega)] at hu2
    have hkk:noHand ((cOp P hand draw o).getD .bad)=true:=by
     have hm:(⟨o.dst,(cOp P hand draw o).getD .bad,g⟩:AOper)∈bops.take n:=by
      refine aS (i := i) ?_
      rw [List.getElem?_take_of_lt hlt];exact hg2
     exact hnh _ hm
    rw [← restS_off (size := ops.size) (listed := listed) hlt] at h'
    refine oper_any hG hS hkk hg1 hu1 hI fun Γ' a' w' hI'=>ih (by simp [hsz]) (hcl.list ho hdeps) ?_ hu2 h' hI'
    rw [restL_set hsplit (by omega),restS_off hlt]
    rw [hsplit] at hl
    simp at hl ⊢
    omega
   ·have hall:∀j,j<i→listed.getD j true≠false:=fun j hj hq=>by
     have hw:waitsB ops i j=true:=by
      rcases aJ _ _▸hpin i hin with h1|h1
      ·have:i<n:=by simpa using h1
       omega
      ·exact aQ.1 h1 j (gX.2 hj)
     have h2:=hcl.ready ho hdeps (waits_of hw)
     rw [getD_both' hq] at h2
     cases h2
    have hnil:restL n listed=[]:=gY.2 fun j hj=>by
     have:=mem_restL.1 hj
     exact hall j (by omega) this.2
    have hnil2:restL n (listed.setIfInBounds i true)=[]:=gY.2 fun j hj=>by
     have hm:=mem_restL.1 hj
     rw [getD_set_ne true (show i≠j by omega)] at hm
     exact hall j (by omega) hm.2
    rw [hnil] at h
    obtain rfl:=ed (by simpa [evalOps] using h:some s=some s1)
    have hon:=restS_on (n := n) (size := ops.size) (listed := listed) (by omega) hin hge hun (fun j _ hj=>hall j hj)
    rw [hon,cO,hbi] at h'
    simp only [evalOps] at h'
    split at h' <;> first|(cases h';done)|skip
    rename_i u hu
    refine oper_real hG hS hg1 hu hI fun Γ' a' w' hI'=>ih (s1 := u) (by simp [hsz]) (hcl.list ho hdeps) ?_ (by rw [hnil2];rfl) h' hI'
    rw [hnil2]
    rw [hnil,hon] at hl
    simp at hl ⊢
    omega
end
section
variable {G:Nat→Option (List AV)}{call:FuncId→List AV→List AObj→Option (AV×List AObj×Eff)}
theorem bare_pure:∀f args hp v hp' e,bareCall call f args hp=some (v,hp',e)→hp'=hp∧e=none:=by
 intro f args hp v hp' e h
 unfold bareCall at h
 split at h<;>first|(cases h;done)|skip
 split at h<;>first|(cases h;done)|skip
 split at h<;>first|(cases h;done)|skip
 cases h
 exact ⟨rfl,rfl⟩
theorem bare_any {f:FuncId}{args:List AV}{hp:List AObj}{v:AV}{hp':List AObj}{e:Eff}(h:bareCall call f args hp=some (v,hp',e))(h2:List AObj):bareCall call f args h2=some (v,h2,none):=by
 unfold bareCall at h ⊢
 split at h<;>first|(cases h;done)|skip
 rename_i hb
 rw [if_pos hb]
 split at h<;>first|(cases h;done)|skip
 rename_i hc
 split at h<;>first|(cases h;done)|skip
 cases h
 rfl
def Pfx (h h':List AObj):Prop:=∀(g:Nat) (o:AObj),h[g]? = some o→h'[g]? = some o
theorem Pfx.take (n:Nat)(h:List AObj):Pfx (h.take n) h:=fun g o hg=>by
 rw [bH] at hg
 split at hg
 ·exact hg
 ·cases hg
theorem Pfx.look {h h':List AObj}(p:Pfx h h'):LookLe h h':=.of_get (fun g cs t hg=>⟨cs,t,p g _ hg,rfl⟩) fun g l t e m hg=>p g _ hg
theorem Pfx.rows {h h':List AObj}(p:Pfx h h'){x:AV}{r:Nat×List (List AV)}(hx:rowsOf h x=some r):rowsOf h' x=some r:=by
 unfold rowsOf at hx ⊢
 split at hx<;>first|exact hx|(cases hx;done)|skip
 split at hx<;>first|(cases hx;done)|skip
 rename_i hg
 rw [p _ _ hg]
 exact hx
theorem Pfx.len {h h':List AObj}(p:Pfx h h'){sh:LenSh}{x v:AV}(hx:lenVal h sh x=some v):lenVal h' sh x=some v:=by
 unfold lenVal at hx ⊢
 split at hx<;>first|exact hx|(cases hx;done)|skip
 split at hx<;>first|(cases hx;done)|skip
 rename_i hg
 rw [p _ _ hg]
 exact hx
theorem Pfx.conv {h h':List AObj}(p:Pfx h h'){c:Conv}{x v:AV}(hx:convVal h c x=some v):convVal h' c x=some v:=by
 unfold convVal at hx ⊢
 split at hx<;>first|exact hx|(cases hx;done)|skip
 split at hx<;>first|(cases hx;done)|skip
 rename_i hg
 rw [p.rows hg]
 exact hx
theorem op_pfx {ao:AOp}{k:HK}{s:AState}{v:AV}{s':AState}(hk:hkind ao=some k)(hk':k=.free∨k=.look∨k=.read)(h:evalOp G (bareCall call) s ao=some (v,s')){h2:List AObj}(p:Pfx s.hp h2) :
  s'.hp=s.hp∧s'.ef=s.ef∧s'.bs=s.bs∧evalOp G (bareCall call) { s with hp:=h2 } ao=some (v,{ s' with hp:=h2 }):=by
 have S:=op_spec bare_pure hk h
 have hst:s'.hp=s.hp∧s'.ef=s.ef:=S.still (by rcases hk' with rfl|rfl|rfl<;>trivial)
 refine ⟨hst.1,hst.2,S.bs,?_⟩
 have fin:evalOp G (bareCall call) { s with hp:=h2 } ao=some (v,⟨tkF ao s.sl,h2,s.ef,s.bs⟩)→evalOp G (bareCall call) { s with hp:=h2 } ao=some (v,{ s' with hp:=h2 }):=fun e=>by
  rw [e,← S.sl,← hst.2,← S.bs]
 refine fin ?_
 rcases hk' with rfl|rfl|rfl
 ·exact S.free rfl { s with hp:=h2 } (fun _ _=>rfl)
 ·exact S.look rfl { s with hp:=h2 } (fun _ _=>rfl) p.look
 ·cases ao<;>first|(simp only [hkind,eu,reduceCtorEq] at hk;done)|skip
  case lit e k parts=>cases parts<;>simp [hkind] at hk
  case len sh x =>
   simp only [evalOp] at h ⊢
   split at h<;>first|(cases h;done)|skip
   rename_i y hy
   obtain ⟨h1,rfl⟩:=pair_map h
   simp only [hy,p.len h1,eX]
   rfl
  case app k b t x =>
   simp only [evalOp] at h ⊢
   split at h<;>first|(cases h;done)|skip
   rename_i k' r y h1 h2
   split at h<;>first|(cases h;done)|skip
   rename_i k2 r2 h3
   split at h<;>first|(cases h;done)|skip
   rename_i hc
   cases h
   simp only [h1,h2,p.rows h3]
   rw [if_pos hc]
   rfl
  case appn k b x =>
   simp only [evalOp] at h ⊢
   split at h<;>first|(cases h;done)|skip
   rename_i y h2
   split at h<;>first|(cases h;done)|skip
   rename_i k2 r2 h3
   split at h<;>first|(cases h;done)|skip
   rename_i hc
   cases h
   simp only [h2,p.rows h3]
   rw [if_pos hc]
   rfl
  case conv c x =>
   simp only [evalOp] at h ⊢
   split at h<;>first|(cases h;done)|skip
   rename_i y hy
   obtain ⟨h1,rfl⟩:=pair_map h
   simp only [hy,p.conv h1,eX]
   rfl
  case call f args =>
   simp only [evalOp] at h ⊢
   split at h<;>first|(cases h;done)|skip
   rename_i g first caps vs sl hf hv
   split at h<;>first|(cases h;done)|skip
   rename_i u hp' e hc
   obtain ⟨rfl,rfl⟩:=bare_pure _ _ _ _ _ _ hc
   cases h
   have hsl:=S.sl
   simp only at hsl
   simp only [hf,hv,bare_any hc h2,AState.after]
   rw [hsl]
variable (G call)(base:Nat)(al:List Nat)
def evalPre (o:AOper)(s:AState):Option AState :=
 match evalOper G (bareCall call) o { s with hp:=s.hp.take base } with
 |some s'=>some { s' with hp:=s.hp }
 |none=>none
def isDead:Option AObj→Bool
 |some .dead=>true
 |_=>false
def evalMake (r:Nat)(o:AOper)(s:AState):Option AState :=
 if isDead s.hp[base+r]? = true∧s.bs≤base then
  match o.op with
  |.mk t cells=>some (({ s with hp:=s.hp.set (base+r) (.cells cells t) }:AState).put o.dst (.ptr (base+r) 0))
  |.box t n x=>match opnd G s.sl x with
   |some v=>if v.cells.length=n∧v.laid=true then some (({ s with hp:=s.hp.set (base+r) (.cells v.cells t) }:AState).put o.dst (.ptr (base+r) 0)) else none
   |none=>none
  |_=>none
 else none
def evalSet (r:Nat)(o:AOper)(s:AState):Option AState :=
 match setSlot o with
 |some t=>match s.sl[t]? with
  |some (.ptr g 0)=>if g=base+r∧s.bs≤base then evalOper G (bareCall call) o s else none
  |_=>none
 |none=>none
def evalR (o:AOper)(s:AState):Option AState :=
 match rcls al o with
 |.pre=>evalPre G call base o s
 |.at r=>match isAlloc o with
  |true=>evalMake G base r o s
  |false=>evalSet G call base r o s
 |.any=>evalOper G (bareCall call) o s
def evalRs:List AOper→AState→Option AState
 | [],s=>some s
 |o::l,s=>match evalR G call base al o s with
  |some s'=>evalRs l s'
  |none=>none
variable {G call base al}
structure StepR (G:Nat→Option (List AV))(call:FuncId→List AV→List AObj→Option (AV×List AObj×Eff))(base:Nat)(al:List Nat)(o:AOper)(s s':AState)(f:List AV→List AV):Prop where
 loc:LocF (opWrites o) f
 sl:s'.sl=f s.sl
 bs:s'.bs=s.bs
 ef:s'.ef=s.ef
 pre:rcls al o=.pre→s'.hp=s.hp∧∀t:AState,Agree (opReadsO o) s.sl t.sl→t.hp.take base=s.hp.take base→evalR G call base al o t=some ⟨f t.sl,t.hp,t.ef,t.bs⟩
 at_:∀r,rcls al o=.at r→∃x,s'.hp=s.hp.set (base+r) x∧∀t:AState,Agree (opReadsO o) s.sl t.sl→t.hp[base+r]? = s.hp[base+r]?→t.bs=s.bs→evalR G call base al o t=some ⟨f t.sl,t.hp.set (base+r) x,t.ef,t.bs⟩
theorem isPre_kind {o:AOper}(h:isPre o=true):∃k,hkind o.op=some k∧(k=.free∨k=.look∨k=.read):=by
 unfold isPre at h
 split at h<;>first|(cases h;done)|skip
 ·exact ⟨_,by assumption,.inl rfl⟩
 ·exact ⟨_,by assumption,.inr (.inl rfl)⟩
 ·exact ⟨_,by assumption,.inr (.inr rfl)⟩
theorem rcls_pre {o:AOper}(h:rcls al o=.pre):isPre o=true:=by
 unfold rcls at h
 split at h
 ·split at h
  ·split at h<;>cases h
  ·cases h
 ·split at h
  ·split at h<;>cases h
  ·split at h
   ·assumption
   ·cases h
theorem rcls_at {o:AOper}{r:Nat}(h:rcls al o=.at r):(isAlloc o=true∧∃d,o.dst=some d∧idx d al=some r)∨(isAlloc o=false∧∃t,setSlot o=some t∧idx t al=some r):=by
 unfold rcls at h
 split at h
 ·rename_i h1
  split at h
  ·split at h<;>cases h
   exact .inl ⟨h1,_,by assumption,by assumption⟩
  ·cases h
 ·rename_i h1
  split at h
  ·split at h<;>cases h
   exact .inr ⟨h1,_,by assumption,by assumption⟩
  ·split at h<;>cases h
theorem stepR_of {o:AOper}{s s':AState}(hc:rcls al o≠.any)(h:evalR G call base al o s=some s'):∃f,StepR G call base al o s s' f:=by
 cases hr:rcls al o with
 |any=>exact absurd hr hc
 |pre =>
  obtain ⟨k,hk,hk'⟩:=isPre_kind (rcls_pre hr)
  have hev:∀t,evalR G call base al o t=evalPre G call base o t:=fun t=>by unfold evalR;rw [hr]
  rw [hev] at h
  unfold evalPre at h
  split at h<;>first|(cases h;done)|skip
  rename_i s1 h1
  obtain rfl:=ed h
  obtain ⟨f,S⟩:=step_of bare_pure hk h1
  have k1:=S.still (by rcases hk' with rfl|rfl|rfl<;>trivial)
  have k2:=S.read (by rcases hk' with rfl|rfl|rfl<;>trivial)
  refine ⟨f,S.loc,S.sl,S.bs,k1.2,fun _=>⟨rfl,fun t ht he=>?_⟩,fun r e=>by rw [hr] at e;cases e⟩
  rw [hev]
  unfold evalPre
  rw [k2 { t with hp:=t.hp.take base } ht he]
 | «at» r =>
  have hev:∀t,evalR G call base al o t=(match isAlloc o with|true=>evalMake G base r o t|false=>evalSet G call base r o t):=fun t=>by unfold evalR;rw [hr]
  rw [hev] at h
  cases hal:isAlloc o with
  |true =>
   rw [hal] at h
   replace h:evalMake G base r o s=some s':=h
   have hg:o.guard=none:=by
    unfold isAlloc at hal
    split at hal<;>first|(cases hal;done)|assumption
   unfold evalMake at h
   split at h<;>first|(cases h;done)|skip
   rename_i hd
   split at h<;>first|(cases h;done)|skip
   ·rename_i t cells hop
    obtain rfl:=ed h
    refine ⟨putF o.dst (.ptr (base+r) 0),⟨?_,by rw [putF_eq],by rw [putF_eq],by rw [putF_eq],fun e=>(by rw [hr] at e;cases e),fun q e=>?_⟩⟩
    ·have:=(LocF.id (opTakes o.op)).comp (putF_loc o.dst (.ptr (base+r) 0))
     exact this
    ·rw [hr] at e
     cases e
     refine ⟨.cells cells t,by rw [putF_eq],fun t' ht he hb=>?_⟩
     rw [hev,hal]
     show evalMake G base r o t'=_
     unfold evalMake
     rw [he,hb,if_pos hd,hop]
     simp only [putF_eq,hb]
   ·rename_i t n x hop
    split at h<;>first|(cases h;done)|skip
    rename_i v hv
    split at h<;>first|(cases h;done)|skip
    rename_i hn
    obtain rfl:=ed h
    refine ⟨putF o.dst (.ptr (base+r) 0),⟨?_,by rw [putF_eq],by rw [putF_eq],by rw [putF_eq],fun e=>(by rw [hr] at e;cases e),fun q e=>?_⟩⟩
    ·have:=(LocF.id (opTakes o.op)).comp (putF_loc o.dst (.ptr (base+r) 0))
     exact this
    ·rw [hr] at e
     cases e
     refine ⟨.cells v.cells t,by rw [putF_eq],fun t' ht he hb=>?_⟩
     have hx:opnd G t'.sl x=some v:=by
      rw [← hv]
      refine (opnd_congr (G := G) (x := x) ?_).symm
      exact fun i hi=>ht i (fV _ (by rw [hop];exact hi))
     rw [hev,hal]
     show evalMake G base r o t'=_
     unfold evalMake
     rw [he,hb,if_pos hd,hop]
     simp only [hx,putF_eq,hb]
     rw [if_pos hn]
  |false =>
   rw [hal] at h
   replace h:evalSet G call base r o s=some s':=h
   have hev':∀t,evalR G call base al o t=evalSet G call base r o t:=fun t=>by rw [hev,hal]
   unfold evalSet at h
   split at h<;>first|(cases h;done)|skip
   rename_i q hq
   split at h<;>first|(cases h;done)|skip
   rename_i g hs
   split at h<;>first|(cases h;done)|skip
   rename_i hg
   obtain ⟨rfl,hbs⟩:=hg
   have hgd:o.guard=none:=by
    unfold setSlot at hq
    split at hq<;>first|(cases hq;done)|assumption
   have hw:∀t,wantedA t o.guard=some true:=fun t=>by rw [hgd];rfl
   simp only [evalOper,hw] at h
   split at h<;>first|(cases h;done)|skip
   rename_i v s1 he
   obtain rfl:=ed h
   have hpt:∀t:AState,t.sl[q]? = s.sl[q]?→opnd G t.sl (.tmp q)=some (.ptr (base+r) 0):=fun t e=>by simp only [opnd,e,hs];rfl
   have hnote:∀t:AState,t.bs=s.bs→t.note (base+r) 0=t.ef:=fun t e=>by
    unfold AState.note
    rw [if_neg (by omega)]
   unfold setSlot at hq
   split at hq<;>first|(cases hq;done)|skip
   ·rename_i n q' x hop _
    obtain rfl:=ed hq
    rw [hop] at he
    simp only [evalOp,hpt s rfl] at he
    split at he<;>first|(cases he;done)|skip
    rename_i g0 o0 u h1 h2
    cases h1
    split at he<;>first|(cases he;done)|(split at he<;>first|(cases he;done)|(rename_i hlow;exact absurd hlow.2.1 (by decide)))|skip
    rename_i cs ty hcs
    split at he<;>first|(cases he;done)|skip
    rename_i hn
    cases he
    refine ⟨putF o.dst .undef,⟨?_,by rw [putF_eq],by rw [putF_eq],by rw [putF_eq];exact hnote s rfl,fun e=>(by rw [hr] at e;cases e),fun q2 e=>?_⟩⟩
    ·have:=(LocF.id (opTakes o.op)).comp (putF_loc o.dst .undef)
     exact this
    ·rw [hr] at e
     cases e
     refine ⟨.cells (splice cs 0 u.cells) ty,by rw [putF_eq],fun t' ht he hb=>?_⟩
     have a0:Agree (oR (.tmp q')++oR x) s.sl t'.sl:=fun i hi=>ht i (fV _ (by rw [hop];exact hi))
     have e1:=a0.left q' (.head _)
     rw [hev']
     unfold evalSet setSlot
     rw [hop,hgd]
     simp only
     rw [← e1,hs]
     simp only
     rw [if_pos ⟨trivial,by omega⟩]
     simp only [evalOper,hw]
     rw [hop]
     simp only [evalOp,hpt t' e1.symm,← opnd_congr (G := G) (x := x) a0.right,h2,he,hcs]
     rw [if_pos hn]
     simp only [putF_eq,hnote t' hb]
   ·rename_i q' x hop _
    obtain rfl:=ed hq
    rw [hop] at he
    simp only [evalOp,hpt s rfl] at he
    split at he<;>first|(cases he;done)|skip
    rename_i g0 o0 u h1 h2
    cases h1
    split at he<;>first|(cases he;done)|skip
    rename_i cs ty hcs
    split at he<;>first|(cases he;done)|skip
    rename_i hn
    cases he
    have hto:opTakes o.op=[x]:=by rw [hop];rfl
    refine ⟨fun l=>putF o.dst .undef (l.modify x AV.ro),⟨?_,by rw [putF_eq];rfl,by rw [putF_eq];rfl,by rw [putF_eq];exact hnote s rfl,fun e=>(by rw [hr] at e;cases e),fun q2 e=>?_⟩⟩
    ·have:=(LocF.mod x).comp (putF_loc o.dst .undef)
     unfold opWrites
     rw [hto]
     exact this
    ·rw [hr] at e
     cases e
     refine ⟨.cells (cs.set 0 u) ty,by rw [putF_eq],fun t' ht he hb=>?_⟩
     have a0:Agree (x::oR (.tmp q')) s.sl t'.sl:=fun i hi=>ht i (fV _ (by rw [hop];exact hi))
     have e1:=a0 q' (.tail _ (.head _))
     have e2:=a0 x (.head _)
     rw [hev']
     unfold evalSet setSlot
     rw [hop,hgd]
     simp only
     rw [← e1,hs]
     simp only
     rw [if_pos ⟨trivial,by omega⟩]
     simp only [evalOper,hw]
     rw [hop]
     simp only [evalOp,hpt t' e1.symm,← e2,h2,he,hcs]
     rw [if_pos hn]
     simp only [putF_eq,hnote t' hb]
     rfl
theorem swapR {o1 o2:AOper}{s s1 s2:AState}(hc:commR al o1 o2=true)(h1:evalR G call base al o1 s=some s1)(h2:evalR G call base al o2 s1=some s2) :
  ∃u,evalR G call base al o2 s=some u∧evalR G call base al o1 u=some s2:=by
 simp only [commR,slotsApart,fG] at hc
 obtain ⟨hk,⟨ha,hb⟩,hd⟩:=hc
 have n1:rcls al o1≠.any:=fun e=>by rw [e] at hk;cases hk
 have n2:rcls al o2≠.any:=fun e=>by rw [e] at hk;cases h:rcls al o1<;>rw [h] at hk<;>cases hk
 obtain ⟨f1,S1⟩:=stepR_of n1 h1
 obtain ⟨f2,S2⟩:=stepR_of n2 h2
 have A2:Agree (opReadsO o2) s1.sl s.sl:=by rw [S1.sl];exact (Agree.of_loc S1.loc ha s.sl).symm
 have A1:∀u:AState,u.sl=f2 s.sl→Agree (opReadsO o1) s.sl u.sl:=fun u hu=>by rw [hu];exact Agree.of_loc S2.loc hd s.sl
 have fin:∀(u:AState) (hp:List AObj),u.sl=f2 s.sl→u.bs=s.bs→u.ef=s.ef→hp=s2.hp→evalR G call base al o1 u=some ⟨f1 u.sl,hp,u.ef,u.bs⟩→evalR G call base al o1 u=some s2:=fun u hp e1 e2 e3 e4 h=>by
  rw [h]
  have q1:f1 u.sl=s2.sl:=by rw [e1,S2.sl,S1.sl];exact S1.loc.swap S2.loc hb s.sl
  have q2:u.bs=s2.bs:=by rw [e2,S2.bs,S1.bs]
  have q3:u.ef=s2.ef:=by rw [e3,S2.ef,S1.ef]
  rw [q1,q2,q3,e4]
 have tk:∀(h:List AObj) (r:Nat) (x:AObj),(h.set (base+r) x).take base=h.take base:=fun h r x=>by
  rw [List.take_set_of_le (by omega)]
 cases r1:rcls al o1 with
 |any=>exact absurd r1 n1
 |pre =>
  obtain ⟨p1,p2⟩:=S1.pre r1
  cases r2:rcls al o2 with
  |any=>exact absurd r2 n2
  |pre =>
   obtain ⟨p3,p4⟩:=S2.pre r2
   exact ⟨_,p4 s A2 (by rw [p1]),fin _ _ rfl rfl rfl (by rw [p3,p1]) (p2 _ (A1 _ rfl) rfl)⟩
  | «at» r =>
   obtain ⟨x,p3,p4⟩:=S2.at_ r r2
   exact ⟨_,p4 s A2 (by rw [p1]) S1.bs.symm,fin _ _ rfl rfl rfl (by rw [p3,p1]) (p2 _ (A1 _ rfl) (tk _ _ _))⟩
 | «at» r =>
  obtain ⟨x,p1,p2⟩:=S1.at_ r r1
  cases r2:rcls al o2 with
  |any=>exact absurd r2 n2
  |pre =>
   obtain ⟨p3,p4⟩:=S2.pre r2
   exact ⟨_,p4 s A2 (by rw [p1,tk]),fin _ _ rfl rfl rfl (by rw [p3,p1]) (p2 _ (A1 _ rfl) rfl rfl)⟩
  | «at» q =>
   rw [r1,r2] at hk
   have hne:r≠q:=by simpa using hk
   obtain ⟨y,p3,p4⟩:=S2.at_ q r2
   have o1':∀(h:List AObj) (z:AObj),(h.set (base+r) z)[base+q]? = h[base+q]?:=fun h z=>fQ (by omega)
   have o2':∀(h:List AObj) (z:AObj),(h.set (base+q) z)[base+r]? = h[base+r]?:=fun h z=>fQ (by omega)
   exact ⟨_,p4 s A2 (by rw [p1,o1']) S1.bs.symm,fin _ _ rfl rfl rfl (by rw [p3,p1];exact List.set_comm _ _ (by omega)) (p2 _ (A1 _ rfl) (o2' _ _) rfl)⟩
theorem bubbleR {o:AOper}{l2:List AOper}{sF:AState}:∀{l1:List AOper} {s:AState},(∀x∈l1,commR al x o=true)→evalRs G call base al (l1++o::l2) s=some sF →
  ∃u,evalR G call base al o s=some u∧evalRs G call base al (l1++l2) u=some sF
 | [],s,_,h=>by
  simp only [bn,evalRs] at h
  split at h<;>first|(cases h;done)|skip
  rename_i u hu
  exact ⟨u,hu,h⟩
 |x::l1,s,hx,h=>by
  simp only [gB,evalRs] at h
  split at h<;>first|(cases h;done)|skip
  rename_i s1 h1
  obtain ⟨u1,h2,h3⟩:=bubbleR (fun y hy=>hx y (ai _ hy)) h
  obtain ⟨u,h4,h5⟩:=swapR (hx x (aj ..)) h1 h2
  refine ⟨u,h4,?_⟩
  simp only [gB,evalRs,h5]
  exact h3
end
section
variable {G:Nat→Option (List AV)}{call:FuncId→List AV→List AObj→Option (AV×List AObj×Eff)}{base:Nat}{al:List Nat}
theorem idx_get:∀{l:List Nat} {k t:Nat},nodupB l=true→l[k]? = some t→idx t l=some k
 | [],k,t,_,h=>by simp at h
 |u::l,k,t,hn,h=>by
  simp only [nodupB,fG,fH] at hn
  unfold idx
  cases k with
  |zero=>simp only [aY,eu] at h;rw [if_pos h]
  |succ k =>
   simp only [List.getElem?_cons_succ] at h
   have:u≠t:=fun e=>by
    subst e
    have:=aS h
    simp [this] at hn
   rw [if_neg this,idx_get hn.2 h]
   rfl
theorem get_idx:∀{l:List Nat} {k t:Nat},idx t l=some k→l[k]? = some t
 | [],k,t,h=>by cases h
 |u::l,k,t,h=>by
  unfold idx at h
  split at h
  ·rename_i e
   cases h
   simp [e]
  ·obtain ⟨q,hq,rfl⟩:=eP.1 h
   simpa using get_idx hq
def deads (n:Nat):List AObj:=aO n .dead
theorem apart_not {l m:List Nat}(h:apartB l m=true){t:Nat}(ht:t∈m):t∉l:=fun hl=>by
 have:=aQ.1 h t hl
 simp [ht] at this
theorem oper_bs {call:FuncId→List AV→List AObj→Option (AV×List AObj×Eff)}(hq:∀f args hp v hp' e,call f args hp=some (v,hp',e)→hp'=hp∧e=none){o:AOper}{k:HK}{s s':AState}(hk:hkind o.op=some k)(h:evalOper G call o s=some s'):s'.bs=s.bs∧∀t,t∉opWrites o→s'.sl[t]? = s.sl[t]?:=by
 obtain ⟨f,S⟩:=step_of hq hk h
 exact ⟨S.bs,fun t ht=>by rw [S.sl,S.loc.out _ _ ht]⟩
theorem set_len {call:FuncId→List AV→List AObj→Option (AV×List AObj×Eff)}{o:AOper}{s s':AState}(hk:hkind o.op=some .set)(h:evalOper G call o s=some s'):s'.hp.length=s.hp.length:=by
 simp only [evalOper] at h
 split at h<;>first|(cases h;done)|skip
 ·split at h<;>first|(cases h;done)|skip
  rename_i v s1 he
  obtain rfl:=ed h
  rw [putF_eq]
  show s1.hp.length=_
  cases hop:o.op<;>rw [hop] at hk he<;>first|(simp only [hkind,eu,reduceCtorEq] at hk;done)|skip
  case lit e k parts=>cases parts<;>simp [hkind] at hk
  case call f args=>simp only [hkind] at hk;split at hk<;>simp at hk
  all_goals
   simp only [evalOp] at he
   repeat' split at he
   all_goals first
    |(cases he;done)
    |(cases he;simp [AState.let_])
 ·obtain rfl:=ed h
  rw [putF_eq]
theorem sim (hnd:nodupB al=true):∀{l:List AOper} {k:Nat} {s sF:AState},okFrom al k l=true→k≤al.length→evalOps G (bareCall call) l s=some sF→s.bs≤base→s.hp.length=base+k→(∀(r t:Nat) (v:AV),r<k→al[r]? = some t→s.sl[t]? = some v→v=.ptr (base+r) 0) →
  evalRs G call base al l { s with hp:=s.hp++deads (al.length - k) } = some sF
 | [],k,s,sF,ho,hk,h,hbs,hl,hs=>by
  simp only [okFrom,beq_iff_eq] at ho
  obtain rfl:=ed h
  subst ho
  simp only [evalRs,dN,deads,List.replicate_zero,fZ]
 |o::l,k,s,sF,ho,hk,h,hbs,hl,hs=>by
  simp only [evalOps] at h
  split at h<;>first|(cases h;done)|skip
  rename_i s1 h1
  simp only [okFrom] at ho
  cases hal:isAlloc o with
  |true =>
   rw [hal] at ho
   simp only [fG,beq_iff_eq] at ho
   obtain ⟨hd,ho⟩:=ho
   have hg:o.guard=none:=by
    unfold isAlloc at hal
    split at hal<;>first|(cases hal;done)|assumption
   obtain ⟨t,ht⟩:∃t,o.dst=some t:=by
    unfold isAlloc at hal
    split at hal<;>first|(cases hal;done)|exact ⟨_,by assumption⟩
   rw [ht] at hd
   have hkl:k<al.length:=(ag.1 hd.symm).1
   have hcls:rcls al o=.at k:=by
    unfold rcls
    rw [hal,ht]
    simp only
    rw [idx_get hnd hd.symm]
   have hdead:({ s with hp:=s.hp++deads (al.length - k) }:AState).hp[base+k]? = some .dead:=by
    show (s.hp++deads (al.length - k))[base+k]? = _
    rw [bM (by omega),hl,dN]
    unfold deads
    rw [List.getElem?_replicate,if_pos (by omega)]
   have hset:∀x:AObj,(s.hp++deads (al.length - k)).set (base+k) x=(s.hp++[x])++deads (al.length - (k+1)):=fun x=>by
    rw [List.set_append_right _ _ (by omega),hl,dN]
    obtain ⟨m,hm⟩:∃m,al.length - k=m+1:=⟨al.length - k - 1,by omega⟩
    have:al.length - (k+1)=m:=by omega
    rw [hm,this]
    simp [deads,List.replicate_succ]
   have key:∀x:AObj,s1=({ s with hp:=s.hp++[x] }:AState).put o.dst (.ptr s.hp.length 0)→evalR G call base al o { s with hp:=s.hp++deads (al.length - k) } = some (({ s with hp:=(s.hp++deads (al.length - k)).set (base+k) x }:AState).put o.dst (.ptr (base+k) 0)) →
     evalRs G call base al (o::l) { s with hp:=s.hp++deads (al.length - k) } = some sF:=fun x e1 e2=>by
    simp only [evalRs]
    rw [e2]
    have:=sim hnd (l := l) (k := k+1) (s := s1) ho hkl h (by rw [e1,ht];exact hbs) (by rw [e1,ht];simp [AState.put,hl];omega) (fun r q v hr hq hv=>by
     rw [e1,ht] at hv
     simp only [AState.put] at hv
     by_cases e:r=k
     ·subst e
      rw [← hd] at hq
      cases hq
      rw [aU] at hv
      split at hv
      ·split at hv
       ·rw [← ed hv,hl]
       ·cases hv
      ·rename_i ne;exact absurd rfl ne
     ·refine hs r q v (by omega) hq ?_
      rw [fQ] at hv
      ·exact hv
      ·intro e'
       subst e'
       have i1:=idx_get hnd hq
       rw [idx_get hnd hd.symm] at i1
       cases i1
       exact e rfl)
    rw [← this,e1,ht]
    simp only [AState.put,hset,hl]
   simp only [evalOper,hg,wantedA] at h1
   split at h1<;>first|(cases h1;done)|skip
   rename_i v s2 hev
   obtain rfl:=ed h1
   have hR:evalR G call base al o { s with hp:=s.hp++deads (al.length - k) } = evalMake G base k o { s with hp:=s.hp++deads (al.length - k) }:=by
    unfold evalR
    rw [hcls,hal]
   have hif:isDead ({ s with hp:=s.hp++deads (al.length - k) }:AState).hp[base+k]? = true∧({ s with hp:=s.hp++deads (al.length - k) }:AState).bs≤base:=⟨by rw [hdead];rfl,hbs⟩
   cases hop:o.op with
   |mk t' cells =>
    rw [hop] at hev
    cases hev
    refine key _ rfl ?_
    rw [hR]
    unfold evalMake
    rw [if_pos hif,hop]
   |box t' n x =>
    rw [hop] at hev
    simp only [evalOp] at hev
    split at hev<;>first|(cases hev;done)|skip
    rename_i u hu
    split at hev<;>first|(cases hev;done)|skip
    rename_i hn
    cases hev
    refine key _ rfl ?_
    rw [hR]
    unfold evalMake
    rw [if_pos hif,hop]
    simp only [hu]
    rw [if_pos hn]
   |_=>unfold isAlloc at hal;rw [hop] at hal;simp at hal
  |false =>
   rw [hal] at ho
   simp only [fG,aJ] at ho
   obtain ⟨⟨ho1,ho2⟩,ho3⟩:=ho
   have go:∀q:HK,hkind o.op=some q→s1.hp.length=s.hp.length→evalR G call base al o { s with hp:=s.hp++deads (al.length - k) } = some { s1 with hp:=s1.hp++deads (al.length - k) }→evalRs G call base al (o::l) { s with hp:=s.hp++deads (al.length - k) } = some sF:=fun q hq hlen e=>by
    obtain ⟨b1,b2⟩:=oper_bs bare_pure hq h1
    simp only [evalRs]
    rw [e]
    refine sim hnd ho3 hk h (by rw [b1];exact hbs) (by rw [hlen];exact hl) fun r t v hr ht hv=>hs r t v hr ht ?_
    rw [← b2 t (apart_not ho2 (aS ht))]
    exact hv
   have pre:∀q:HK,hkind o.op=some q→(q=.free∨q=.look∨q=.read)→setSlot o=none→(q=.free∨k=0)→evalRs G call base al (o::l) { s with hp:=s.hp++deads (al.length - k) } = some sF:=fun q hq hq' hns hk0=>by
    obtain ⟨f,S⟩:=step_of bare_pure hq h1
    have st:=S.still (by rcases hq' with rfl|rfl|rfl<;>trivial)
    have hcls:rcls al o=.pre:=by
     unfold rcls
     rw [hal]
     simp only
     rw [hns]
     have:isPre o=true:=by unfold isPre;rw [hq];rcases hq' with rfl|rfl|rfl<;>rfl
     simp [this]
    refine go q hq (by rw [st.1]) ?_
    unfold evalR
    rw [hcls]
    simp only
    unfold evalPre
    have hrun:evalOper G (bareCall call) o { s with hp:=(s.hp++deads (al.length - k)).take base } = some ⟨f s.sl,(s.hp++deads (al.length - k)).take base,s.ef,s.bs⟩:=by
     rcases hk0 with rfl|rfl
     ·exact S.free rfl { s with hp:=(s.hp++deads (al.length - k)).take base } (fun _ _=>rfl)
     ·have:(s.hp++deads (al.length - 0)).take base=s.hp:=by
       rw [List.take_append_of_le_length (by omega),List.take_of_length_le (by omega)]
      rw [this]
      exact S.read (by rcases hq' with rfl|rfl|rfl<;>trivial) s (fun _ _=>rfl) rfl
    have e0:evalOper G (bareCall call) o { ({ s with hp:=s.hp++deads (al.length - k) }:AState) with hp:=({ s with hp:=s.hp++deads (al.length - k) }:AState).hp.take base } = some ⟨f s.sl,(s.hp++deads (al.length - k)).take base,s.ef,s.bs⟩:=hrun
    rw [e0]
    simp only
    rw [st.1,← S.sl,← st.2,← S.bs]
   rcases ho1 with (ho1|ho1)|ho1
   ·have hq:hkind o.op=some .free:=by
     unfold isFree at ho1
     split at ho1
     ·assumption
     ·cases ho1
    refine pre .free hq (.inl rfl) ?_ (.inl rfl)
    unfold setSlot
    split<;>first|rfl|(rename_i hop _;rw [hop] at hq;cases hq)
   ·simp only [beq_iff_eq] at ho1
    obtain ⟨q,hq,hq'⟩:=isPre_kind ho1.1
    refine pre q hq hq' ?_ (.inr ho1.2)
    unfold setSlot
    split<;>first|rfl|(rename_i hop _;rw [hop] at hq;cases hq;rcases hq' with h|h|h<;>cases h)
   ·simp only [beq_iff_eq] at ho1
    obtain ⟨ho1,rfl⟩:=ho1
    have hq:hkind o.op=some .set:=by
     unfold isSet at ho1
     split at ho1
     ·assumption
     ·cases ho1
    have hnp:isPre o=false:=by unfold isPre;rw [hq]
    refine go .set hq (set_len hq h1) ?_
    have e0:∀x:AState,({ x with hp:=x.hp++deads (al.length - al.length) }:AState)=x:=fun x=>by simp [deads]
    rw [e0 s,e0 s1]
    unfold evalR
    cases hc:rcls al o with
    |any=>exact h1
    |pre=>have:=rcls_pre hc;rw [hnp] at this;cases this
    | «at» r =>
     simp only
     rw [hal]
     rcases rcls_at hc with ⟨e,_⟩|⟨_,t,ht,hr⟩
     ·rw [hal] at e;cases e
     ·have hget:=get_idx hr
      have hrl:r<al.length:=(ag.1 hget).1
      obtain ⟨v,hv⟩:∃v,s.sl[t]? = some v:=by
       cases hv:s.sl[t]? with
       |some v=>exact ⟨v,rfl⟩
       |none =>
        exfalso
        have hnone:opnd G s.sl (.tmp t)=none:=by simp only [opnd,hv];rfl
        simp only [evalOper] at h1
        unfold setSlot at ht
        split at ht<;>first|(cases ht;done)|skip
        all_goals
         rename_i hop hgd
         obtain rfl:=ed ht
         rw [hgd] at h1
         simp only [wantedA] at h1
         rw [hop] at h1
         simp only [evalOp,hnone] at h1
         cases h1
      have hp:=hs r t v hrl hget hv
      subst hp
      show evalSet G call base r o s=some s1
      unfold evalSet
      rw [ht]
      simp only
      rw [hv]
      simp only
      rw [if_pos ⟨trivial,hbs⟩]
      exact h1
end
section
variable {P:Program}{G:Nat→Option (List AV)}{call:FuncId→List AV→List AObj→Option (AV×List AObj×Eff)}{E:Entry}{s s':AState}{Γ:Ghost}{a:Act}{w:World}{hand:Nat→Bool}{draw:Bool}{o:Oper}{base:Nat}{al:List Nat}
theorem none_getD {ao:AOp}(h:(cOp P hand draw o).getD .bad=ao)(hb:ao≠.bad):cOp P hand draw o=some ao:=by
 cases hc:cOp P hand draw o with
 |none=>rw [hc] at h;exact absurd h.symm hb
 |some x=>rw [hc] at h;exact congrArg some h
theorem cOp_mk {t:TypeId}{cells:List AV}(h:cOp P hand draw o=some (.mk t cells)):∃z,o.op=.alloc t∧zeroMk P t=some z∧z.cells.all AV.one=true∧cells=z.cells:=by
 unfold cOp at h
 repeat' split at h
 all_goals first
  |(cases h;done)
  |(obtain ⟨_,_,e⟩:=eP.1 h;cases e;done)
  |(cases h;exact ⟨_,by assumption,by assumption,by assumption,rfl⟩)
theorem cOp_box {t:TypeId}{n:Nat}{x:Opnd}(h:cOp P hand draw o=some (.box t n x)):∃x',o.op=.box t x'∧cOpnd P t x'=some x:=by
 unfold cOp at h
 repeat' split at h
 all_goals first
  |(cases h;done)
  |(obtain ⟨_,h1,e⟩:=eP.1 h;cases e;exact ⟨_,by assumption,h1⟩)
  |(obtain ⟨_,h1,e⟩:=eP.1 h;cases e;done)
theorem fill_obj (hI:Inv E s Γ a w){e:TypeId}{v:AV}{cv:Value}{n:Nat}(hd:s.hp[n]? = some .dead)(hb:s.bs≤n)(hr:Rep Γ w v cv)(hl:v.laid=true)(hn:∀k r,v=.own k r→r=[]∧cv=.slice none 0 0) :
  Inv E { s with hp:=s.hp.set n (.cells v.cells e) } (setG Γ w.heap.size (.own n)) a (w.alloc (.cells cv.cells e))∧Rep (setG Γ w.heap.size (.own n)) (w.alloc (.cells cv.cells e)) (.ptr n 0) (.pointer (some ⟨w.heap.size,0,none⟩)):=by
 obtain ⟨a1,a2⟩:=hr.cellsRep hl hn
 have st:=step_alloc hI.rw.fresh (.cells cv.cells e) (.own n)
 refine ⟨hI.fill _ _ hd hb ⟨w.heap.size,cv.cells,setG_same _ _ _,heap_alloc_new w _,a1,fun i c hc=>?_⟩,.ptr _ _ _ (setG_same _ _ _)⟩
 obtain ⟨b1,b2,b3⟩:=a2 i c hc
 exact ⟨b1,b2.mono st.fix st.own,.nil b3⟩
theorem make_ok (hG:GOk G E.W0)(hI:Inv E s Γ a w){g:Option (Nat×Bool)}{r:Nat}{u:AState}(he:evalMake G base r ⟨o.dst,(cOp P hand draw o).getD .bad,g⟩ s=some u){K:Act→World→Prop}{Q:Exit→Act→World→Prop}(hK:∀Γ a w,Inv E u Γ a w→K a w) :
  o.wp P a w K Q:=by
 unfold evalMake at he
 split at he<;>first|(cases he;done)|skip
 rename_i hd
 obtain ⟨hd,hbs⟩:=hd
 have hd':s.hp[base+r]? = some .dead:=by
  unfold isDead at hd
  split at hd
  ·assumption
  ·cases hd
 split at he<;>first|(cases he;done)|skip
 ·rename_i t cells hop
  obtain rfl:=ed he
  obtain ⟨z,h1,h2,h3,rfl⟩:=cOp_mk (none_getD hop (by nofun))
  obtain ⟨i,zv,hi,hzv,hrep⟩:=zeroMk_spec h2
  obtain ⟨k1,k2⟩:=hrep Γ w
  obtain ⟨i1,i2⟩:=fill_obj hI (e := t) hd' (by omega) k1 (laid_of_one h3) k2
  have hrun:(execOp a.eval o).run P w=.ok (.value (.pointer (some ⟨w.heap.size,0,none⟩))) (w.alloc (.cells zv.cells t)):=by
   simp only [execOp,h1]
   simp [Instr.alloc,zeroValue,typeInfo,hi,hzv,newVar,newRow]
  unfold Oper.wp
  rw [hrun]
  obtain ⟨Γ2,j2⟩:=i1.put o.dst i2 (.of_ne (by simp))
  exact hK _ _ _ j2
 ·rename_i t n x hop
  split at he<;>first|(cases he;done)|skip
  rename_i v hv
  split at he<;>first|(cases he;done)|skip
  rename_i hl
  obtain rfl:=ed he
  obtain ⟨x',h1,h2⟩:=cOp_box (none_getD hop (by nofun))
  obtain ⟨k1,k2⟩:=cOpnd_rep hG hI h2 hv
  obtain ⟨i1,i2⟩:=fill_obj hI (e := t) hd' (by omega) k1 hl.2 k2
  have hrun:(execOp a.eval o).run P w=.ok (.value (.pointer (some ⟨w.heap.size,0,none⟩))) (w.alloc (.cells (a.eval x').cells t)):=by
   simp only [execOp,h1]
   simp [Instr.box,newVar,newRow]
  unfold Oper.wp
  rw [hrun]
  obtain ⟨Γ2,j2⟩:=i1.put o.dst i2 (.of_ne (by simp))
  exact hK _ _ _ j2
theorem plain_ok (hG:GOk G E.W0)(hS:CallSpec P E.W0 call){ops:Array Oper}{g:Option (Nat×Bool)}{u:AState}{K:Act→World→Prop}{Q:Exit→Act→World→Prop}(h2:cGuard ops o.guard=some g)
  (he:evalOper G call ⟨o.dst,(cOp P hand draw o).getD .bad,g⟩ s=some u) (hI:Inv E s Γ a w) (hK:∀Γ a w,Inv E u Γ a w→K a w) :
  if Region.wanted o (yielded ops a.tmps)=true then o.wp P a w K Q∨(o.asks P a w∧LetsOut Q) else K (a.put o.dst Go.undef) w:=by
 simp only [evalOper] at he
 split at he<;>first|(cases he;done)|skip
 ·rename_i hw
  rw [wanted_ok hI h2 hw]
  split at he<;>first|(cases he;done)|skip
  rename_i v s2 hev
  obtain rfl:=ed he
  simp only [if_true]
  refine .inl (op_wp hG hS hI (some_of_eval hev) hev fun Γ' cv w' i1 r1 o1=>?_)
  obtain ⟨Γ2,i2⟩:=i1.put o.dst r1 o1
  exact hK _ _ _ i2
 ·rename_i hw
  rw [wanted_ok hI h2 hw]
  obtain rfl:=ed he
  simp only [aK,if_false]
  obtain ⟨Γ2,i2⟩:=hI.put o.dst (v := .undef) (cv := Go.undef) .undef (.of_ne (by simp))
  exact hK _ _ _ i2
theorem operR_ok (hG:GOk G E.W0)(hS:CallSpec P E.W0 (bareCall call)){ops:Array Oper}{g:Option (Nat×Bool)}{u:AState}{K:Act→World→Prop}{Q:Exit→Act→World→Prop}(h2:cGuard ops o.guard=some g)
  (he:evalR G call base al ⟨o.dst,(cOp P hand draw o).getD .bad,g⟩ s=some u) (hI:Inv E s Γ a w) (hK:∀Γ a w,Inv E u Γ a w→K a w) :
  if Region.wanted o (yielded ops a.tmps)=true then o.wp P a w K Q∨(o.asks P a w∧LetsOut Q) else K (a.put o.dst Go.undef) w:=by
 unfold evalR at he
 split at he
 ·
  rename_i hc
  obtain ⟨k,hk,hk'⟩:=isPre_kind (rcls_pre hc)
  refine plain_ok (hand := hand) (draw := draw) hG hS h2 ?_ hI hK
  unfold evalPre at he
  split at he<;>first|(cases he;done)|skip
  rename_i s1 h1
  obtain rfl:=ed he
  show evalOper G (bareCall call) ⟨o.dst,(cOp P hand draw o).getD .bad,g⟩ s=_
  simp only [evalOper] at h1 ⊢
  have wg:∀h,wantedA { s with hp:=h } g=wantedA s g:=fun h=>by cases g<;>rfl
  rw [wg] at h1
  split at h1<;>first|(cases h1;done)|skip
  ·rename_i hw
   split at h1<;>first|(cases h1;done)|skip
   rename_i v s2 hev
   obtain rfl:=ed h1
   obtain ⟨e1,e2,e3,e4⟩:=op_pfx hk hk' hev (Pfx.take base s.hp)
   have e4':evalOp G (bareCall call) s ((cOp P hand draw o).getD .bad)=some (v,{ s2 with hp:=s.hp }):=e4
   rw [e4']
   simp only [putF_eq]
  ·rename_i hw
   obtain rfl:=ed h1
   simp only [putF_eq]
 ·
  split at he
  ·rename_i hal
   have hg:g=none:=by
    unfold isAlloc at hal
    split at hal<;>first|(cases hal;done)|assumption
   subst hg
   have hw:Region.wanted o (yielded ops a.tmps)=true:=wanted_ok hI h2 (b := true) rfl
   rw [hw]
   simp only [if_true]
   exact .inl (make_ok hG hI he hK)
  ·unfold evalSet at he
   split at he<;>first|(cases he;done)|skip
   split at he<;>first|(cases he;done)|skip
   split at he<;>first|(cases he;done)|skip
   exact plain_ok hG hS h2 he hI hK
 ·exact plain_ok hG hS h2 he hI hK
theorem ops_anyR (hG:GOk G E.W0)(hS:CallSpec P E.W0 (bareCall call)){ops:Array Oper}{bops:List AOper}{Q:Exit→Act→World→Prop}{sF:AState}(hc:cOpers P hand draw ops ops.toList=some bops)
  (hord:∀i,i<ops.size→(match ops[i]? with|some o=>o.after.all fun e=>!Region.binds .any e||decide (e.on<i)|none=>false)=true)
  (hpair:∀i,i<ops.size→∀j,j<i→(waitsB ops i j||(match bops[j]?,bops[i]? with|some x,some y=>commR al x y|_,_=>false))=true) (hQ:∀Γ a w,Inv E sF Γ a w→Q .normal a w) :
  ∀(fuel:Nat) {listed:Array Bool} {s:AState} {Γ:Ghost} {a:Act} {w:World},listed.size=ops.size→ClosedL ops listed→(restL ops.size listed).length=fuel→evalRs G call base al ((restL ops.size listed).map fun i=>bops.getD i ⟨none,.bad,none⟩) s=some sF→Inv E s Γ a w→wpAny P .any ops Q fuel listed a w:=by
 obtain ⟨hlen,hget⟩:=cOpers_get hc
 intro fuel
 induction fuel with
 |zero =>
  intro listed s Γ a w hsz hcl hl h hI
  have hn:=bg hl
  rw [hn] at h
  obtain rfl:=ed (by simpa [evalRs] using h:some s=some sF)
  refine ⟨gY.2 fun i hi=>?_,hQ _ _ _ hI⟩
  obtain ⟨h1,o,h2,_⟩:=mem_ready.1 hi
  have:i∈restL ops.size listed:=mem_restL.2 ⟨(fC.1 h2).1,h1⟩
  rw [hn] at this
  cases this
 |succ fuel ih =>
  intro listed s Γ a w hsz hcl hl h hI
  have hlisted:∀j,j<ops.size→listed.getD j true≠false→listed.getD j false=true:=fun j hj h=>by
   have hj':j<listed.size:=by omega
   simp [hj'] at h ⊢;exact h
  refine ⟨fun hr=>?_,fun i hi=>?_⟩
  ·obtain ⟨i,r,hir⟩:∃i r,restL ops.size listed=i::r:=by
    cases hx:restL ops.size listed with
    |nil=>rw [hx] at hl;cases hl
    |cons i r=>exact ⟨i,r,rfl⟩
   have him:=mem_restL.1 (show i∈restL ops.size listed by rw [hir];exact aj ..)
   have hoi:ops[i]? = some ops[i]:=aG him.1
   have hready:i∈Region.ready .any ops listed:=by
    refine mem_ready.2 ⟨him.2,_,hoi,fun e he hb=>?_⟩
    have:=hord i him.1
    rw [hoi] at this
    have hlt:=fD.1 this e he
    rw [hb] at hlt
    simp only [fF,fJ,decide_eq_true_eq] at hlt
    refine hlisted e.on (by omega) fun hun=>?_
    have hm:=mem_restL.2 ⟨show e.on<ops.size by omega,hun⟩
    rw [hir] at hm
    have hs:=restL_sorted ops.size listed
    rw [hir] at hs
    rcases gZ.1 hm with he|hm
    ·omega
    ·have:=(gJ.1 hs).1 _ hm
     omega
   rw [hr] at hready
   cases hready
  ·obtain ⟨hun,o,ho,hdeps⟩:=mem_ready.1 hi
   have hin:=(fC.1 ho).1
   obtain ⟨l1,l2,hsplit⟩:=gm (mem_restL.2 ⟨hin,hun⟩)
   have hs:=restL_sorted ops.size listed
   rw [hsplit] at hs
   obtain ⟨g,hg1,hg2⟩:=hget i o (by simpa using ho)
   have hbi:bops.getD i ⟨none,.bad,none⟩=⟨o.dst,(cOp P hand draw o).getD .bad,g⟩:=by rw [au,hg2];rfl
   have hcomm:∀x∈l1.map (fun i=>bops.getD i ⟨none,.bad,none⟩),commR al x ⟨o.dst,(cOp P hand draw o).getD .bad,g⟩=true:=fun x hx=>by
    obtain ⟨j,hj,rfl⟩:=dD.1 hx
    have hji:j<i:=(gI.1 hs).2.2 j hj i (aj ..)
    have hjm:=mem_restL.1 (show j∈restL ops.size listed by rw [hsplit];exact fU _ hj)
    have:=hpair i hin j hji
    rw [aJ] at this
    rcases this with h1|h1
    ·exfalso
     have h2:=hcl.ready ho hdeps (waits_of h1)
     rw [getD_both' hjm.2] at h2
     cases h2
    ·rw [hg2] at h1
     split at h1
     ·rename_i x y hx hy
      cases hy
      rw [au,hx]
      exact h1
     ·cases h1
   rw [hsplit,gp,cO,hbi] at h
   obtain ⟨u,hu1,hu2⟩:=bubbleR hcomm h
   rw [← gp,← restL_set hsplit (by omega)] at hu2
   have hlen2:(restL ops.size (listed.setIfInBounds i true)).length=fuel:=by
    rw [restL_set hsplit (by omega)]
    rw [hsplit] at hl
    simp at hl ⊢
    omega
   unfold wpOp
   simp only [ho]
   exact operR_ok hG hS hg1 hu1 hI fun Γ' a' w' hI'=>ih (by simp [hsz]) (hcl.list ho hdeps) hlen2 hu2 hI'
theorem Inv.keepFree (h:Inv E s Γ a w)(n:Nat):Inv E { s with hp:=s.hp++deads n } Γ a w:=by
 refine ⟨h.defers,h.slots,⟨fun g o hg=>?_,h.rw.inj,h.rw.fresh,fun b g hb=>?_,h.rw.old,h.rw.oldImm,fun g hg b hb=>?_⟩,h.fr,h.base,h.base2,?_,h.back⟩
 ·rw [aW] at hg
  split at hg
  ·exact h.rw.objs g o hg
  ·have:=gq (aS hg)
   subst this
   trivial
 ·have:=h.rw.lt b g hb
  simp only [aZ]
  omega
 ·have:=h.rw.lt b g hb
  rw [bK this] at hg
  exact h.rw.dead g hg b hb
 ·have:=h.le
  simp only [aZ]
  omega
theorem opsB_any (hG:GOk G E.W0)(hS:CallSpec P E.W0 (bareCall call)){ops:Array Oper}{bops:List AOper}{Q:Exit→Act→World→Prop}{sF:AState}(hc:cOpers P hand draw ops ops.toList=some bops)(hd:drawOk2 ops bops=true)(hQ:∀Γ a w,Inv E sF Γ a w→Q .normal a w)
  (h:evalOps G (bareCall call) bops s=some sF) (hI:Inv E s Γ a w):wpAny P .any ops Q ops.size (fE ops.size false) a w:=by
 simp only [drawOk2,fG,aQ,gX] at hd
 obtain ⟨⟨⟨⟨hord,_⟩,hok⟩,hnd⟩,hpair⟩:=hd
 have hr:restL ops.size (fE ops.size false)=ah ops.size:=by
  unfold restL
  refine gW.2 fun i hi=>?_
  simp only [gX] at hi
  simp [hi]
 have hmap:(ah ops.size).map (fun i=>bops.getD i ⟨none,.bad,none⟩)=bops:=by
  have hl:ops.size=bops.length:=by simpa using (cOpers_get hc).1
  rw [hl]
  refine fM fun i=>?_
  rw [aP]
  by_cases hi:i<bops.length
  ·rw [bF hi,eX,au,bG hi];rfl
  ·rw [aX (by simpa using hi),aX (by omega)];rfl
 have hs:=sim (base := s.hp.length) hnd hok (Nat.zero_le _) h hI.le rfl (fun r t v hr=>absurd hr (gz _))
 exact ops_anyR hG hS hc hord hpair hQ ops.size (by simp) (.start ops _) (by rw [hr];simp) (by rw [hr,hmap];exact hs) (hI.keepFree _)
end
section
variable {P:Program}{G:Nat→Option (List AV)}{call:FuncId→List AV→List AObj→Option (AV×List AObj×Eff)}{E:Entry}{s s':AState}{Γ:Ghost}{a:Act}{w:World}{hand:Nat→Bool}{draw:Bool}
def Ends (E:Entry)(r:AExit×AState)(e:Exit)(a:Act)(w:World):Prop :=
 (match r.1,e with
  |.normal,.normal=>True
  |.exit i,.exit j=>i=j
  |.ret,.ret=>True
  |_,_=>False)∧∃Γ,Inv E r.2 Γ a w
theorem Ends.normal {s:AState}{Γ:Ghost}{a:Act}{w:World}(h:Inv E s Γ a w):Ends E (.normal,s) .normal a w:=⟨trivial,Γ,h⟩
theorem iter_wp {c:Code}{f:AState→Option (AExit×AState)}(ih:∀{s:AState} {r:AExit×AState} {Γ:Ghost} {a:Act} {w:World},f s=some r→Inv E s Γ a w→c.wp P (Ends E r) a w) :
  ∀(n:Nat) {s:AState} {r:AExit×AState} {Γ:Ghost} {a:Act} {w:World},iter f n s=some r→Inv E s Γ a w→Code.rounds P c (Ends E r) n a w
 |0,_,_,_,_,_,h,_=>by cases h
 |n+1,s,r,Γ,a,w,h,hI=>by
  rw [rounds_succ]
  simp only [iter] at h
  split at h
  ·rename_i s1 h1
   refine Go.wp_mono (ih h1 hI) fun e a' w' he=>?_
   obtain ⟨k1,Γ',i1⟩:=he
   cases e<;>first|exact k1.elim|skip
   exact iter_wp ih n h i1
  ·rename_i hne
   refine Go.wp_mono (ih h hI) fun e a' w' he=>?_
   cases e<;>first|exact he|skip
   obtain ⟨k1,_⟩:=he
   obtain ⟨x,s1⟩:=r
   cases x<;>first|exact k1.elim|skip
   exact absurd h (hne s1)
theorem code_wp (hm:P.follows .mixedOrders=true)(hG:GOk G E.W0)(hS:CallSpec P E.W0 call)(hB:CallSpec P E.W0 (bareCall call)){takes:FuncId→List Nat}{res:List Nat}(L:Nat):∀{c:Code} {ac:ACode} {s:AState} {r:AExit×AState} {Γ:Ghost} {a:Act} {w:World},
  cCode P takes res c=some ac→evalCode G call L ac s=some r→Inv E s Γ a w→c.wp P (Ends E r) a w:=by
 intro c
 induction c with
 |skip =>
  intro ac s r Γ a w hc h hI
  cases hc;cases h
  exact Go.wp_skip (.normal hI)
 |region id ops draw =>
  intro ac s r Γ a w hc h hI
  cases draw with
  |false =>
   simp only [cCode] at hc
   obtain ⟨aops,h1,rfl⟩:=eP.1 hc
   simp only [evalCode] at h
   obtain ⟨s1,h2,rfl⟩:=eP.1 h
   refine wp_region ?_
   rw [List.range_eq_range']
   have:=ops_wp hG hS (Q := Ends E (.normal,s1)) 0 (l := ops.toList) (by simp) h1 h2 hI fun Γ a w h=>.normal h
   simpa using this
  |true =>
   simp only [cCode] at hc
   split at hc<;>first|(cases hc;done)|skip
   rename_i aops bops h1 h1'
   split at hc
   ·rename_i hq
    simp only [fG] at hq
    cases hc
    generalize pinFrom ops ops.size=n at *
    simp only [evalCode] at h
    have hl:ops.size=bops.length:=by simpa using (cOpers_get h1').1
    have hnle:n≤ops.size:=by
     have:=hq.2
     simp only [pinOk,fG,decide_eq_true_eq] at this
     exact this.1.1.2
    cases h2:evalOps G (quietCall call) (bops.take n) s with
    |none=>rw [h2] at h;simp at h
    |some s1 =>
     rw [h2] at h
     simp only [eX] at h
     obtain ⟨s2,h3,rfl⟩:=eP.1 h
     refine wp_region_any hm ?_
     have hb:Behind w { w with drawn:=w.drawn+1 }:=⟨rfl,rfl,rfl,dI _,fun _ _=>rfl⟩
     have hrep:∀i,i<ops.size→(fE ops.size false).getD i true=false:=fun i hi=>by simp [hi]
     have hr:restL n (fE ops.size false)=ah n:=by
      unfold restL
      refine gW.2 fun i hi=>?_
      simp only [gX] at hi
      rw [hrep i (by omega)];rfl
     have hr2:restS n ops.size (fE ops.size false)=(ah ops.size).drop n:=by
      unfold restS
      rw [show (ah ops.size)=ah n++(ah ops.size).drop n from by
       rw [show ah n=(ah ops.size).take n from by rw [gu,Nat.min_eq_left hnle],List.take_append_drop]]
      rw [gU,List.filter_eq_nil_iff.2 (fun i hi=>by
       simp only [gX] at hi
       have:¬n≤i:=by omega
       simp [this]),bn]
      rw [List.drop_append_of_le_length (by simp),show (ah n).drop n=[] from by simp,bn]
      refine gW.2 fun i hi=>?_
      obtain ⟨k,hk⟩:=bP.1 hi
      rw [bI] at hk
      have hlt:=(ag.1 hk).1
      rw [bF (by simpa using hlt)] at hk
      cases hk
      simp only [List.length_range] at hlt
      rw [hrep _ hlt];simp
     have hmap:(ah ops.size).map (fun i=>bops.getD i ⟨none,.bad,none⟩)=bops:=by
      rw [hl]
      refine fM fun i=>?_
      rw [aP]
      by_cases hi:i<bops.length
      ·rw [bF hi,eX,au,bG hi];rfl
      ·rw [aX (by simpa using hi),aX (by omega)];rfl
     refine ops_pin hG hS (n := n) (Q := Ends E (.normal,s2)) h1' hq.2 (fun Γ a w h=>.normal h) ops.size (s1 := s1) (by simp) (.start ops _) (by rw [hr,hr2];simp;omega) ?_ ?_ (hb.inv hI)
     ·rw [hr,show ah n=(ah ops.size).take n from by rw [gu,Nat.min_eq_left hnle],List.map_take,hmap];exact h2
     ·rw [hr2,List.map_drop,hmap];exact h3
   split at hc
   ·rename_i hd
    rw [fG] at hd
    cases hc
    simp only [evalCode] at h
    obtain ⟨s1,h2,rfl⟩:=eP.1 h
    refine wp_region_any hm ?_
    have hb:Behind w { w with drawn:=w.drawn+1 }:=⟨rfl,rfl,rfl,dI _,fun _ _=>rfl⟩
    exact opsB_any hG hB (Q := Ends E (.normal,s1)) h1' hd.2 (fun Γ a w h=>.normal h) h2 (hb.inv hI)
   split at hc
   ·rename_i hq
    simp only [fG] at hq
    cases hc
    simp only [evalCode] at h
    obtain ⟨s1,h2,rfl⟩:=eP.1 h
    refine wp_region_quiet (C := Behind w) hm hq.1 ⟨rfl,rfl,rfl,dI _,fun _ _=>rfl⟩ ?_
    exact ops_quiet hG hS h1 hq.2 h2 hI fun Γ a w h=>.normal h
   ·split at hc
    ·rename_i hd
     cases hc
     simp only [evalCode] at h
     obtain ⟨s1,h2,rfl⟩:=eP.1 h
     refine wp_region_any hm ?_
     have hb:Behind w { w with drawn:=w.drawn+1 }:=⟨rfl,rfl,rfl,dI _,fun _ _=>rfl⟩
     have hr:restL ops.size (fE ops.size false)=ah ops.size:=by
      unfold restL
      refine gW.2 fun i hi=>?_
      simp only [gX] at hi
      simp [hi]
     have hmap:(ah ops.size).map (fun i=>bops.getD i ⟨none,.bad,none⟩)=bops:=by
      have hl:ops.size=bops.length:=by simpa using (cOpers_get h1').1
      rw [hl]
      refine fM fun i=>?_
      rw [aP]
      by_cases hi:i<bops.length
      ·rw [bF hi,eX,au,bG hi];rfl
      ·rw [aX (by simpa using hi),aX (by omega)];rfl
     exact ops_any hG hS (Q := Ends E (.normal,s1)) h1' hd (fun Γ a w h=>.normal h) ops.size (by simp) (.start ops _) (by rw [hr];simp) (by rw [hr,hmap];exact h2) (hb.inv hI)
    ·split at hc
     ·rename_i hd
      cases hc
      simp only [evalCode] at h
      obtain ⟨s1,h2,rfl⟩:=eP.1 h
      refine wp_region_any hm ?_
      have hb:Behind w { w with drawn:=w.drawn+1 }:=⟨rfl,rfl,rfl,dI _,fun _ _=>rfl⟩
      exact opsB_any hG hB (Q := Ends E (.normal,s1)) h1' hd (fun Γ a w h=>.normal h) h2 (hb.inv hI)
     ·cases hc;cases h
 |seq x y ihx ihy =>
  intro ac s r Γ a w hc h hI
  simp only [cCode] at hc
  split at hc<;>first|(cases hc;done)|skip
  rename_i ax ay hx hy
  obtain rfl:=ed hc
  simp only [evalCode] at h
  refine Go.wp_seq ?_
  split at h
  ·rename_i s1 h1
   refine Go.wp_mono (ihx hx h1 hI) fun e a' w' he=>?_
   obtain ⟨k1,Γ',i1⟩:=he
   cases e<;>first|exact k1.elim|skip
   exact ihy hy h i1
  ·rename_i hne
   refine Go.wp_mono (ihx hx h hI) fun e a' w' he=>?_
   cases e<;>first|exact he|skip
   obtain ⟨k1,_⟩:=he
   obtain ⟨q,s1⟩:=r
   cases q<;>first|exact k1.elim|skip
   exact absurd h (hne s1)
 |cond c x y ihx ihy =>
  intro ac s r Γ a w hc h hI
  simp only [cCode] at hc
  split at hc<;>first|(cases hc;done)|skip
  rename_i c' ax ay hcc hx hy
  obtain rfl:=ed hc
  simp only [evalCode] at h
  split at h<;>first|(cases h;done)|skip
  ·rename_i hb
   have k:=(cOpnd_rep hG hI hcc hb).1
   generalize hq:a.eval c=q at k
   cases k
   exact Go.wp_cond_true hq (ihx hx h hI)
  ·rename_i hb
   have k:=(cOpnd_rep hG hI hcc hb).1
   generalize hq:a.eval c=q at k
   cases k
   exact Go.wp_cond_false hq (ihy hy h hI)
 |block id c ih =>
  intro ac s r Γ a w hc h hI
  simp only [cCode] at hc
  obtain ⟨ax,hx,rfl⟩:=eP.1 hc
  simp only [evalCode] at h
  refine Go.wp_block ?_
  split at h
  ·rename_i i s1 h1
   split at h
   ·rename_i hi
    obtain rfl:=ed h
    refine Go.wp_mono (ih hx h1 hI) fun e a' w' he=>?_
    obtain ⟨k1,Γ',i1⟩:=he
    cases e<;>first|exact k1.elim|skip
    rename_i j
    simp only [Exit.inBlock]
    rw [if_pos (by rw [← hi];exact (show i=j from k1).symm)]
    exact .normal i1
   ·rename_i hi
    obtain rfl:=ed h
    refine Go.wp_mono (ih hx h1 hI) fun e a' w' he=>?_
    obtain ⟨k1,Γ',i1⟩:=he
    cases e<;>first|exact k1.elim|skip
    rename_i j
    simp only [Exit.inBlock]
    rw [if_neg (by rw [← (show i=j from k1)];exact hi)]
    exact ⟨k1,Γ',i1⟩
  ·rename_i hne
   refine Go.wp_mono (ih hx h hI) fun e a' w' he=>?_
   cases e<;>first|exact he|skip
   obtain ⟨k1,_⟩:=he
   obtain ⟨q,s1⟩:=r
   cases q<;>first|exact k1.elim|skip
   exact absurd h (hne _ s1)
 |loop c ih =>
  intro ac s r Γ a w hc h hI
  simp only [cCode] at hc
  obtain ⟨ax,hx,rfl⟩:=eP.1 hc
  simp only [evalCode] at h
  exact wp_loop_rounds L (iter_wp (fun h1 h2=>ih hx h1 h2) L h hI)
 |scope c ih =>
  intro ac s r Γ a w hc h hI
  simp only [cCode] at hc
  obtain ⟨ax,hx,rfl⟩:=eP.1 hc
  simp only [evalCode] at h
  refine Go.wp_scope_straight (Go.wp_mono (ih hx h hI) fun e a' w' he=>?_)
  cases e<;>first|exact he|skip
  obtain ⟨k1,_⟩:=he
  obtain ⟨q,s1⟩:=r
  cases q<;>exact k1.elim
 |exit id =>
  intro ac s r Γ a w hc h hI
  cases hc;cases h
  exact Go.wp_exit ⟨rfl,Γ,hI⟩
 |ret =>
  intro ac s r Γ a w hc h hI
  cases hc;cases h
  exact Go.wp_ret ⟨trivial,Γ,hI⟩
 |label l =>
  intro ac s r Γ a w hc h hI
  cases hc;cases h
  exact Go.wp_label (.normal hI)
 |_ =>
  intro ac s r Γ a w hc h
  cases hc;cases h
end
section
variable {P:Program}{G:Nat→Option (List AV)}{E:Entry}{s:AState}{Γ:Ghost}{a:Act}{w:World}
def resRun (tmps:Array Value):ResultVar→Sem Value
 |.tmp t=>pure (tmps.getD t Go.undef)
 |.cell x t=>do loadVar t (← asAddr (tmps.getD x Go.undef))
def packed:List Value→Value
 | [v]=>v
 |vs=>.tuple vs.toArray
theorem results_run {fn:Func}{tmps:Array Value}{vs:List Value}(h:(fn.results.toList.mapM (resRun tmps)).run P w=.ok vs w):(results fn tmps).run P w=.ok (packed vs) w:=by
 have e0:results fn tmps=(do let vs ← fn.results.mapM (resRun tmps);pure (if h:vs.size=1 then vs[0] else .tuple vs)):=by
  unfold results
  congr 1
 rw [e0]
 obtain ⟨l,hl⟩:∃l,fn.results=⟨l⟩:=⟨fn.results.toList,rfl⟩
 rw [hl] at h ⊢
 have e:((⟨l⟩:Array ResultVar).mapM (resRun tmps)).run P w=.ok vs.toArray w:=by
  rw [List.mapM_toArray,map_eq_pure_bind,Sem.run_bind,h]
  rfl
 rw [Sem.run_bind,e]
 simp only [Result.andThen_ok,Sem.run_pure]
 cases vs with
 |nil=>rfl
 |cons v vs=>cases vs<;>rfl
theorem res_one (hI:Inv E s Γ a w){r:ResultVar}{ar:ARes}{v:AV}(hc:cRes P r=some ar)(h:resVal s ar=some v) :
  ∃cv,(resRun a.tmps r).run P w=.ok cv w∧Rep Γ w v cv∧((∃t,cv=a.tmps.getD t Go.undef∧s.sl[t]? = some v)∨∀k r,v≠.own k r):=by
 cases r with
 |tmp t =>
  obtain rfl:=ed hc
  exact ⟨a.tmps.getD t Go.undef,rfl,hI.slots.rep t v h,.inl ⟨t,rfl,h⟩⟩
 |cell t ty =>
  simp only [cRes] at hc
  split at hc
  ·rename_i hag
   obtain rfl:=ed hc
   simp only [resVal] at h
   split at h<;>first|(cases h;done)|skip
   rename_i x hx
   obtain ⟨b,off,cv,e,hl,hcell,hr,hn⟩:=lda_run hI (hI.slots.rep t x hx) h
   have hu:=isAggB_some hag
   obtain ⟨i,hi⟩:=info_of_underlying hu
   have hld:=run_loadCells_list (P := P) w ⟨b,off,none⟩ cv (fun j y hj=>by rw [add_lit];exact hcell j y hj)
   rw [hl] at hld
   refine ⟨_,?_,hr,.inr hn⟩
   simp only [resRun,e]
   simp [asAddr,loadVar,isAgg_run hag hu,sizeOf_run hi,hld]
  ·rename_i hag
   split at hc<;>first|(cases hc;done)|skip
   rename_i hu
   obtain rfl:=ed hc
   simp only [resVal] at h
   split at h<;>first|(cases h;done)|skip
   rename_i x hx
   obtain ⟨b,off,cv,e,hcell,hr,hn⟩:=ldc_run hI (hI.slots.rep t x hx) h
   refine ⟨cv,?_,hr,.inr hn⟩
   simp only [resRun,e]
   simp [asAddr,loadVar,isAgg_run (by simpa using hag) hu,hcell]
theorem res_all (hI:Inv E s Γ a w):∀{rs:List ResultVar} {ars:List ARes} {vs:List AV},cRess P rs=some ars→resVals s ars=some vs →
  ∃cvs:List Value,(rs.mapM (resRun a.tmps)).run P w=.ok cvs w∧cvs.length=vs.length∧ars.length=rs.length∧∀(j:Nat) (x:AV),vs[j]? = some x→∃u,cvs[j]? = some u∧Rep Γ w x u
 | [],ars,vs,hc,h=>by
  cases hc;cases h
  exact ⟨[],rfl,rfl,rfl,fun j x hx=>by simp at hx⟩
 |r::rs,ars,vs,hc,h=>by
  simp only [cRess] at hc
  split at hc<;>first|(cases hc;done)|skip
  rename_i ar l h1 h2
  obtain rfl:=ed hc
  simp only [resVals] at h
  split at h<;>first|(cases h;done)|skip
  rename_i v vs' h3 h4
  obtain rfl:=ed h
  obtain ⟨cv,e1,r1,_⟩:=res_one hI h1 h3
  obtain ⟨cvs,e2,e3,e4,e5⟩:=res_all hI h2 h4
  refine ⟨cv::cvs,?_,by simp [e3],by simp [e4],fun j x hx=>?_⟩
  ·rw [gy]
   simp only [Sem.run_bind,e1,Result.andThen_ok,e2]
   rfl
  ·cases j with
   |zero=>obtain rfl:=ed hx;exact ⟨cv,rfl,r1.nm⟩
   |succ j =>
    obtain ⟨u,hu,hr⟩:=e5 j x (by simpa using hx)
    exact ⟨u,by simpa using hu,hr⟩
theorem res_ok (hI:Inv E s Γ a w){fn:Func}{rs:List ARes}{v:AV}(hc:cRess P fn.results.toList=some rs)(h:resultOf s rs=some v) :
  ∃cv Γ',(results fn a.tmps).run P w=.ok cv w∧RW E.W0 Γ' w s.hp∧Frame E.Γ0 E.w0 Γ' w s.ef∧Rep Γ' w v cv∧OwnAt Γ' w .res v cv∧∀b g,Γ' b=.own g→g<s.bs→E.Γ0 b=.own g:=by
 have many:∀vs,resVals s rs=some vs→v=.tup vs→rs.length≠1→∃cv Γ',(results fn a.tmps).run P w=.ok cv w∧RW E.W0 Γ' w s.hp∧Frame E.Γ0 E.w0 Γ' w s.ef∧Rep Γ' w v cv∧OwnAt Γ' w .res v cv∧∀b g,Γ' b=.own g→g<s.bs→E.Γ0 b=.own g:=by
  intro vs hvs hv hne
  obtain ⟨cvs,e2,e3,e4,e5⟩:=res_all hI hc hvs
  have hr:=results_run e2
  have hvl:vs.length=rs.length:=by
   clear hc e2 e3 e4 e5 hr hv hne h
   induction rs generalizing vs with
   |nil=>cases hvs;rfl
   |cons r rs ih =>
    simp only [resVals] at hvs
    split at hvs<;>first|(cases hvs;done)|skip
    rename_i h1 h2
    obtain rfl:=ed hvs
    simp [ih _ h2]
  subst hv
  refine ⟨.tuple cvs.toArray,Γ,?_,hI.rw,hI.fr,.tup vs _ (by simpa using e3) (fun j x hx=>?_),.of_ne (by simp),hI.back⟩
  ·rw [hr]
   cases cvs with
   |nil=>rfl
   |cons u cvs =>
    cases cvs with
    |nil=>simp at e3;omega
    |cons _ _=>rfl
  ·obtain ⟨u,hu,hr⟩:=e5 j x hx
   rw [aA,List.getElem?_toArray,hu]
   exact hr
 cases rs with
 |nil =>
  simp only [resultOf] at h
  obtain ⟨vs,hvs,e⟩:=eP.1 h
  exact many vs hvs e.symm (by simp)
 |cons r rs =>
  cases rs with
  |cons r' rs =>
   simp only [resultOf] at h
   obtain ⟨vs,hvs,e⟩:=eP.1 h
   exact many vs hvs e.symm (by simp)
  |nil =>
   simp only [resultOf] at h
   cases hl:fn.results.toList with
   |nil=>rw [hl] at hc;cases hc
   |cons q qs =>
    rw [hl] at hc
    simp only [cRess] at hc
    split at hc<;>first|(cases hc;done)|skip
    rename_i ar l h1 h2
    obtain ⟨rfl,rfl⟩:=List.cons.inj (ed hc)
    have hqs:qs=[]:=by
     cases qs with
     |nil=>rfl
     |cons _ _ =>
      simp only [cRess] at h2
      split at h2<;>simp at h2
    subst hqs
    obtain ⟨cv,e1,r1,hown⟩:=res_one hI h1 h
    have hrun:=results_run (fn := fn) (tmps := a.tmps) (P := P) (w := w) (vs := [cv]) (by
     rw [hl,gy]
     simp only [Sem.run_bind,e1,Result.andThen_ok]
     rfl)
    rcases hown with ⟨t,rfl,ht⟩|hn
    ·obtain ⟨Γ',i1,r1,o1⟩:=hI.take t ht
     exact ⟨_,Γ',hrun,i1.rw,i1.fr,r1,o1,i1.back⟩
    ·exact ⟨_,Γ,hrun,hI.rw,hI.fr,r1,.of_ne hn,hI.back⟩
end
def dropK (bs:Nat):Kind→Kind
 |.own g=>if g<bs then .own g else .imm
 |.list n (.cell g i)=>if g<bs then .list n (.cell g i) else .imm
 |k=>k
theorem dropK_fix {bs o:Nat}{k:Kind}(h:FixedK o k):FixedK o (dropK bs k):=by
 cases k with
 |imm=>trivial
 |own g=>exact h.elim
 |list m l =>
  cases l<;>simp only [dropK]<;>first|exact h|skip
  split
  ·exact h
  ·trivial
theorem dropK_own {bs g:Nat}{k:Kind}(h:dropK bs k=.own g):k=.own g∧g<bs:=by
 cases k with
 |imm=>cases h
 |own g' =>
  simp only [dropK] at h
  split at h
  ·rename_i hl;cases h;exact ⟨rfl,hl⟩
  ·cases h
 |list m l =>
  cases l<;>simp only [dropK] at h<;>first|(cases h;done)|skip
  split at h<;>cases h
theorem mapM_get {α β:Type}{f:α→Option β}:∀{l:List α} {r:List β},l.mapM f=some r→r.length=l.length∧∀(j:Nat) (y:β),r[j]? = some y→∃x,l[j]? = some x∧f x=some y
 | [],r,h=>by
  simp only [List.mapM_nil] at h
  obtain rfl:=ed h
  exact ⟨rfl,fun j y hy=>by simp at hy⟩
 |x::l,r,h=>by
  rw [gy] at h
  cases hx:f x with
  |none=>rw [hx] at h;cases h
  |some y =>
   cases hl:l.mapM f with
   |none=>rw [hx,hl] at h;cases h
   |some ys =>
    rw [hx,hl] at h
    obtain rfl:=ed h
    obtain ⟨e1,e2⟩:=mapM_get hl
    refine ⟨by simp [e1],fun j z hz=>?_⟩
    cases j with
    |zero=>obtain rfl:=ed hz;exact ⟨x,rfl,hx⟩
    |succ j =>
     obtain ⟨x',h1,h2⟩:=e2 j z (by simpa using hz)
     exact ⟨x',by simpa using h1,h2⟩
section
variable {W0 w:World}{Γ Γ':Ghost}{hp:List AObj}{bs:Nat}
theorem noId_ro {x:AV}{v:Value}(hf:FixMono Γ w Γ' w)(h:Rep Γ w x v)(hn:x.noId1=true):Rep Γ' w x.ro v:=(h.noId hf hn).ro
theorem OwnAt.fix {w':World}{l l':Loc}{x:AV}{v:Value}(hf:FixMono Γ w Γ' w')(hb:∀b n,Γ b=.list n l→Γ' b=.list n l'∧w'.heap[b]? = w.heap[b]?)(h:OwnAt Γ w l x v):OwnAt Γ' w' l' x v:=by
 intro k rows e
 rcases h k rows e with h|⟨b,cap,e,cur,hv,hg,hh,h1,h2,h3,h4,h5⟩
 ·exact .inl h
 ·obtain ⟨g1,g2⟩:=hb b _ hg
  exact .inr ⟨b,cap,e,cur,hv,g1,g2.trans hh,h1,h2,h3,h4,fun i j r c a1 a2=>⟨(h5 i j r c a1 a2).1,(h5 i j r c a1 a2).2.noId hf (h5 i j r c a1 a2).1⟩⟩
theorem frz1_ok (hr:RW W0 Γ w hp):∀(d:Nat) {v v':AV} {cv:Value},frz1 bs hp d v=some v'→Rep Γ w v cv→Rep (fun b=>dropK bs (Γ b)) w v' cv∧(∀k r,v'≠.own k r)∧(v.one=true→v'.one=true):=by
 have hf:FixMono Γ w (fun b=>dropK bs (Γ b)) w:=fun _ _ _ h1 h2=>⟨dropK_fix h1,h2⟩
 have hown:∀b g,Γ b=.own g→g<bs→dropK bs (Γ b)=.own g:=fun b g h hg=>by simp [h,dropK,hg]
 intro d
 induction d with
 |zero =>
  intro v v' cv h hv
  cases v<;>simp only [frz1] at h
  case arr g off len k =>
   split at h<;>first|(cases h;done)|skip
   rename_i hg
   obtain rfl:=ed h
   cases hv with
   |arr _ _ _ _ cap b hb hc=>exact ⟨.arr _ _ _ _ cap b (hown b g hb hg) hc,by simp,fun h=>h⟩
  case ptr g o =>
   split at h<;>first|(cases h;done)|skip
   rename_i hg
   obtain rfl:=ed h
   cases hv with
   |ptr _ _ b hb=>exact ⟨.ptr _ _ b (hown b g hb hg),by simp,fun h=>h⟩
  case map g =>
   split at h<;>first|(cases h;done)|skip
   rename_i hg
   obtain rfl:=ed h
   cases hv with
   |map _ b hb=>exact ⟨.map _ b (hown b g hb hg),by simp,fun h=>h⟩
  case agg=>cases h
  case tup=>cases h
  case fn f a cs =>
   split at h<;>first|(cases h;done)|skip
   rename_i hg
   obtain rfl:=ed h
   refine ⟨?_,by simp,fun h=>h⟩
   have:=hv.noId hf (by simpa [AV.noId1] using hg)
   obtain ⟨rfl,rfl⟩:a=[]∧cs=[]:=by simpa using hg
   exact this
  case undef=>cases h;cases hv;exact ⟨.undef,by simp [AV.ro],fun h=>h⟩
  all_goals
   obtain rfl:=ed h
   exact ⟨noId_ro hf hv rfl,fun _ _=>ro_ne_own,fun h=>by rw [one_ro];exact h⟩
 |succ d ih =>
  intro v v' cv h hv
  cases v<;>simp only [frz1] at h
  case arr g off len k =>
   split at h
   ·rename_i hg
    obtain rfl:=ed h
    cases hv with
    |arr _ _ _ _ cap b hb hc=>exact ⟨.arr _ _ _ _ cap b (hown b g hb hg) hc,by simp,fun h=>h⟩
   ·rename_i hg
    split at h<;>first|(cases h;done)|skip
    rename_i cs t hobj
    split at h<;>first|(cases h;done)|skip
    rename_i hfit
    obtain ⟨cs',h1,h2⟩:=Option.bind_eq_some_iff.1 h
    split at h2<;>first|(cases h2;done)|skip
    rename_i hid
    obtain rfl:=ed h2
    obtain ⟨m1,m2⟩:=mapM_get h1
    cases hv with
    |arr _ _ _ _ cap b hb hc =>
     obtain ⟨b',C,o1,o2,o3,o4⟩:=hr.objs g _ hobj
     obtain rfl:=hr.inj b b' g hb o1
     have hlen:cs'.length=len*k:=by rw [m1];simp;omega
     have hrow:∀(i:Nat) (r:List AV),(chunk k len cs')[i]? = some r→i<len∧r.length=k∧∀(j:Nat) (c:AV),r[j]? = some c→j<k∧cs'[i*k+j]? = some c:=by
      intro i r hi
      have hil:=Zq hi
      rw [chunk_length] at hil
      have he:=chunk_get k len _ i r hi
      have hle:(i+1)*k≤len*k:=Nat.mul_le_mul_right k hil
      rw [Nat.add_mul,Nat.one_mul] at hle
      refine ⟨hil,by rw [he];simp;omega,fun j c hj=>?_⟩
      rw [he,bH] at hj
      split at hj
      ·rename_i hjk
       refine ⟨hjk,?_⟩
       rw [bI] at hj
       exact hj
      ·cases hj
     have hcell:∀(p:Nat) (c:AV),cs'[p]? = some c→off+p<C.size∧Rep (fun b=>dropK bs (Γ b)) w c (C.getD (off+p) Go.undef)∧c.noId1=true:=by
      intro p c hp
      obtain ⟨x,x1,x2⟩:=m2 p c hp
      have hpl:=Zq hp
      rw [bH,if_pos (by omega),bI] at x1
      obtain ⟨_,q2,_⟩:=o4 _ x x1
      exact ⟨by omega,(ih x2 q2).1,aQ.1 hid c (aS hp)⟩
     refine ⟨?_,by simp,fun _=>rfl⟩
     have hl:(chunk k len cs').length=len:=chunk_length k len cs'
     have key:=Rep.lst (Γ := fun b=>dropK bs (Γ b)) (w := w) k (chunk k len cs') b off cap (fun i j=>C.getD (off+(i*k+j)) Go.undef) (by rw [hl];exact hc) (fun r hr=>?_) (fun i j r c hi hj=>?_) (fun i j r c hi hj=>?_)
     ·rw [hl] at key;exact key
     ·obtain ⟨i,hi⟩:=bP.1 hr
      exact (hrow i r hi).2.1
     ·obtain ⟨_,_,h3⟩:=hrow i r hi
      obtain ⟨_,h4⟩:=h3 j c hj
      obtain ⟨q1,q2,q3⟩:=hcell _ c h4
      refine ⟨?_,?_,q3⟩
      ·rw [cell_of_row w b _ C t (0,0) o2]
       exact getD_of_lt q1
      ·show FixedK _ (dropK bs (Γ b))
       rw [hb]
       simp only [dropK,if_neg hg]
       trivial
     ·obtain ⟨_,_,h3⟩:=hrow i r hi
      obtain ⟨_,h4⟩:=h3 j c hj
      exact (hcell _ c h4).2.1
  case ptr g o =>
   split at h<;>first|(cases h;done)|skip
   rename_i hg
   obtain rfl:=ed h
   cases hv with
   |ptr _ _ b hb=>exact ⟨.ptr _ _ b (hown b g hb hg),by simp,fun h=>h⟩
  case map g =>
   split at h<;>first|(cases h;done)|skip
   rename_i hg
   obtain rfl:=ed h
   cases hv with
   |map _ b hb=>exact ⟨.map _ b (hown b g hb hg),by simp,fun h=>h⟩
  case agg=>cases h
  case tup=>cases h
  case fn f a cs =>
   split at h<;>first|(cases h;done)|skip
   rename_i hg
   obtain rfl:=ed h
   refine ⟨?_,by simp,fun h=>h⟩
   have:=hv.noId hf (by simpa [AV.noId1] using hg)
   obtain ⟨rfl,rfl⟩:a=[]∧cs=[]:=by simpa using hg
   exact this
  case undef=>cases h;cases hv;exact ⟨.undef,by simp [AV.ro],fun h=>h⟩
  all_goals
   obtain rfl:=ed h
   exact ⟨noId_ro hf hv rfl,fun _ _=>ro_ne_own,fun h=>by rw [one_ro];exact h⟩
theorem frz2_ok (hr:RW W0 Γ w hp){v v':AV}{cv:Value}(h:frz2 bs hp v=some v')(hv:Rep Γ w v cv):Rep (fun b=>dropK bs (Γ b)) w v' cv∧∀k r,v'≠.own k r:=by
 unfold frz2 at h
 split at h
 ·rename_i cs
  obtain ⟨cs',h1,rfl⟩:=eP.1 h
  obtain ⟨m1,m2⟩:=mapM_get h1
  cases hv with
  |agg _ u hs k1 kn kr =>
   refine ⟨.agg cs' u (by rw [hs,m1]) (fun j c hc=>?_) (fun j k r hc=>?_) (fun j c hc=>?_),by simp⟩
   ·obtain ⟨x,x1,x2⟩:=m2 j c hc
    exact (frz1_ok hr 4 x2 (kr j x x1)).2.2 (k1 j x x1)
   ·obtain ⟨x,x1,x2⟩:=m2 j _ hc
    exact absurd rfl ((frz1_ok hr 4 x2 (kr j x x1)).2.1 k r)
   ·obtain ⟨x,x1,x2⟩:=m2 j c hc
    exact (frz1_ok hr 4 x2 (kr j x x1)).1
 ·obtain ⟨h1,h2,_⟩:=frz1_ok hr 4 h hv
  exact ⟨h1,h2⟩
theorem frz_ok (hr:RW W0 Γ w hp){v v':AV}{cv:Value}(h:frz bs hp v=some v')(hv:Rep Γ w v cv)(ho:OwnAt Γ w .res v cv):Rep (fun b=>dropK bs (Γ b)) w v' cv∧OwnAt (fun b=>dropK bs (Γ b)) w .res v' cv:=by
 have hf:FixMono Γ w (fun b=>dropK bs (Γ b)) w:=fun _ _ _ h1 h2=>⟨dropK_fix h1,h2⟩
 unfold frz at h
 split at h
 ·rename_i vs
  obtain ⟨vs',h1,rfl⟩:=eP.1 h
  obtain ⟨m1,m2⟩:=mapM_get h1
  cases hv with
  |tup _ u hs kr =>
   refine ⟨.tup vs' u (by rw [hs,m1]) fun j c hc=>?_,.of_ne (by simp)⟩
   obtain ⟨x,x1,x2⟩:=m2 j c hc
   exact (frz2_ok hr x2 (kr j x x1)).1
 ·obtain rfl:=ed h
  exact ⟨hv.noId hf rfl,ho.fix hf fun b n hb=>⟨by simp [hb,dropK],rfl⟩⟩
 ·obtain ⟨h1,h2⟩:=frz2_ok hr h hv
  exact ⟨h1,.of_ne h2⟩
theorem under1_ok {x:AV}{cv:Value}(hx:x.under1 bs=true)(hv:Rep Γ w x cv):Rep (fun b=>dropK bs (Γ b)) w x cv:=by
 have hf:FixMono Γ w (fun b=>dropK bs (Γ b)) w:=fun _ _ _ h1 h2=>⟨dropK_fix h1,h2⟩
 have hown:∀b g,Γ b=.own g→g<bs→dropK bs (Γ b)=.own g:=fun b g h hg=>by simp [h,dropK,hg]
 unfold AV.under1 at hx
 split at hx
 ·cases hv with
  |arr _ _ _ _ cap b hb hc=>exact .arr _ _ _ _ cap b (hown b _ hb (by simpa using hx)) hc
 ·cases hv with
  |ptr _ _ b hb=>exact .ptr _ _ b (hown b _ hb (by simpa using hx))
 ·cases hv with
  |map _ b hb=>exact .map _ b (hown b _ hb (by simpa using hx))
 ·exact hv.noId hf hx
theorem under_ok {x:AV}{cv:Value}(hx:x.under bs=true)(hv:Rep Γ w x cv):Rep (fun b=>dropK bs (Γ b)) w x cv:=by
 unfold AV.under at hx
 split at hx
 ·simp only [fG,aQ] at hx
  cases hv with
  |fn f a cs u v hs1 hr1 hs hr=>exact .fn _ _ _ u v hs1 (fun j c hc=>under1_ok (hx.1 c (aS hc)) (hr1 j c hc)) hs (fun j c hc=>under1_ok (hx.2 c (aS hc)) (hr j c hc))
 ·exact under1_ok hx hv
theorem finish_ok {s:AState}{Γ0:Ghost}{w0:World}{hp0:List AObj}{v:AV}{cv:Value}{v':AV}{hp':List AObj}{e':Eff}(h0:RW W0 Γ0 w0 hp0)(hbs:s.bs=hp0.length)(hle:s.bs≤s.hp.length)(base:∀b n g i,Γ0 b=.list n (.cell g i)→g<s.bs)
  (hr:RW W0 Γ w s.hp) (hfr:Frame Γ0 w0 Γ w s.ef) (hbk:∀b g,Γ b=.own g→g<s.bs→Γ0 b=.own g) (hv:Rep Γ w v cv) (ho:OwnAt Γ w .res v cv) {keep:Bool} (h:(if keep then (v.nm,s.hp,s.ef) else finish v s hp0)=(v',hp',e')) :
  ∃Γ',RW W0 Γ' w hp'∧Rep Γ' w v' cv∧OwnAt Γ' w .res v' cv∧Frame Γ0 w0 Γ' w e'∧hp0.length≤hp'.length∧∀b g,Γ' b=.own g→g<hp0.length→Γ0 b=.own g:=by
 have hf:FixMono Γ w (fun b=>dropK s.bs (Γ b)) w:=fun _ _ _ h1 h2=>⟨dropK_fix h1,h2⟩
 have asis:(v.nm,s.hp,s.ef)=(v',hp',e')→∃Γ',RW W0 Γ' w hp'∧Rep Γ' w v' cv∧OwnAt Γ' w .res v' cv∧Frame Γ0 w0 Γ' w e'∧hp0.length≤hp'.length∧∀b g,Γ' b=.own g→g<hp0.length→Γ0 b=.own g:=by
  intro e
  cases e
  exact ⟨Γ,hr,hv.nm,.of_ne fun _ _=>nm_not_own,hfr,by omega,fun b g hb hl=>hbk b g hb (by omega)⟩
 have base1:∀b g,Γ0 b=.own g→g<s.bs:=fun b g hb=>by rw [hbs];exact h0.lt b g hb
 have same0:∀b,b<w0.heap.size→Kept s.ef (Γ0 b)→dropK s.bs (Γ b)=Γ0 b∧w.heap[b]? = w0.heap[b]?:=fun b hb hk=>by
  obtain ⟨e1,e2⟩:=hfr.keep b hb hk
  refine ⟨?_,e2⟩
  rw [e1]
  cases hg:Γ0 b with
  |imm=>rfl
  |own g=>simp [dropK,base1 b g hg]
  |list n l =>
   cases l with
   |cell g i=>simp [dropK,base b n g i hg]
   |_=>rfl
 have fr:Frame Γ0 w0 (fun b=>dropK s.bs (Γ b)) w s.ef :=
  ⟨hfr.os,hfr.tape,hfr.output,hfr.size,hfr.fix.trans hf,fun b g hb=>by simp [hfr.own b g hb,dropK,base1 b g hb],same0⟩
 have inj':∀b b' g,dropK s.bs (Γ b)=.own g→dropK s.bs (Γ b')=.own g→b=b':=fun b b' g h1 h2=>hr.inj b b' g (dropK_own h1).1 (dropK_own h2).1
 have imm':∀b,Γ b=.imm→dropK s.bs (Γ b)=.imm:=fun b hb=>by rw [hb];rfl
 split at h
 ·exact asis h
 unfold finish at h
 split at h
 case h_2=>exact asis h
 rename_i u hu
 obtain ⟨r1,r2⟩:=frz_ok hr hu hv ho
 split at h
 ·rename_i he
  cases h
  rw [he] at fr
  refine ⟨_,⟨fun g o hg=>?_,inj',fun b hb=>imm' b (hr.fresh b hb),fun b g hb=>by rw [← hbs];exact (dropK_own hb).2,hr.old,fun b hb=>imm' b (hr.oldImm b hb),fun g hg b hb=>h0.dead g hg b (hbk b g (dropK_own hb).1 (dropK_own hb).2)⟩,r1,r2,fr,dI _,fun b g hb hl=>hbk b g (dropK_own hb).1 (dropK_own hb).2⟩
  refine (h0.objs g o hg).step (X := fun b=>¬Kept none (Γ0 b)) ⟨fr.os,fr.tape,fr.output,fr.size,fun b hb hx=>fr.keep b hb (Classical.not_not.1 hx),fr.fix,fr.own⟩ h0.fresh (fun b hx e=>hx ?_) (fun b n i hx e=>hx ?_)
  ·rw [e];exact fun _ _ e=>by cases e
  ·rw [e];exact fun _ _ e=>by cases e
 ·rename_i e he
  split at h
  ·rename_i hall
   cases h
   rw [he] at fr
   have hlen:(s.hp.take s.bs).length=s.bs:=by simp;omega
   refine ⟨_,⟨fun g o hg=>?_,inj',fun b hb=>imm' b (hr.fresh b hb),fun b g hb=>by rw [hlen];exact (dropK_own hb).2,hr.old,fun b hb=>imm' b (hr.oldImm b hb),fun g hg b hb=>hr.dead g (by have hgl:=Zq hg;rw [hlen] at hgl;rw [bH,if_pos hgl] at hg;exact hg) b (dropK_own hb).1⟩,r1,r2,fr,by omega,fun b g hb hl=>hbk b g (dropK_own hb).1 (dropK_own hb).2⟩
   have hgl:=Zq hg
   rw [hlen] at hgl
   have hund:=aQ.1 hall o (aS hg)
   rw [bH,if_pos hgl] at hg
   have:=hr.objs g o hg
   cases o with
   |dead=>trivial
   |cells cs t =>
    obtain ⟨b,C,h1,h2,h3,h4⟩:=this
    refine ⟨b,C,by simp [h1,dropK,hgl],h2,h3,fun i c hc=>?_⟩
    obtain ⟨a1,a2,a3⟩:=h4 i c hc
    exact ⟨a1,under_ok (aQ.1 hund c (aS hc)) a2,a3.fix hf fun b n hb=>⟨by simp [hb,dropK,hgl],rfl⟩⟩
   |map es =>
    obtain ⟨b,ms,clk,h1,h2,h3,h4⟩:=this
    exact ⟨b,ms,clk,by simp [h1,dropK,hgl],h2,h3,h4⟩
   |iter l pos =>
    obtain ⟨b,h1,h2⟩:=this
    exact ⟨b,by simp [h1,dropK,hgl],h2⟩
   |buf _ _ _ _ =>
    obtain ⟨b,C,h1,h2,h3⟩:=this
    exact ⟨b,C,by simp [h1,dropK,hgl],h2,h3.mono fun b n i hb=>⟨by simp [hb,dropK,hgl],rfl⟩⟩
  ·exact asis h
end
def calmCall (call:FuncId→List AV→List AObj→Option (AV×List AObj×Eff))(f:FuncId)(args:List AV)(hp:List AObj):Option (AV×List AObj×Eff) :=
 match call f args hp with
 |some (v,hp',none)=>match frz hp.length hp' v with
  |some v'=>some (v',hp,none)
  |none=>none
 |_=>none
theorem calm_spec {P:Program}{W0:World}{call:FuncId→List AV→List AObj→Option (AV×List AObj×Eff)}(hS:CallSpec P W0 call):CallSpec P W0 (calmCall call):=by
 intro f args hp v hp' e h Γ w xs hr ht hs hx
 unfold calmCall at h
 split at h<;>first|(cases h;done)|skip
 rename_i v0 hp0 hc
 split at h<;>first|(cases h;done)|skip
 rename_i v1 hf
 cases h
 refine (hS f args hp v0 hp0 none hc Γ w xs hr ht hs hx).mono fun cv w' ⟨Γ',r1,r2,r3,r4,r5⟩=>?_
 exact finish_ok (s := ⟨[],hp0,none,hp.length⟩) hr rfl r5.1 (fun b n g i hb=>ht.cell b n g i hb) r1 r4 r5.2 r2 r3 (keep := false) (by simp only [finish,hf];rfl)
def bareK:Kind→Kind
 |.own _=>.list 0 .outer
 |.list n (.cell _ _)=>.list n .outer
 |k=>k
def lostK:Kind→Bool
 |.own _=>true
 |.list _ (.cell _ _)=>true
 |_=>false
theorem bareK_fix {k:Kind}{o:Nat}(h:FixedK o k):FixedK o (bareK k):=by
 cases k with
 |imm=>trivial
 |own g=>exact h.elim
 |list n l=>cases l<;>exact h
theorem bareK_own {k:Kind}{g:Nat}:bareK k≠.own g:=by
 cases k with
 |imm=>simp [bareK]
 |own g=>simp [bareK]
 |list n l=>cases l<;>simp [bareK]
theorem bareK_same {k:Kind}(h:lostK k=false):bareK k=k:=by
 cases k with
 |imm=>rfl
 |own g=>cases h
 |list n l=>cases l<;>first|rfl|cases h
theorem bareK_kept {k:Kind}(h:lostK k=true):Kept none (bareK k):=by
 cases k with
 |imm=>cases h
 |own g=>trivial
 |list n l=>cases l<;>first|trivial|cases h
theorem bareK_unfix {k:Kind}{o:Nat}(h:lostK k=true)(hf:FixedK o (bareK k)):FixedK o k:=by
 cases k with
 |imm=>cases h
 |own g=>exact absurd hf (gz _)
 |list n l=>cases l<;>first|exact hf|cases h
theorem Rep.bare {Γ Γ':Ghost}{w:World}{x:AV}{v:Value}(hf:FixMono Γ w Γ' w)(h:Rep Γ w x v)(hb:x.bare=true):Rep Γ' w x v:=by
 cases h with
 |agg cells cv hs h1 hn hr =>
  refine .agg cells cv hs h1 hn fun j c hc=>(hr j c hc).noId hf ?_
  exact aQ.1 hb c (aS hc)
 |_=>exact Rep.noId hf (by constructor<;>assumption) hb
theorem bare_spec {P:Program}{W0:World}{call:FuncId→List AV→List AObj→Option (AV×List AObj×Eff)}(hS:CallSpec P W0 call):CallSpec P W0 (bareCall call):=by
 intro f args hp v hp' e h Γ w xs hr ht hs hx
 have hc:args.all AV.bare=true∧calmCall call f args []=some (v,[],none)∧hp'=hp∧e=none:=by
  unfold bareCall at h
  split at h<;>first|(cases h;done)|skip
  rename_i hb
  split at h<;>first|(cases h;done)|skip
  rename_i v0 hp0 hc
  split at h<;>first|(cases h;done)|skip
  rename_i v1 hf
  cases h
  refine ⟨hb,?_,rfl,rfl⟩
  unfold calmCall
  rw [hc]
  simp only [List.length_nil]
  rw [hf]
 obtain ⟨hb,hc,rfl,rfl⟩:=hc
 have f1:FixMono Γ w (fun b=>bareK (Γ b)) w:=fun _ _ _ h1 h2=>⟨bareK_fix h1,h2⟩
 have hr1:RW W0 (fun b=>bareK (Γ b)) w []:=⟨fun g o hg=>by simp at hg,fun b b' g hb=>absurd hb bareK_own,fun b hb=>by simp [hr.fresh b hb,bareK],fun b g hb=>absurd hb bareK_own,hr.old,fun b hb=>by simp [hr.oldImm b hb,bareK],fun g hg=>by simp at hg⟩
 have ht1:Tidy (fun b=>bareK (Γ b)) 0:=by
  refine ⟨fun b m h=>?_,fun b m j h=>?_,fun b m g i h=>?_⟩
  ·have:=ht.res b m
   cases hg:Γ b with
   |imm=>simp [hg,bareK] at h
   |own g=>simp [hg,bareK] at h
   |list n l=>cases l<;>simp [hg,bareK] at h this<;>omega
  ·have:=ht.arg b m j
   cases hg:Γ b with
   |imm=>simp [hg,bareK] at h
   |own g=>simp [hg,bareK] at h
   |list n l=>cases l<;>simp [hg,bareK] at h this<;>omega
  ·cases hg:Γ b with
   |imm=>simp [hg,bareK] at h
   |own g=>simp [hg,bareK] at h
   |list n l=>cases l<;>simp [hg,bareK] at h
 refine (calm_spec hS f args [] v [] none hc (fun b=>bareK (Γ b)) w xs hr1 ht1 hs fun j x hj=>?_).mono fun cv w' ⟨Γ',r1,r2,r3,r4,r5⟩=>?_
 ·obtain ⟨q1,q2⟩:=hx j x hj
  have hbx:=aQ.1 hb x (aS hj)
  refine ⟨q1.bare f1 hbx,fun k rows e=>?_⟩
  rcases q2 k rows e with h|⟨b,cap,e,cur,h1,h2,h3,h4,h5,h6,h7,h8⟩
  ·exact .inl h
  ·exact .inr ⟨b,cap,e,cur,h1,by simp [h2,bareK],h3,h4,h5,h6,h7,fun i j r c hi hj=>⟨(h8 i j r c hi hj).1,(h8 i j r c hi hj).2.noId f1 (h8 i j r c hi hj).1⟩⟩
 ·have lt:∀b,Γ b≠.imm→b<w.heap.size:=fun b hb=>by
   rcases dJ b w.heap.size with h' | h'
   ·exact h'
   ·exact absurd (hr.fresh b h') hb
  have lost:∀b,lostK (Γ b)=true→Γ' b=bareK (Γ b)∧w'.heap[b]? = w.heap[b]?:=fun b hb=>r4.keep b (lt b fun e=>by rw [e] at hb;cases hb) (bareK_kept hb)
  let Γ2:Ghost:=fun b=>if lostK (Γ b)=true then Γ b else Γ' b
  have g1:∀b,lostK (Γ b)=true→Γ2 b=Γ b:=fun b hb=>if_pos hb
  have g2:∀b,¬lostK (Γ b)=true→Γ2 b=Γ' b:=fun b hb=>if_neg hb
  have fix:FixMono Γ w Γ2 w':=fun b o y h1 h2=>by
   obtain ⟨k1,k2⟩:=r4.fix b o y (bareK_fix h1) h2
   refine ⟨?_,k2⟩
   unfold Fixed
   by_cases hb:lostK (Γ b)=true
   ·rw [g1 b hb];exact h1
   ·rw [g2 b hb];exact k1
  have own:OwnMono Γ Γ2:=fun b g hb=>by rw [g1 b (by rw [hb];rfl)];exact hb
  have ownI:∀b g,Γ2 b=.own g→Γ b=.own g:=fun b g hb=>by
   by_cases hl:lostK (Γ b)=true
   ·rw [g1 b hl] at hb;exact hb
   ·rw [g2 b hl] at hb;exact absurd (r1.lt b g hb) (gz _)
  have fix2:FixMono Γ' w' Γ2 w':=fun b o y h1 h2=>by
   refine ⟨?_,h2⟩
   unfold Fixed at h1 ⊢
   by_cases hb:lostK (Γ b)=true
   ·rw [g1 b hb]
    rw [(lost b hb).1] at h1
    exact bareK_unfix hb h1
   ·rw [g2 b hb];exact h1
  have own2:OwnMono Γ' Γ2:=fun b g hb=>absurd (r1.lt b g hb) (gz _)
  have keepL:∀b,lostK (Γ b)=true→Γ2 b=Γ b∧w'.heap[b]? = w.heap[b]?:=fun b hb=>⟨g1 b hb,(lost b hb).2⟩
  have imm2:∀b,Γ' b=.imm→lostK (Γ b)=false→Γ2 b=.imm:=fun b h1 h2=>by rw [g2 b (by rw [h2];simp)];exact h1
  refine ⟨Γ2,⟨fun g o hg=>?_,fun b b' g h1 h2=>hr.inj b b' g (ownI b g h1) (ownI b' g h2),fun b hb=>?_,fun b g hb=>hr.lt b g (ownI b g hb),r1.old,fun b hb=>?_,fun g hg b hb=>hr.dead g hg b (ownI b g hb)⟩,r2.mono fix2 own2,r3.mono fix2 own2 fun b n hb=>⟨?_,rfl⟩,
   ⟨r4.os,r4.tape,r4.output,r4.size,fix,own,fun b hb hk=>?_⟩,dI _,fun b g hb _=>ownI b g hb⟩
  ·have hold:=hr.objs g o hg
   cases o with
   |dead=>trivial
   |cells cs t =>
    obtain ⟨b,C,h1,h2,h3,h4⟩:=hold
    obtain ⟨k1,k2⟩:=keepL b (by rw [h1];rfl)
    refine ⟨b,C,k1.trans h1,k2.trans h2,h3,fun i c hc=>?_⟩
    obtain ⟨a1,a2,a3⟩:=h4 i c hc
    refine ⟨a1,a2.mono fix own,a3.mono fix own fun b n hb=>?_⟩
    obtain ⟨k1,k2⟩:=keepL b (by rw [hb];rfl)
    exact ⟨k1.trans hb,k2⟩
   |map es =>
    obtain ⟨b,ms,clk,h1,h2,h3,h4⟩:=hold
    obtain ⟨k1,k2⟩:=keepL b (by rw [h1];rfl)
    exact ⟨b,ms,clk,k1.trans h1,k2.trans h2,h3,h4⟩
   |iter l pos =>
    obtain ⟨b,h1,h2⟩:=hold
    obtain ⟨k1,k2⟩:=keepL b (by rw [h1];rfl)
    exact ⟨b,k1.trans h1,k2.trans h2⟩
   |buf _ _ _ _ =>
    obtain ⟨b,C,h1,h2,h3⟩:=hold
    obtain ⟨k1,k2⟩:=keepL b (by rw [h1];rfl)
    refine ⟨b,C,k1.trans h1,k2.trans h2,h3.mono fun b n i hb=>?_⟩
    obtain ⟨k1,k2⟩:=keepL b (by rw [hb];rfl)
    exact ⟨k1.trans hb,k2⟩
  ·refine imm2 b (r1.fresh b hb) ?_
   rw [hr.fresh b (dK r4.size hb)];rfl
  ·refine imm2 b (r1.oldImm b hb) ?_
   rw [hr.oldImm b hb];rfl
  ·by_cases hl:lostK (Γ b)=true
   ·have:=(lost b hl).1
    rw [hb] at this
    cases hg:Γ b with
    |imm=>simp [hg,bareK] at this
    |own g=>simp [hg,bareK] at this
    |list n l=>cases l<;>simp [hg,bareK] at this<;>(rw [hg] at hl;cases hl)
   ·rw [g2 b hl];exact hb
  ·by_cases hl:lostK (Γ b)=true
   ·exact keepL b hl
   ·have hsame:=bareK_same (by simpa using hl:lostK (Γ b)=false)
    obtain ⟨k1,k2⟩:=r4.keep b hb (by show Kept none (bareK (Γ b));rw [hsame];exact hk)
    exact ⟨by rw [g2 b hl,k1];exact hsame,k2⟩
section
variable {G:Nat→Option (List AV)}{call:FuncId→List AV→List AObj→Option (AV×List AObj×Eff)}
theorem evalOp_bs {s s':AState}{ao:AOp}{v:AV}(h:evalOp G call s ao=some (v,s')):s'.bs=s.bs:=by
 cases ao<;>simp only [evalOp] at h<;>(repeat' split at h)<;>first
  |(cases h;done)
  |(obtain ⟨_,rfl⟩:=map_pair h;rfl)
  |(cases h;rfl)
  |(obtain ⟨x,_,e⟩:=eP.1 h;cases e;rfl)
theorem put_bs (s:AState)(d:Option Nat)(v:AV):(s.put d v).bs=s.bs:=by cases d<;>rfl
theorem evalOps_bs:∀{l:List AOper} {s s':AState},evalOps G call l s=some s'→s'.bs=s.bs
 | [],s,s',h=>by cases h;rfl
 |o::l,s,s',h=>by
  simp only [evalOps] at h
  split at h<;>first|(cases h;done)|skip
  rename_i s1 h1
  rw [evalOps_bs h]
  simp only [evalOper] at h1
  split at h1<;>first|(cases h1;done)|skip
  ·split at h1<;>first|(cases h1;done)|skip
   rename_i v s2 h2
   obtain rfl:=ed h1
   rw [put_bs,evalOp_bs h2]
  ·obtain rfl:=ed h1
   rw [put_bs]
theorem iter_bs {f:AState→Option (AExit×AState)}(hf:∀{s:AState} {r:AExit×AState},f s=some r→r.2.bs=s.bs):∀(n:Nat) {s:AState} {r:AExit×AState},iter f n s=some r→r.2.bs=s.bs
 |0,_,_,h=>by cases h
 |n+1,s,r,h=>by
  simp only [iter] at h
  split at h
  ·rename_i s1 h1
   rw [iter_bs hf n h]
   exact hf h1
  ·exact hf h
theorem evalCode_bs (L:Nat):∀{c:ACode} {s:AState} {r:AExit×AState},evalCode G call L c s=some r→r.2.bs=s.bs:=by
 intro c
 induction c with
 |skip=>intro s r h;cases h;rfl
 |region draw ops =>
  intro s r h
  cases draw with
  |false =>
   simp only [evalCode] at h
   obtain ⟨s1,h1,rfl⟩:=eP.1 h
   exact evalOps_bs h1
  |true =>
   simp only [evalCode] at h
   obtain ⟨s1,h1,rfl⟩:=eP.1 h
   exact evalOps_bs h1
 |regionB ops =>
  intro s r h
  simp only [evalCode] at h
  obtain ⟨s1,h1,rfl⟩:=eP.1 h
  exact evalOps_bs h1
 |seq x y ihx ihy =>
  intro s r h
  simp only [evalCode] at h
  split at h
  ·rename_i s1 h1
   rw [ihy h];exact ihx h1
  ·exact ihx h
 |cond c x y ihx ihy =>
  intro s r h
  simp only [evalCode] at h
  split at h<;>first|(cases h;done)|skip
  ·exact ihx h
  ·exact ihy h
 |block id c ih =>
  intro s r h
  simp only [evalCode] at h
  split at h
  ·rename_i i s1 h1
   have:=ih h1
   split at h<;>(obtain rfl:=ed h;exact this)
  ·exact ih h
 |loop c ih =>
  intro s r h
  simp only [evalCode] at h
  exact iter_bs ih L h
 |scope c ih=>intro s r h;simp only [evalCode] at h;exact ih h
 |exit id=>intro s r h;cases h;rfl
 |ret=>intro s r h;cases h;rfl
 |bad=>intro s r h;cases h
end
structure CfgOk (P:Program)(W0:World)(C:Cfg):Prop where
 mixed:P.follows .mixedOrders=true
 globals:GOk C.G W0
 table:∀f af,C.T f=some af→∃fn takes,P.funcs[f]? = some fn∧(fn.name == "runtime.NumGoroutine")=false∧cFn P takes fn=some af
 oracle:CallSpec P W0 C.O
theorem enter_run {P:Program}{f:FuncId}{fn:Func}{c:Code}(hf:P.funcs[f]? = some fn)(hn:(fn.name == "runtime.NumGoroutine")=false)(hb:fn.body=some c)(xs:Array Value)(w:World):(callFunc f xs).run P w=.ok (.enter f xs) w:=by
 have hn':¬fn.name = "runtime.NumGoroutine" := by simpa using hn
 simp [callFunc,program,hf,hn',hb,Sem.run]
theorem evalCall_ok {P:Program}{W0:World}{C:Cfg}(h:CfgOk P W0 C):∀n,CallSpec P W0 (evalCall C n):=by
 intro n
 induction n with
 |zero=>intro f args hp v hp' e hc;cases hc
 |succ n ih =>
  intro f args hp v hp' e hc Γ w xs hr ht hs hx
  simp only [evalCall] at hc
  split at hc
  case h_2=>exact h.oracle f args hp v hp' e hc Γ w xs hr ht hs hx
  rename_i af haf
  obtain ⟨fn,takes,hf,hname,hcf⟩:=h.table f af haf
  unfold cFn at hcf
  split at hcf<;>first|(cases hcf;done)|skip
  rename_i c rs hb hrs
  obtain ⟨ac,hac,rfl⟩:=eP.1 hcf
  split at hc
  ·cases hc
  ·rename_i x s hne hev
   split at hc<;>first|(cases hc;done)|skip
   rename_i u hu
   have hfin:=ed hc
   refine ⟨enter_run hf hname hb xs w,?_⟩
   have hbs:s.bs=hp.length:=evalCode_bs C.L hev
   have hI:Inv ⟨W0,Γ,w⟩ ⟨args++aO (fn.ntmps - args.length) .undef,hp,none,hp.length⟩ Γ { tmps := xs++fE (fn.ntmps - xs.size) Go.undef,defers := [] } w:=by
    have get:∀(t:Nat) (y:AV),(args++aO (fn.ntmps - args.length) AV.undef)[t]? = some y→(args[t]? = some y∧(xs++fE (fn.ntmps - xs.size) Go.undef).getD t Go.undef=xs.getD t Go.undef)∨(y=.undef∧(xs++fE (fn.ntmps - xs.size) Go.undef).getD t Go.undef=Go.undef):=by
     intro t y hy
     rw [aW] at hy
     split at hy
     ·rename_i hlt
      refine .inl ⟨hy,?_⟩
      rw [aA,aA,Array.getElem?_append_left (by omega)]
     ·rename_i hge
      have hm:=aS hy
      have:=gq hm
      refine .inr ⟨this,?_⟩
      have hlt:=Zq hy
      simp only [List.length_replicate] at hlt
      rw [aA,Array.getElem?_append_right (by omega),Array.getElem?_replicate,if_pos (by omega)]
      rfl
    refine ⟨rfl,⟨by simp [hs],fun t y hy=>?_,fun t y hy=>?_⟩,hr,.refl _ _ _,fun b g hb=>hr.lt b g hb,fun b m g i hb=>ht.cell b m g i hb,dI _,fun _ _ hb _=>hb⟩
    ·rcases get t y hy with ⟨h1,h2⟩|⟨rfl,h2⟩
     ·rw [h2];exact (hx t y h1).1
     ·rw [h2];exact .undef
    ·rcases get t y hy with ⟨h1,h2⟩|⟨rfl,h2⟩
     ·rw [h2];exact (hx t y h1).2
     ·exact .of_ne (by simp)
   have hw:=code_wp h.mixed h.globals ih (bare_spec ih) C.L hac hev hI
   refine calls_of_wp hf hb (Go.wp_mono hw fun en a' w' he=>?_)
   obtain ⟨k1,Γ',i1⟩:=he
   have fin:a'.defers=[]∧∃cv,(results fn a'.tmps).run P w'=.ok cv w'∧∃v',Ending.returned cv=.returned v'∧∃Γ',RW W0 Γ' w' hp'∧Rep Γ' w' v v'∧OwnAt Γ' w' .res v v'∧Frame Γ w Γ' w' e∧hp.length≤hp'.length∧∀b g,Γ' b=.own g→g<hp.length→Γ b=.own g:=by
    obtain ⟨cv,Γ2,q1,q2,q3,q4,q5,q6⟩:=res_ok i1 hrs hu
    obtain ⟨Γ3,p1,p2,p3,p4,p5⟩:=finish_ok hr hbs (by rw [hbs];have:=i1.le;simpa [hbs] using this) (fun b m g i hb=>by rw [hbs];exact ht.cell b m g i hb) q2 q3 q6 q4 q5 hfin
    exact ⟨i1.defers,cv,q1,cv,rfl,Γ3,p1,p2,p3,p4,p5⟩
   cases x with
   |exit i=>exact (hne i rfl).elim
   |normal=>cases en<;>first|exact k1.elim|exact fin
   |ret=>cases en<;>first|exact k1.elim|exact fin
  ·cases hc
def still:Ghost:=fun _=>.imm
theorem rw_start (W:World):RW W still W [] :=
 ⟨fun g o hg=>by simp at hg,fun b b' g h=>(by cases h),fun _ _=>rfl,fun b g h=>(by cases h),⟨rfl,rfl,rfl,dI _,fun _ _=>rfl⟩,fun _ _=>rfl,fun g hg=>by simp at hg⟩
theorem tidy_start:Tidy still 0:=⟨fun _ _ h=>(by cases h),fun _ _ _ h=>(by cases h),fun _ _ _ _ h=>(by cases h)⟩
theorem law_of {P:Program}{W:World}{C:Cfg}(h:CfgOk P W C){n:Nat}{f:FuncId}{avs:List AV}{hp:List AObj}{e:Eff}(hev:evalCall C n f avs []=some (.bool true,hp,e)){args:Array Value}
  (hs:args.size=avs.length) (hr:∀(j:Nat) (x:AV),avs[j]? = some x→Rep still W x (args.getD j Go.undef)∧∀k r,x≠.own k r) :
  Calls P f args W fun e W'=>e=.returned (.bool true)∧Below W.heap.size W W':=by
 obtain ⟨_,hw⟩:=evalCall_ok h n f avs [] _ _ _ hev still W args (rw_start W) tidy_start hs fun j x hx=>⟨(hr j x hx).1,.of_ne (hr j x hx).2⟩
 refine hw.mono fun en W' ⟨cv,hv,Γ',r1,r2,_,r4,_⟩=>?_
 subst hv
 cases r2
 exact ⟨rfl,r4.os,r4.tape,r4.output,r4.size,fun b hb=>(r4.keep b hb trivial).2⟩
def OracleOk (P:Program)(W0:World)(f:FuncId)(args:List AV)(v:AV):Prop :=
 (∀k r,v≠.own k r)∧∀(Γ:Ghost) (w:World) (xs:Array Value),Below W0.heap.size W0 w→(∀b,w.heap.size≤b→Γ b=.imm)→xs.size=args.length→(∀(j:Nat) (x:AV),args[j]? = some x→Rep Γ w x (xs.getD j Go.undef)) →
  Went P f xs w fun cv w'=>Below w.heap.size w w'∧Rep Γ w' v cv
theorem spec_of_oracles {P:Program}{W0:World}{O:FuncId→List AV→Option AV}(h:∀f args v,O f args=some v→OracleOk P W0 f args v) :
  CallSpec P W0 fun f args hp=>(O f args).map fun v=>(v,hp,none):=by
 intro f args hp v hp' e ho Γ w xs hr _ hs hx
 obtain ⟨u,hu,e1⟩:=eP.1 ho
 cases e1
 obtain ⟨hown,hrun⟩:=h f args v hu
 refine (hrun Γ w xs hr.old hr.fresh hs fun j x hj=>(hx j x hj).1).mono fun cv w' ⟨hb,hv⟩=>?_
 have st:Step Γ w Γ w' fun _=>False:=⟨hb.os,hb.tape,hb.output,hb.size,fun b hbl _=>⟨rfl,hb.block b hbl⟩,fun b o v h1 h2=>⟨h1,(cell_heap (hb.block b (lt_of_cell h2))).trans h2⟩,.refl _⟩
 obtain ⟨o1,o2⟩:=below_step hr.old hr.oldImm st fun _ hx=>hx.elim
 refine ⟨Γ,⟨fun g o hg=>(hr.objs g o hg).step st hr.fresh (fun _ hx=>hx.elim) (fun _ _ _ hx=>hx.elim),hr.inj,fun b hbl=>hr.fresh b (dK hb.size hbl),hr.lt,o1,o2,hr.dead⟩,hv,.of_ne hown,⟨hb.os,hb.tape,hb.output,hb.size,st.fix,.refl _,fun b hbl _=>⟨rfl,hb.block b hbl⟩⟩,dI _,fun _ _ hb _=>hb⟩
theorem went_of_calls {P:Program}{f:FuncId}{fn:Func}{c:Code}{xs:Array Value}{w:World}{R:Value→World→Prop}(hf:P.funcs[f]? = some fn)(hn:(fn.name == "runtime.NumGoroutine")=false)(hb:fn.body=some c)
  (h:Calls P f xs w fun e w'=>∃v,e=.returned v∧R v w'):Went P f xs w R:=⟨enter_run hf hn hb xs w,h⟩
open Go
inductive KV where
 |raw (v:AV)
 |cln (v:AV)
def KV.val:KV→AV
 |.raw v=>v
 |.cln v=>v
def KV.rd:KV→AV
 |.raw v=>v.ro
 |.cln v=>v
abbrev bifK {α:Type}(b:Bool)(x y:α):α :=
 match b with
 |true=>x
 |false=>y
abbrev Env:=Nat→KV
def Env.set (e:Env)(t:Nat)(v:KV):Env:=fun u=>bifK (iC u t) v (e u)
def Env.put (e:Env)(d:Option Nat)(v:KV):Env :=
 match d with
 |some d=>e.set d v
 |none=>e
abbrev KR:=Option (AV×List AObj×Eff)
abbrev Cont:=Env→List AObj→Eff→KR
def minV:List AV→Option AV
 |.int .i64 n::l=>(minL n l).map fun n=>.int .i64 n
 |_=>none
def maxV:List AV→Option AV
 |.int .i64 n::l=>(maxL n l).map fun n=>.int .i64 n
 |_=>none
def notIn:List Nat→Nat→Bool
 | [],_=>true
 |u::l,t=>bifK (iC u t) false (notIn l t)
def rm (d:Nat):List Nat→List Nat
 | []=>[]
 |u::l=>bifK (iC u d) (rm d l) (u::rm d l)
def rmO (d:Option Nat)(P:List Nat):List Nat :=
 match d with
 |some d=>rm d P
 |none=>P
section
variable (G:Nat→Option (List AV))(N bs:Nat)(P:List Nat)
def opndK (e:Env):Opnd→Option AV
 |.tmp t=>bifK ((iD t N&&notIn P t)) (some (e t).rd) (none)
 |.const v=>some v
 |.glob g=>(G g).map .ref
def opndsK (e:Env):List Opnd→Option (List AV)
 | []=>some []
 |x::l=>match opndK G N P e x with
  |some v=>match opndsK e l with
   |some vs=>some (v::vs)
   |none=>none
  |none=>none
def optOpndK (e:Env):Option Opnd→Option (Option AV)
 |none=>some none
 |some x=>match opndK G N P e x with
  |some v=>some (some v)
  |none=>none
def argsK:Env→List (Nat ⊕ Opnd)→Option (List AV×Env)
 |e,[]=>some ([],e)
 |e,.inl t::l=>bifK ((iD t N&&notIn P t)) (match argsK (e.set t (.cln (e t).rd)) l with
  |some (vs,e')=>some ((e t).val::vs,e')
  |none=>none) none
 |e,.inr x::l=>match opndK G N P e x with
  |some v=>match argsK e l with
   |some (vs,e')=>some (v::vs,e')
   |none=>none
  |none=>none
end
section
variable (G:Nat→Option (List AV))(N bs:Nat)(K:FuncId→List AV→List AObj→KR)
def loopK (F:Cont→Cont):Nat→Cont
 |0=>fun _ _ _=>none
 |n+1=>F (loopK F n)
end
theorem bif_some {α:Type}{b:Bool}{x:Option α}{r:α}(h:bifK b x none=some r):b=true∧x=some r:=by
 cases b with
 |false=>cases h
 |true=>exact ⟨rfl,h⟩
def KvOk (v:KV):Prop:=v.val.ro=v.rd
theorem ro_ro' (v:AV):v.ro.ro=v.ro:=by cases v<;>rfl
theorem kv_rd {v:KV}(h:KvOk v):KvOk (.cln v.rd):=by
 show v.rd.ro=v.rd
 rw [← h,ro_ro']
theorem notIn_iff:∀{P:List Nat} {t:Nat},notIn P t=true↔t∉P
 | [],t=>by simp [notIn]
 |u::l,t=>by
  simp only [notIn,gZ,not_or]
  cases hb:iC u t with
  |true =>
   have:=iE hb
   subst this
   simp
  |false =>
   have:t≠u:=fun h=>by subst h;rw [iF] at hb;cases hb
   simp [this,← notIn_iff]
theorem mem_rm:∀{P:List Nat} {d t:Nat},t∈rm d P↔t∈P∧t≠d
 | [],d,t=>by simp [rm]
 |u::l,d,t=>by
  simp only [rm]
  cases hb:iC u d with
  |true =>
   have:=iE hb
   subst this
   simp only [mem_rm,gZ]
   constructor
   ·rintro ⟨a,b⟩;exact ⟨.inr a,b⟩
   ·rintro ⟨a|a,b⟩
    ·exact absurd a b
    ·exact ⟨a,b⟩
  |false =>
   have:u≠d:=fun h=>by subst h;rw [iF] at hb;cases hb
   simp only [gZ,mem_rm]
   constructor
   ·rintro (a|⟨a,b⟩)
    ·subst a;exact ⟨.inl rfl,this⟩
    ·exact ⟨.inr a,b⟩
   ·rintro ⟨a|a,b⟩
    ·exact .inl a
    ·exact .inr ⟨a,b⟩
structure EnvOk (N:Nat)(P:List Nat)(e:Env)(sl:List AV):Prop where
 len:sl.length=N
 val:∀t,t<N→t∉P→sl[t]? = some (e t).val
 ok:∀t,KvOk (e t)
theorem EnvOk.mono {N:Nat}{P P':List Nat}{e:Env}{sl:List AV}(h:EnvOk N P e sl)(hp:∀t,t∈P→t∈P'):EnvOk N P' e sl:=⟨h.len,fun t ht hn=>h.val t ht fun hm=>hn (hp t hm),h.ok⟩
theorem EnvOk.set {N:Nat}{P:List Nat}{e:Env}{sl:List AV}(h:EnvOk N P e sl)(d:Nat){v:KV}(hv:KvOk v):EnvOk N (rm d P) (e.set d v) (sl.set d v.val):=by
 refine ⟨by rw [List.length_set];exact h.len,fun t ht hn=>?_,fun t=>?_⟩
 ·rw [aU]
  by_cases e1:d=t
  ·subst e1
   simp [Env.set,h.len,ht]
  ·have:iC t d=false:=by cases hb:iC t d with|false=>rfl|true=>exact absurd (iE hb).symm e1
   simp [e1,Env.set,this,h.val t ht fun hm=>hn (mem_rm.2 ⟨hm,fun h=>e1 h.symm⟩)]
 ·show KvOk (bifK (iC t d) v (e t))
  cases iC t d
  ·exact h.ok t
  ·exact hv
theorem EnvOk.put {N:Nat}{P:List Nat}{e:Env}{sl:List AV}(h:EnvOk N P e sl)(d:Option Nat){v:KV}(hv:KvOk v){hp:List AObj}{ef:Eff}{bs:Nat}:EnvOk N (rmO d P) (e.put d v) (AState.put ⟨sl,hp,ef,bs⟩ d v.val).sl:=by
 cases d with
 |none=>exact h
 |some d=>exact h.set d hv
theorem EnvOk.let_ {N:Nat}{P:List Nat}{e:Env}{sl:List AV}(h:EnvOk N P e sl)(t:Nat):EnvOk N P (e.set t (.cln (e t).rd)) (sl.modify t AV.ro):=by
 refine ⟨by rw [List.length_modify];exact h.len,fun u hu hn=>?_,fun u=>?_⟩
 ·rw [aV]
  by_cases e1:t=u
  ·subst e1
   simp only [if_true,h.val t hu hn,Env.set,iF,KV.val]
   have:=h.ok t
   simp only [KvOk] at this
   simp only [KV.val] at this
   rw [Option.map_eq_map,eX,← this]
  ·have:iC u t=false:=by cases hb:iC u t with|false=>rfl|true=>exact absurd (iE hb).symm e1
   simp [e1,Env.set,this,h.val u hu hn]
 ·show KvOk (bifK (iC u t) (.cln (e t).rd) (e u))
  cases iC u t
  ·exact h.ok u
  ·exact kv_rd (h.ok t)
section
variable {G:Nat→Option (List AV)}{N:Nat}{P:List Nat}{e:Env}{sl:List AV}
theorem lt_of_blt {t N:Nat}{P:List Nat}(h:(iD t N&&notIn P t)=true):t<N∧t∉P:=by
 rw [fG] at h
 exact ⟨Nat.le_of_ble_eq_true h.1,notIn_iff.1 h.2⟩
theorem EnvOk.get (h:EnvOk N P e sl){t:Nat}(ht:(iD t N&&notIn P t)=true):sl[t]? = some (e t).val:=h.val t (lt_of_blt ht).1 (lt_of_blt ht).2
theorem EnvOk.read (h:EnvOk N P e sl){t:Nat}(ht:(iD t N&&notIn P t)=true):(sl[t]?).map AV.ro=some (e t).rd:=by
 rw [h.get ht,eX,h.ok t]
theorem EnvOk.opnd (h:EnvOk N P e sl){x:Opnd}{v:AV}(hx:opndK G N P e x=some v):Abs.opnd G sl x=some v:=by
 cases x with
 |tmp t =>
  obtain ⟨h1,h2⟩:=bif_some (show bifK (iD t N&&notIn P t) (some (e t).rd) none=some v from hx)
  cases h2
  exact h.read h1
 |const v=>exact hx
 |glob g=>exact hx
theorem EnvOk.opnds (h:EnvOk N P e sl):∀{xs:List Opnd} {vs:List AV},opndsK G N P e xs=some vs→Abs.opnds G sl xs=some vs
 | [],vs,hx=>hx
 |x::l,vs,hx=>by
  simp only [opndsK] at hx
  split at hx
  ·rename_i v hv
   split at hx
   ·rename_i us hus
    cases hx
    simp only [Abs.opnds,h.opnd hv,h.opnds hus,eX]
   ·cases hx
  ·cases hx
theorem EnvOk.optOpnd (h:EnvOk N P e sl){x:Option Opnd}{v:Option AV}(hx:optOpndK G N P e x=some v):Abs.optOpnd G sl x=some v:=by
 cases x with
 |none=>exact hx
 |some x =>
  simp only [optOpndK] at hx
  split at hx
  ·rename_i u hu
   cases hx
   simp only [Abs.optOpnd,h.opnd hu,eX]
  ·cases hx
theorem EnvOk.args:∀{as:List (Nat ⊕ Opnd)} {e e':Env} {sl:List AV} {vs:List AV},EnvOk N P e sl→argsK G N P e as=some (vs,e')→∃sl',argVals G sl as=some (vs,sl')∧EnvOk N P e' sl'
 | [],e,e',sl,vs,h,ha=>by
  cases ha
  exact ⟨sl,rfl,h⟩
 |.inl t::l,e,e',sl,vs,h,ha=>by
  simp only [argsK] at ha
  obtain ⟨h1,h2⟩:=bif_some ha
  split at h2
  ·rename_i us e1 hus
   cases h2
   obtain ⟨sl',a1,a2⟩:=EnvOk.args (h.let_ t) hus
   refine ⟨sl',?_,a2⟩
   simp only [argVals,h.get h1,a1,eX]
  ·cases h2
 |.inr x::l,e,e',sl,vs,h,ha=>by
  simp only [argsK] at ha
  split at ha
  ·rename_i v hv
   split at ha
   ·rename_i us e1 hus
    cases ha
    obtain ⟨sl',a1,a2⟩:=EnvOk.args h hus
    refine ⟨sl',?_,a2⟩
    simp only [argVals,h.opnd hv,a1,eX]
   ·cases ha
  ·cases ha
end
section
variable {G:Nat→Option (List AV)}{N bs:Nat}{P:List Nat}{K:FuncId→List AV→List AObj→KR}
def Held (A:List (Nat×Bool))(sl:List AV):Prop:=∀p∈A,sl[p.1]? = some (.bool p.2)
theorem Held.put {A:List (Nat×Bool)}{sl:List AV}(h:Held A sl){hp:List AObj}{ef:Eff}{bs:Nat}{d:Option Nat}(hd:∀p∈A,d≠some p.1)(v:AV):Held A (AState.put ⟨sl,hp,ef,bs⟩ d v).sl:=by
 cases d with
 |none=>exact h
 |some d =>
  intro p hp
  show (sl.set d v)[p.1]? = _
  rw [aU,if_neg (fun e=>hd p hp (by rw [e]))]
  exact h p hp
end
theorem nm_own (k:Nat)(r:List (List AV)):AV.nm (.own k r)=.lst k r:=rfl
theorem i64_in {x:Int}(h1:-9223372036854775808≤x)(h2:x≤9223372036854775807):IntKind.i64.wrap x=x:=IntWalk.i64_in x ⟨h1,h2⟩
theorem wrap_nat (n:Nat)(h:n<4611686018427387904):IntKind.i64.wrap ((n:Int)+1)=((n+1:Nat):Int):=by rw [i64_in (by omega) (by omega)];omega
end Go.Proofs.YtbcfddaocfpckaaGreatDoor.Abs
end
end
