import Derived.Deep.Quiet
import Derived.Orders
import Derived.LoopN
import Derived.Scope
import Derived.IntWalk
import Derived.Test.YtlmfmmclnboglaaGreatS0
set_option linter.all false
section
section
namespace Go.Proofs.YtlmfmmclnboglaaGreat.Abs
open Go Go.RowKit
section
variable {P:Program}{w:World}
def Ztc (e:AV×AV)(m:MapEntry):Prop:=e.1.flat=true∧e.2.flat1=true∧m.key=e.1.conc∧m.val=e.2.conc1
theorem Zf6 {c:CK}{a b:AV}(h:TN c a b=some true):a.conc1=b.conc1:=by
 cases c <;> cases a <;> cases b <;> simp only [TN] at h <;> try (cases h; done)
 ·split at h
  ·rename_i e
   subst e
   simp only [Option.some.injEq,beq_iff_eq] at h
   rw [h]
  ·cases h
 ·simp only [Option.some.injEq,beq_iff_eq] at h
  rw [h]
 ·simp only [Option.some.injEq,beq_iff_eq] at h
  rw [h]
theorem Zk8 {c:CK}{a b:AV}{q:Bool}(h:TN c a b=some q):a.flat1=true∧b.flat1=true:=by
 cases c <;> cases a <;> cases b <;> simp only [TN] at h <;> first | (cases h; done) | exact ⟨rfl,rfl⟩
theorem Zc4 {a:AV}(h:a.flat1=true):a.conc=a.conc1:=by cases a <;> first | rfl | (cases h)
theorem ZlU {kt:TypeId}{c:CK}(hk:ZlT P kt=some (.one c)):Zmw P kt=some c:=by
 unfold ZlT at hk
 split at hk
 ·split at hk
  ·split at hk <;> cases hk
  ·cases hk
 ·obtain ⟨c',h1,h2⟩:=Option.map_eq_some_iff.1 hk
  cases h2; exact h1
theorem Zne {kt:TypeId}{c:CK}(hk:ZlT P kt=some (.pair c)):∃ e,P.underlying kt=some (.array 2 e)∧Zmw P e=some c∧P.cellsOf e=1:=by
 unfold ZlT at hk
 split at hk
 ·rename_i n e hu
  split at hk
  ·rename_i c' hc
   split at hk
   ·rename_i h2
    cases hk
    obtain ⟨hsz,rfl⟩:=h2
    exact ⟨e,hu,hc,hsz⟩
   ·cases hk
  ·cases hk
 ·obtain ⟨_,_,e⟩:=Option.map_eq_some_iff.1 hk; cases e
theorem Z0Q {kt:TypeId}{sh:KSh}{a b:AV}{q:Bool}(hk:ZlT P kt=some sh)(h:Znd sh a b=some q)(w:World):(Op.equal kt a.conc b.conc).run P w=.ok q w∧(q=true→a.conc=b.conc):=by
 cases sh with
 | one c =>
  have hc:=ZlU hk
  obtain ⟨f1,f2⟩:=Zk8 h
  rw [Zc4 f1,Zc4 f2]
  exact ⟨ZmZ (Γ := fun _=>.imm) (w := w) hc (Zat f1 _ w) (Zat f2 _ w) h 9999 w,fun e=>by subst e; exact Zf6 h⟩
 | pair c =>
  obtain ⟨e,hu,hc,hsz⟩:=Zne hk
  unfold Znd at h
  split at h <;> try (cases h; done)
  ·rename_i e; cases e
  rename_i c' x0 x1 y0 y1 e'
  cases e'
  obtain ⟨g1,g2⟩:=Zlc hc
  obtain ⟨ie,hie⟩:=info_of_underlying g2
  have hp:∀ (z0 z1:Value) (W:World),(part e #[z0,z1] 0).run P W=.ok z0 W∧(part e #[z0,z1] 1).run P W=.ok z1 W:=fun z0 z1 W=>⟨Zdr g1 g2 rfl W,Zdr g1 g2 rfl W⟩
  have he:∀ {x y:AV} {r:Bool},TN c x y=some r→∀ W,(Op.equalIn 9999 e x.conc1 y.conc1).run P W=.ok r W:=fun hr W=>by
   obtain ⟨f1,f2⟩:=Zk8 hr
   exact ZmZ (Γ := fun _=>.imm) (w := W) hc (Zat f1 _ W) (Zat f2 _ W) hr 9998 W
  have hrun:∀ {q0:Bool},TN c x0 y0=some q0→∀ q1,(q0=true→TN c x1 y1=some q1)→(Op.equal kt (AV.agg [x0,x1]).conc (AV.agg [y0,y1]).conc).run P w=.ok (q0 && q1) w:=by
   intro q0 h0 q1 h1
   have e0:=he h0 w
   have:=run_equalIn_array (P := P) w 9999 (AV.conc1 x0 :: [AV.conc1 x1]).toArray (AV.conc1 y0 :: [AV.conc1 y1]).toArray hu hie
   show (Op.equalIn (9999 + 1) kt (.agg (AV.conc1 x0 :: [AV.conc1 x1]).toArray) (.agg (AV.conc1 y0 :: [AV.conc1 y1]).toArray)).run P w=_
   rw [this,hsz]
   show (Op.eqItems 9999 e 1 #[x0.conc1,x1.conc1] #[y0.conc1,y1.conc1] [0,1]).run P w=_
   simp only [Op.eqItems,Sem.run_bind,Nat.mul_one,(hp _ _ w).1,Result.andThen_ok,e0]
   cases q0 with
   | false=>simp
   | true =>
    have e1:=he (h1 rfl) w
    simp only [Bool.not_true,Bool.false_eq_true,if_false,Sem.run_bind,(hp _ _ w).2,Result.andThen_ok,e1]
    cases q1 <;> simp
  cases h0:TN c x0 y0 with
  | none=>rw [h0] at h; cases h
  | some q0 =>
   rw [h0] at h
   cases q0 with
   | false =>
    obtain rfl:=Option.some.inj h
    exact ⟨by simpa using hrun h0 false (fun h=>by cases h),fun h=>by cases h⟩
   | true =>
    have h1:TN c x1 y1=some q:=h
    refine ⟨by simpa using hrun h0 q (fun _=>h1),fun e=>?_⟩
    subst e
    simp only [AV.conc,List.map_cons,List.map_nil,Zf6 h0,Zf6 h1]
structure Found (sh:KSh)(k:AV)(es:List (AV×AV))(st:Nat)(r:Option AV)(q:Option (Nat×Value)):Prop where
 no:r=none→q=none∧∀ v,update sh k v es=some (es ++ [(k,v)])
 yes:∀ v,r=some v→∃ i k',q=some (st + i,v.conc1)∧v.flat1=true∧es[i]? = some (k',v)∧k.conc=k'.conc∧∀ v2,update sh k v2 es=some (es.set i (k',v2))
theorem Found.here {sh:KSh}{k k' v:AV}{es:List (AV×AV)}{st:Nat}(hq:Znd sh k k'=some true)(hc:k.conc=k'.conc)(hf:v.flat1=true):Found sh k ((k',v) :: es) st (some v) (some (st,v.conc1)) :=
 ⟨fun e=>(by cases e),fun u e=>by cases e; exact ⟨0,k',rfl,hf,rfl,hc,fun v2=>by simp [update,hq]⟩⟩
theorem Found.later {sh:KSh}{k k' v:AV}{es:List (AV×AV)}{st:Nat}{r:Option AV}{q:Option (Nat×Value)}(hq:Znd sh k k'=some false)(h:Found sh k es (st + 1) r q):Found sh k ((k',v) :: es) st r q:=by
 refine ⟨fun e=>⟨(h.no e).1,fun v2=>by simp [update,hq,(h.no e).2 v2]⟩,fun u e=>?_⟩
 obtain ⟨i,k2,h1,h2,h3,h4,h5⟩:=h.yes u e
 exact ⟨i + 1,k2,by rw [h1,Nat.add_assoc,Nat.add_comm 1 i],h2,by simpa using h3,h4,fun v2=>by simp [update,hq,h5 v2]⟩
theorem Found.none_ {sh:KSh}{k:AV}{st:Nat}:Found sh k [] st none none:=⟨fun _=>⟨rfl,fun _=>rfl⟩,fun _ e=>by cases e⟩
theorem Zyi {kt:TypeId}{sh:KSh}{k:AV}(hk:ZlT P kt=some sh)(w:World):∀ {es:List (AV×AV)} {ms:List MapEntry} {r:Option AV} (st:Nat),Zve Ztc es ms→find sh k es=some r →
  ∃ q,(Instr.findAsking kt k.conc ms st).run P w=.ok q w∧Found sh k es st r q
 | _,_,r,st,.nil,h=>by
  obtain rfl:=Option.some.inj h
  exact ⟨none,rfl,.none_⟩
 | _,_,r,st,.cons (x := e) (y := m) (l := es) (m := ms) he hes,h=>by
  obtain ⟨k',v⟩:=e
  simp only [find] at h
  cases hq:Znd sh k k' with
  | none=>rw [hq] at h; cases h
  | some q =>
   rw [hq] at h
   obtain ⟨e1,e2⟩:=Z0Q hk hq w
   obtain ⟨r1,r2,r3,r4⟩:=he
   cases q with
   | true =>
    obtain rfl:=Option.some.inj h
    refine ⟨some (st,v.conc1),?_,.here hq (e2 rfl) r2⟩
    simp only [Instr.findAsking,Sem.run_bind,r3,e1,Result.andThen_ok,r4]
    rfl
   | false =>
    obtain ⟨q,h1,h2⟩:=Zyi hk w (st + 1) hes h
    refine ⟨q,?_,.later hq h2⟩
    simp only [Instr.findAsking,Sem.run_bind,r3,e1,Result.andThen_ok]
    exact h1
theorem ZxM {kt:TypeId}{c:CK}{a b:AV}{q:Bool}{d:TypeDesc}(hc:Zmw P kt=some c)(hd:P.underlying kt=some d)(h:TN c a b=some q):Instr.sameNow d a.conc1 b.conc1=some q:=by
 unfold Zmw at hc
 rw [hd] at hc
 cases d <;> simp only at hc <;> try (cases hc; done)
 all_goals
  cases hc
  cases a <;> cases b <;> simp only [TN] at h <;> try (cases h; done)
 all_goals first
  | exact h
  | (simp only [AV.conc1,Instr.sameNow]; rw [← h]; congr 1; rw [Bool.eq_iff_iff,beq_toListBytes]; simp)
theorem Zqz {kt:TypeId}{c:CK}{k:AV}{d:TypeDesc}(hk:ZlT P kt=some (.one c))(hd:P.underlying kt=some d):∀ {es:List (AV×AV)} {ms:List MapEntry} {r:Option AV} (st:Nat),Zve Ztc es ms→find (.one c) k es=some r →
  ∃ q,Instr.findNow d k.conc ms st=some q∧Found (.one c) k es st r q
 | _,_,r,st,.nil,h=>by
  obtain rfl:=Option.some.inj h
  exact ⟨none,rfl,.none_⟩
 | _,_,r,st,.cons (x := e) (y := m) (l := es) (m := ms) he hes,h=>by
  obtain ⟨k',v⟩:=e
  simp only [find] at h
  cases hq:Znd (.one c) k k' with
  | none=>rw [hq] at h; cases h
  | some q =>
   rw [hq] at h
   obtain ⟨r1,r2,r3,r4⟩:=he
   obtain ⟨f1,f2⟩:=Zk8 hq
   have hs:=ZxM (ZlU hk) hd hq
   rw [← Zc4 f1,← Zc4 f2] at hs
   cases q with
   | true =>
    obtain rfl:=Option.some.inj h
    refine ⟨some (st,v.conc1),?_,.here hq (by rw [Zc4 f1,Zc4 f2]; exact Zf6 hq) r2⟩
    simp only [Instr.findNow,r3,hs,r4]
   | false =>
    obtain ⟨q,h1,h2⟩:=Zqz hk hd (st + 1) hes h
    refine ⟨q,?_,.later hq h2⟩
    simp only [Instr.findNow,r3,hs]
    exact h1
theorem Zk9 {kt:TypeId}{sh:KSh}{k:AV}(hk:ZlT P kt=some sh)(w:World){es:List (AV×AV)}{ms:List MapEntry}{r:Option AV}(he:Zve Ztc es ms)(h:find sh k es=some r) :
  ∃ q,(Instr.findKey kt k.conc ms).run P w=.ok q w∧Found sh k es 0 r q:=by
 cases sh with
 | one c =>
  have hc:=ZlU hk
  obtain ⟨d,hd⟩:=Option.isSome_iff_exists.1 (Zlc hc).2
  obtain ⟨q,h1,h2⟩:=Zqz hk hd 0 he h
  exact ⟨q,Go.MapKept.run_findKey hd h1,h2⟩
 | pair c =>
  obtain ⟨e,hu,_,_⟩:=Zne hk
  obtain ⟨q,h1,h2⟩:=Zyi hk w 0 he h
  exact ⟨q,(run_findKey_eq w (by rw [hu]) _ _).trans h1,h2⟩
theorem ZkA {sh:KSh}{k:AV}(h:Zdm sh k=true):k.flat=true:=by
 unfold Zdm at h
 split at h <;> first | rfl | (cases h; done)
theorem ZnA {kt:TypeId}{sh:KSh}{k:AV}(hk:ZlT P kt=some sh)(h:Zdm sh k=true)(e:Bool)(w:World):(Instr.checkKey e 10000 kt k.conc).run P w=.ok () w:=by
 have plain:∀ {t:TypeId} {c:CK} (n:Nat) (v:Value),Zmw P t=some c→(Instr.checkKey e (n + 1) t v).run P w=.ok () w:=fun {t c} n v hc=>by
  unfold Zmw at hc
  cases hd:P.underlying t with
  | none=>rw [hd] at hc; cases hc
  | some d =>
   rw [hd] at hc
   cases d <;> simp only at hc <;> try (cases hc; done)
   all_goals simp [Instr.checkKey,run_underlying hd]
 cases sh with
 | one c=>exact plain 9999 _ (ZlU hk)
 | pair c =>
  obtain ⟨el,hu,hc,hsz⟩:=Zne hk
  obtain ⟨g1,g2⟩:=Zlc hc
  obtain ⟨ie,hie⟩:=info_of_underlying g2
  have hp:∀ (z0 z1:Value),(part el #[z0,z1] 0).run P w=.ok z0 w∧(part el #[z0,z1] 1).run P w=.ok z1 w:=fun z0 z1=>⟨Zdr g1 g2 rfl w,Zdr g1 g2 rfl w⟩
  have hs:=Ut hie w
  rw [hsz] at hs
  have key:∀ x0 x1:AV,(Instr.checkKey e (9999 + 1) kt (AV.agg [x0,x1]).conc).run P w=.ok () w:=fun x0 x1=>by
   have p1:=plain 9998 x0.conc1 hc
   have p2:=plain 9998 x1.conc1 hc
   simp only [AV.conc,List.map_cons,List.map_nil]
   unfold Instr.checkKey
   simp only [Sem.run_bind,run_underlying hu,Result.andThen_ok]
   simp only [Std.Legacy.Range.forIn_eq_forIn_range',Std.Legacy.Range.size,Nat.sub_zero,Nat.add_one_sub_one,Nat.div_one]
   simp only [List.range'_succ,List.range'_zero,List.forIn_cons,List.forIn_nil,Sem.run_bind,hs,Result.andThen_ok,Nat.zero_mul,Nat.zero_add,Nat.mul_one,(hp _ _).1,(hp _ _).2,p1,p2,Sem.run_pure]
  unfold Zdm at h
  split at h <;> try (cases h; done)
  all_goals first | exact key _ _ | (rename_i e; cases e; done) | (rename_i e _; cases e; done) | (rename_i e _ _; cases e; done) | (rename_i e _ _ _; cases e; done)
end
end Go.Proofs.YtlmfmmclnboglaaGreat.Abs
end
section
namespace Go.Proofs.YtlmfmmclnboglaaGreat.Abs
open Go Go.RowKit
section
variable {P:Program}{G:Nat→Option (List AV)}{E:Entry}{s:Z7}{Γ:QS}{a:Act}{w:World}{o:Oper}
theorem Zkc {v:AV}{cv:Value}(h:Rep Γ w v cv)(hf:v.flat=true):cv=v.conc:=by
 cases h with
 | agg cells cv hs h1 hn hr =>
  simp only [AV.flat,List.all_eq_true] at hf
  simp only [AV.conc,Value.agg.injEq]
  apply Array.ext'
  apply List.ext_getElem?
  intro j
  simp only [List.getElem?_map,Array.getElem?_toList]
  by_cases hj:j < cells.length
  ·have hc:=List.getElem?_eq_getElem hj
   have:=(hr j _ hc).conc1 (hf _ (List.getElem_mem hj))
   rw [hc,Option.map_some,← this]
   exact Ob (by omega)
  ·rw [List.getElem?_eq_none (by omega),Array.getElem?_eq_none (by omega)]; rfl
 | tup vs cv hs hr =>
  simp only [AV.flat,List.all_eq_true] at hf
  simp only [AV.conc,Value.tuple.injEq]
  apply Array.ext'
  apply List.ext_getElem?
  intro j
  simp only [List.getElem?_map,Array.getElem?_toList]
  by_cases hj:j < vs.length
  ·have hc:=List.getElem?_eq_getElem hj
   have:=(hr j _ hc).conc1 (hf _ (List.getElem_mem hj))
   rw [hc,Option.map_some,← this]
   exact Ob (by omega)
  ·rw [List.getElem?_eq_none (by omega),Array.getElem?_eq_none (by omega)]; rfl
 | fn f fst caps fv cv hs1 hr1 hs hr =>
  exact (Rep.fn f fst caps fv cv hs1 hr1 hs hr).conc1 hf
 | _=>first | rfl | (cases hf; done)
theorem Zpw {es:List (AV×AV)}{ms:Array MapEntry}(hs:ms.size=es.length)(h:∀ (i:Nat) (e:AV×AV),es[i]? = some e→∃ m,ms[i]? = some m∧e.1.flat=true∧e.2.flat1=true∧m.key=e.1.conc∧m.val=e.2.conc1):Zve Ztc es ms.toList:=by
 refine Zve.of_get (by simpa using hs.symm) fun j e m he hm=>?_
 obtain ⟨m',h1,h2⟩:=h j e he
 rw [Array.getElem?_toList,h1] at hm
 cases hm
 exact h2
theorem Z2k {t:TypeId}{z:AV}(hz:zeroOf P t=some z)(hf:z.flat1=true)(w:World):(zeroValue t).run P w=.ok z.conc1 w:=by
 obtain ⟨i,zv,hi,hzv,hrep⟩:=Cj hz
 rw [← (hrep (fun _=>.imm) w).1.conc1 hf]
 simp [zeroValue,typeInfo,hi,hzv]
def Z0Z (ok:Bool)(z:AV):Option AV→Value
 | some v=>if ok then .tuple #[v.conc1,.bool true] else v.conc1
 | none=>if ok then .tuple #[z.conc1,.bool false] else z.conc1
def Z3U (ok:Bool)(z:AV):Option AV→AV
 | some v=>if ok then AV.tup [v,.bool true] else v
 | none=>if ok then AV.tup [z,.bool false] else z
theorem Zz8 {t kt et:TypeId}{sh:KSh}{k z:AV}{ok:Bool}{b:Nat}{ms:Array MapEntry}{clk:Nat}{es:List (AV×AV)}{r:Option AV}(ht:P.underlying t=some (.map kt et))(hk:ZlT P kt=some sh)(hb:w.heap[b]? = some (.map ms clk))(he:Zve Ztc es ms.toList)(hf:find sh k es=some r)
  (hck:∀ emp,(Instr.checkKey emp 10000 kt k.conc).run P w=.ok () w) (hz:(zeroValue et).run P w=.ok z.conc1 w):(Instr.lookup t (.map (some b)) k.conc ok).run P w=.ok (Z0Z ok z r) w∧∀ v,r=some v→v.flat1=true:=by
 obtain ⟨q,e1,e2⟩:=Zk9 hk w he hf
 cases r with
 | none =>
  obtain ⟨rfl,_⟩:=e2.no rfl
  refine ⟨?_,fun v e=>by cases e⟩
  simp only [Instr.lookup,Sem.run_bind,run_underlying ht,MapKept.run_getObj_map hb,hck,Result.andThen_ok,e1,hz,Sem.run_pure]
  rfl
 | some v =>
  obtain ⟨j,k',rfl,hv,_⟩:=e2.yes v rfl
  refine ⟨?_,fun v' e=>by cases e; exact hv⟩
  simp only [Instr.lookup,Sem.run_bind,run_underlying ht,MapKept.run_getObj_map hb,hck,Result.andThen_ok,e1,Sem.run_pure]
  rfl
theorem Z5e (hG:GOk G E.W0)(hI:Inv E s Γ a w){t kt et:TypeId}{sh:KSh}{z:AV}{x i:Operand}{x' i':KX}{u k v:AV}{ok:Bool}(ho:o.op=.lookup t x i ok)(ht:P.underlying t=some (.map kt et))(hk:ZlT P kt=some sh)(hz:zeroOf P et=some z)(hzf:z.flat1=true)
  (hcx:V9 P t x=some x') (hci:V9 P kt i=some i') (hx:opnd G s.sl x'=some u) (hi:opnd G s.sl i'=some k) (h:Zet s.hp sh z u k ok=some v):Zgt P E s v a w o:=by
 have k1:=(YZ hG hI hcx hx).1
 have k2:=(YZ hG hI hci hi).1
 unfold Zet at h
 split at h
 ·cases h
 rename_i hfit
 have hfit:Zdm sh k=true:=by simpa using hfit
 have hkc:=Zkc k2 (ZkA hfit)
 have hzr:=Z2k hz hzf w
 have hck:∀ emp,(Instr.checkKey emp 10000 kt k.conc).run P w=.ok () w:=fun emp=>ZnA hk hfit emp w
 have fin:∀ (r:Option AV),(∀ v,r=some v→v.flat1=true)→(execOp a.eval o).run P w=.ok (.value (Z0Z ok z r)) w →
   Z3U ok z r=v→Zgt P E s v a w o:=by
  intro r hr hrun hv
  have two:∀ (y:AV) (b:Bool),y.flat1=true→Rep Γ w (if ok then AV.tup [y,.bool b] else y) (if ok then Value.tuple #[y.conc1,.bool b] else y.conc1):=fun y b hy=>by
   cases ok with
   | false=>exact Zat hy Γ w
   | true =>
    refine .tup _ #[y.conc1,.bool b] rfl fun j c hj=>?_
    match j with
    | 0=>cases hj; exact Zat hy Γ w
    | 1=>cases hj; exact .bool b
    | j + 2=>simp at hj
  have nown:∀ (y:AV) (b:Bool),y.flat1=true→∀ k r,(if ok then AV.tup [y,.bool b] else y)≠.own k r:=fun y b hy=>by
   cases ok with
   | false=>exact ZvU hy
   | true=>intro k r e; cases e
  cases r with
  | some y =>
   subst hv
   exact .pure hI hrun (two y true (hr y rfl)) fun k r e=>absurd e (nown y true (hr y rfl) k r)
  | none =>
   subst hv
   exact .pure hI hrun (two z false hzf) fun k r e=>absurd e (nown z false hzf k r)
 generalize hq:a.eval x=q at k1
 have hexec:∀ r,(Instr.lookup t q k.conc ok).run P w=.ok r w→(execOp a.eval o).run P w=.ok (.value r) w:=fun r hr=>by
  simp only [execOp,ho,hq,hkc]
  rw [Sem.run_bind,hr]; rfl
 have some_:∀ {g:Nat} {es:List (AV×AV)} {r:Option AV},s.hp[g]? = some (.map es)→find sh k es=some r→Rep Γ w (.map g) q→Z3U ok z r=v→Zgt P E s v a w o:=by
  intro g es r hg hf hm hv
  cases hm with
  | map _ b hb =>
   obtain ⟨b',ms,clk,h1,h2,h3,h4⟩:=hI.rw.objs g _ hg
   obtain rfl:=hI.rw.inj b b' g hb h1
   obtain ⟨m1,m2⟩:=Zz8 (ok := ok) ht hk h2 (Zpw h3 h4) hf hck hzr
   exact fin r m2 (hexec _ m1) hv
 split at h
 ·rename_i y hy
  split at hy <;> first | (cases hy; done) | skip
  split at hy <;> first | (cases hy; done) | skip
  rename_i hg
  exact some_ hg hy k1 (Option.some.inj h)
 ·rename_i hy
  split at hy <;> first | (cases hy; done) | skip
  ·cases k1
   refine fin none (fun v e=>by cases e) (hexec _ ?_) (Option.some.inj h)
   simp only [Instr.lookup,Sem.run_bind,run_underlying ht,Result.andThen_ok,Sem.run_pure,hck]
   have:(Instr.findKey kt k.conc []).run P w=.ok none w:=by
    obtain ⟨q,e1,e2⟩:=Zk9 (k := k) (r := none) hk w (.nil:Zve Ztc [] []) rfl
    obtain ⟨rfl,_⟩:=e2.no rfl
    exact e1
   simp only [this,Result.andThen_ok,Sem.run_bind,hzr,Sem.run_pure]
   rfl
  ·split at hy <;> first | (cases hy; done) | skip
   rename_i hg
   exact some_ hg hy k1 (Option.some.inj h)
 ·cases h
theorem ZfD {c:CK}{x y:AV}(n:Nat)(h:TN c x y=some true):Instr.sameBits n y.conc1 x.conc1=true:=by
 cases c <;> cases x <;> cases y <;> simp only [TN] at h <;> try (cases h; done)
 ·split at h
  ·rename_i e
   subst e
   simp only [Option.some.injEq,beq_iff_eq] at h
   subst h
   simp [AV.conc1,Instr.sameBits]
  ·cases h
 ·simp only [Option.some.injEq,beq_iff_eq] at h
  subst h
  simp [AV.conc1,Instr.sameBits]
 ·simp only [Option.some.injEq,beq_iff_eq] at h
  subst h
  simp [AV.conc1,Instr.sameBits,beq_toListBytes]
theorem ZuR {sh:KSh}{k:AV}(h:Zdm sh k=true):Instr.sameBits 10000 k.conc k.conc=true:=by
 have one:∀ (x:AV),(∃ k n,x=.int k n)∨(∃ b,x=.bool b)∨(∃ s,x=.str s)→∀ n,Instr.sameBits n x.conc1 x.conc1=true:=fun x hx n=>by
  rcases hx with ⟨k,m,rfl⟩ | ⟨b,rfl⟩ | ⟨s,rfl⟩
  ·exact ZfD (c := .int) n (by simp [TN])
  ·exact ZfD (c := .bool) n (by simp [TN])
  ·exact ZfD (c := .str) n (by simp [TN])
 have two:∀ x y:AV,((∃ k n,x=.int k n)∨(∃ b,x=.bool b)∨(∃ s,x=.str s))→((∃ k n,y=.int k n)∨(∃ b,y=.bool b)∨(∃ s,y=.str s))→Instr.sameBits (9999 + 1) (AV.agg [x,y]).conc (AV.agg [x,y]).conc=true:=fun x y hx hy=>by
  simp only [AV.conc,List.map_cons,List.map_nil,Instr.sameBits,List.zip_cons_cons,List.zip_nil_right,List.all_cons,List.all_nil,one x hx 9999,one y hy 9999,beq_self_eq_true,Bool.and_self]
 unfold Zdm at h
 split at h <;> try (cases h; done)
 ·exact one _ (.inl ⟨_,_,rfl⟩) _
 ·exact one _ (.inr (.inl ⟨_,rfl⟩)) _
 ·exact one _ (.inr (.inr ⟨_,rfl⟩)) _
 ·exact two _ _ (.inl ⟨_,_,rfl⟩) (.inl ⟨_,_,rfl⟩)
 ·exact two _ _ (.inr (.inr ⟨_,rfl⟩)) (.inr (.inr ⟨_,rfl⟩))
theorem Z5h (hG:GOk G E.W0)(hI:Inv E s Γ a w){t kt et:TypeId}{sh:KSh}{m k v:Operand}{m' k' v':KX}{g:Nat}{ka va:AV}{es es':List (AV×AV)}(ho:o.op=.mapUpdate t m k v)(ht:P.underlying t=some (.map kt et))(hk:ZlT P kt=some sh)
  (hcm:V9 P t m=some m') (hck:V9 P kt k=some k') (hcv:V9 P et v=some v') (hm:opnd G s.sl m'=some (.map g)) (hka:opnd G s.sl k'=some ka) (hva:opnd G s.sl v'=some va) (hg:s.hp[g]? = some (.map es)) (hfit:Zdm sh ka=true) (hvf:va.flat1=true)
  (hf:∃ r,find sh ka es=some r) (hu:update sh ka va es=some es'):Zgt P E { s with hp:=s.hp.set g (.map es'),ef := s.note g 0 } .undef a w o:=by
 obtain ⟨r,hf⟩:=hf
 have k1:=(YZ hG hI hcm hm).1
 have hkc:=Zkc (YZ hG hI hck hka).1 (ZkA hfit)
 have hvc:=(YZ hG hI hcv hva).1.conc1 hvf
 generalize hq:a.eval m=q at k1
 cases k1 with
 | map _ b hb =>
  obtain ⟨b',ms,clk,h1,h2,h3,h4⟩:=hI.rw.objs g _ hg
  obtain rfl:=hI.rw.inj b b' g hb h1
  obtain ⟨q,e1,e2⟩:=Zk9 hk w (Zpw h3 h4) hf
  have hlt:=lt_of_some h2
  have step:∀ (ms':Array MapEntry) (clk':Nat),(ms'.size=es'.length∧∀ (i:Nat) (e:AV×AV),es'[i]? = some e→∃ m,ms'[i]? = some m∧e.1.flat=true∧e.2.flat1=true∧m.key=e.1.conc∧m.val=e.2.conc1) →
    Inv E { s with hp:=s.hp.set g (.map es'),ef := s.note g 0 } Γ a { w with heap:=w.heap.setIfInBounds b (.map ms' clk') }:=fun ms' clk' hrel=>by
   have same:∀ b',b'≠b→({ w with heap:=w.heap.setIfInBounds b (.map ms' clk') }:World).heap[b']? = w.heap[b']?:=fun b' hne=>by simp [Ne.symm hne]
   refine hI.update hb ⟨rfl,rfl,rfl,by simp,fun b' _ hne=>⟨rfl,same b' hne⟩,fun b' q y k1 k2=>⟨k1,?_⟩,.refl _⟩ (Zc5 s g 0) (by simp) ⟨b,ms',clk',hb,by simp [hlt],hrel.1,hrel.2⟩
   have:b'≠b:=by
    rintro rfl
    unfold Zgs at k1
    rw [hb] at k1
    exact k1
   exact (ZeF (same b' this)).trans k2
  have hexec:∀ w',(Instr.mapUpdate t (.map (some b)) ka.conc va.conc1).run P w=.ok () w'→(execOp a.eval o).run P w=.ok .skip w':=fun w' hr=>by
   simp only [execOp,ho,hq,hkc,hvc]
   rw [Sem.run_bind,hr]; rfl
  have hchk:=ZnA hk hfit false w
  cases r with
  | none =>
   obtain ⟨rfl,hup⟩:=e2.no rfl
   have:=(hup va).symm.trans hu
   obtain rfl:=Option.some.inj this
   refine ⟨Γ,Go.undef,_,.inr ⟨hexec { w with heap:=w.heap.setIfInBounds b (.map (ms.push { key := ka.conc,val := va.conc1,born := clk }) (clk + 1)) } ?_,rfl⟩,step _ _ ⟨by simp [h3],fun i e he=>?_⟩,.undef,.of_ne (by simp)⟩
   ·simp only [Instr.mapUpdate,Sem.run_bind,run_underlying ht,Result.andThen_ok,MapKept.run_getObj_map h2,hchk,e1,MapKept.run_setObj_map _ h2]
   ·rw [List.getElem?_append] at he
    split at he
    ·rename_i hi
     obtain ⟨m,a1,a2⟩:=h4 i e he
     exact ⟨m,by rw [Array.getElem?_push,if_neg (by omega)]; exact a1,a2⟩
    ·rename_i hi
     have hi':i=es.length:=by
      rcases Nat.lt_or_ge (i - es.length) 1 with h' | h'
      ·omega
      ·rw [List.getElem?_eq_none (by simpa using h')] at he; cases he
     subst hi'
     simp only [Nat.sub_self,List.getElem?_cons_zero,Option.some.injEq] at he
     subst he
     exact ⟨_,by rw [Array.getElem?_push,if_pos h3.symm],ZkA hfit,hvf,rfl,rfl⟩
  | some u =>
   obtain ⟨i,k2,rfl,_,hei,hkk,hup⟩:=e2.yes u rfl
   have:=(hup va).symm.trans hu
   obtain rfl:=Option.some.inj this
   obtain ⟨mi,a1,a2,a3,a4,a5⟩:=h4 i _ hei
   have hkeep:(Instr.keyThatStays (((ms[0 + i]?).map (·.key)).getD ka.conc) ka.conc).run P w=.ok ka.conc w:=by
    rw [Nat.zero_add,a1]
    simp only [Option.map_some,Option.getD_some,a4]
    unfold Instr.keyThatStays
    rw [← hkk,if_pos (ZuR hfit)]
    rfl
   refine ⟨Γ,Go.undef,_,.inr ⟨hexec { w with heap:=w.heap.setIfInBounds b (.map (ms.modify (0 + i) fun e=>{ e with key:=ka.conc,val := va.conc1 }) clk) } ?_,rfl⟩,step _ _ ⟨by simp [h3],fun j e he=>?_⟩,.undef,.of_ne (by simp)⟩
   ·simp only [Instr.mapUpdate,Sem.run_bind,run_underlying ht,Result.andThen_ok,MapKept.run_getObj_map h2,hchk,e1,hkeep,MapKept.run_setObj_map _ h2]
   ·rw [Nat.zero_add,Array.getElem?_modify]
    rw [List.getElem?_set] at he
    split at he
    ·rename_i hij
     subst hij
     split at he
     ·obtain rfl:=Option.some.inj he
      refine ⟨{ mi with key:=ka.conc,val := va.conc1 },by rw [if_pos rfl,a1]; rfl,a2,hvf,hkk,rfl⟩
     ·cases he
    ·rename_i hij
     obtain ⟨m,b1,b2⟩:=h4 j e he
     exact ⟨m,by rw [if_neg hij]; exact b1,b2⟩
end
end Go.Proofs.YtlmfmmclnboglaaGreat.Abs
end
section
namespace Go.Proofs.YtlmfmmclnboglaaGreat.Abs
open Go Go.RowKit
theorem ZrM {sh:KSh}{k v:AV}:∀ {es es':List (AV×AV)},update sh k v es=some es'→∃ r,find sh k es=some r
 | [],_,_=>⟨none,rfl⟩
 | (k',v') :: l,es',h=>by
  simp only [update] at h
  simp only [find]
  split at h
  ·exact ⟨_,rfl⟩
  ·obtain ⟨l',h',_⟩:=Option.map_eq_some_iff.1 h
   exact ZrM h'
  ·cases h
theorem IK {α β:Type}{x:Option α}{s s':β}{v:α}(h:x.map (·,s)=some (v,s')):x=some v∧s'=s:=by
 obtain ⟨y,h1,h2⟩:=Option.map_eq_some_iff.1 h
 cases h2
 exact ⟨h1,rfl⟩
section
variable {P:Program}{G:Nat→Option (List AV)}{call:FuncId→List AV→List Z5→Option (AV×List Z5×Eff)}{E:Entry}{s s':Z7}{Γ:QS}{a:Act}{w:World}{o:Oper}{hand:Nat→Bool}{draw:Bool}{ao:AOp}{v:AV}
theorem Z5l (hG:GOk G E.W0)(hI:Inv E s Γ a w){x:Operand}(hop:o.op=.move x)(hc:cOp P hand draw o=some ao)(h:ZF G call s ao=some (v,s')):ZdZ P E Γ s s' v a w o ao:=by
 simp only [cOp,hop] at hc
 split at hc
 ·rename_i t
  split at hc
  ·obtain rfl:=Option.some.inj hc
   simp only [ZF] at h
   split at h <;> try (cases h; done)
   rename_i u hu
   cases h
   exact (Z1o hI (.inl hop) hu).fit
  ·obtain rfl:=Option.some.inj hc
   replace h:=IK h; obtain ⟨h,hss⟩:=h
   subst hss
   exact (Z3a (t := 0) hG hI (.inl hop) rfl h).fit hI
 ·obtain ⟨y,hy,rfl⟩:=Option.map_eq_some_iff.1 hc
  replace h:=IK h; obtain ⟨h,hss⟩:=h
  subst hss
  exact (Z3a hG hI (.inl hop) hy h).fit hI
theorem Z1q (hG:GOk G E.W0)(hI:Inv E s Γ a w){x:Operand}(hop:o.op=.assign x)(hc:cOp P hand draw o=some ao)(h:ZF G call s ao=some (v,s')):ZdZ P E Γ s s' v a w o ao:=by
 simp only [cOp,hop] at hc
 split at hc
 ·rename_i t
  split at hc
  ·obtain rfl:=Option.some.inj hc
   replace h:=IK h; obtain ⟨h,hss⟩:=h
   subst hss
   exact (Z3a (t := 0) hG hI (.inr hop) rfl h).fit hI
  ·obtain rfl:=Option.some.inj hc
   simp only [ZF] at h
   split at h <;> try (cases h; done)
   rename_i u hu
   cases h
   exact (Z1o hI (.inr hop) hu).fit
 ·obtain ⟨y,hy,rfl⟩:=Option.map_eq_some_iff.1 hc
  replace h:=IK h; obtain ⟨h,hss⟩:=h
  subst hss
  exact (Z3a hG hI (.inr hop) hy h).fit hI
theorem Z5m (hG:GOk G E.W0)(hI:Inv E s Γ a w){c x y:Operand}(hop:o.op=.pick c x y)(hc:cOp P hand draw o=some ao)(h:ZF G call s ao=some (v,s')):ZdZ P E Γ s s' v a w o ao:=by
 simp only [cOp,hop] at hc
 split at hc <;> try (cases hc; done)
 rename_i c' x' y' h1 h2 h3
 obtain rfl:=Option.some.inj hc
 simp only [ZF] at h
 split at h <;> try (cases h; done)
 ·rename_i hb
  replace h:=IK h; obtain ⟨h,hss⟩:=h
  subst hss
  exact (Z1n (b := true) hG hI hop h1 h2 h3 hb h).fit hI
 ·rename_i hb
  replace h:=IK h; obtain ⟨h,hss⟩:=h
  subst hss
  exact (Z1n (b := false) hG hI hop h1 h2 h3 hb h).fit hI
theorem Z4g (hG:GOk G E.W0)(hI:Inv E s Γ a w)(hop:(∃ e,o.op=.alloc e)∨(∃ e x,o.op=.box e x))(hc:cOp P hand draw o=some ao)(h:ZF G call s ao=some (v,s')):ZdZ P E Γ s s' v a w o ao:=by
 rcases hop with ⟨e,hop⟩ | ⟨e,x,hop⟩
 ·simp only [cOp,hop] at hc
  split at hc <;> try (cases hc; done)
  rename_i z hz
  split at hc <;> try (cases hc; done)
  rename_i h1
  obtain rfl:=Option.some.inj hc
  simp only [ZF] at h
  cases h
  exact (Z7z hI hop hz h1).fit
 ·simp only [cOp,hop] at hc
  obtain ⟨y,hy,rfl⟩:=Option.map_eq_some_iff.1 hc
  simp only [ZF] at h
  split at h <;> try (cases h; done)
  rename_i u hu
  split at h <;> try (cases h; done)
  rename_i hl
  cases h
  exact (Z6z hG hI hop hy hu hl.2).fit
theorem Z3c (hG:GOk G E.W0)(hI:Inv E s Γ a w){t:TypeId}{parts:Array (Nat×Operand)}(hop:o.op=.build t parts)(hc:cOp P hand draw o=some ao)(h:ZF G call s ao=some (v,s')):ZdZ P E Γ s s' v a w o ao:=by
 simp only [cOp,hop] at hc
 split at hc <;> try (cases hc; done)
 rename_i hs
 split at hc <;> try (cases hc; done)
 rename_i z ps hz hp
 obtain rfl:=Option.some.inj hc
 simp only [ZF] at h
 split at h <;> try (cases h; done)
 rename_i vs hv
 obtain ⟨cs,h1,h2⟩:=Option.map_eq_some_iff.1 h
 cases h2
 exact (Z2X hG hI hop hs hz hp hv h1).fit
theorem Z69 (hG:GOk G E.W0)(hI:Inv E s Γ a w){t:TypeId}{len:Nat}{parts:Array (Nat×Operand)}(hop:o.op=.buildSlice t len parts)(hc:cOp P hand draw o=some ao)(h:ZF G call s ao=some (v,s')):ZdZ P E Γ s s' v a w o ao:=by
 simp only [cOp,hop] at hc
 split at hc <;> try (cases hc; done)
 rename_i e ht
 split at hc <;> try (cases hc; done)
 rename_i hx
 obtain ⟨h1,h2,h3,h4⟩:=hx
 obtain ⟨ps,hp,rfl⟩:=Option.map_eq_some_iff.1 hc
 by_cases hm:(hand Zic || hand (Zic + 1 + e))=true
 ·simp only [hm,if_true,ZF] at h ⊢
  split at h <;> try (cases h; done)
  rename_i vs hv
  split at h <;> try (cases h; done)
  rename_i hall
  cases h
  exact (Z1m hG hI hop ht h1 h2 h4 hp hv hall).fit
 ·simp only [if_neg hm,ZF] at h ⊢
  split at h <;> try (cases h; done)
  rename_i vs hv
  split at h
  ·rename_i hall
   cases h
   exact (Z65 hG hI hop ht h1 h2 h3 h4 hp hv hall).fit
  ·split at h <;> try (cases h; done)
   rename_i hall
   cases h
   exact (Z1m hG hI hop ht h1 h2 h4 hp hv hall).fit
theorem Z5k (hG:GOk G E.W0)(hI:Inv E s Γ a w){t:TypeId}{p:Operand}(hop:o.op=.load t p)(hc:cOp P hand draw o=some ao)(h:ZF G call s ao=some (v,s')):ZdZ P E Γ s s' v a w o ao:=by
 simp only [cOp,hop] at hc
 split at hc <;> try (cases hc; done)
 rename_i p' hp
 split at hc
 ·rename_i ht
  obtain rfl:=Option.some.inj hc
  simp only [ZF] at h
  split at h <;> try (cases h; done)
  rename_i x hx
  replace h:=IK h; obtain ⟨h,hss⟩:=h
  subst hss
  exact (Z62 hG hI hop ht hp hx h).fit hI
 ·rename_i ht
  have ht:ZbF P t=false:=by simpa using ht
  split at hc <;> try (cases hc; done)
  rename_i hu
  split at hc
  ·obtain rfl:=Option.some.inj hc
   simp only [ZF] at h
   split at h <;> try (cases h; done)
   rename_i g q hx
   split at h <;> try (cases h; done)
   rename_i cs t' hg
   split at h <;> try (cases h; done)
   rename_i u hv
   cases h
   exact (Z64 hG hI hop ht hu hp hx hg hv).fit
  ·obtain rfl:=Option.some.inj hc
   simp only [ZF] at h
   split at h <;> try (cases h; done)
   rename_i x hx
   replace h:=IK h; obtain ⟨h,hss⟩:=h
   subst hss
   exact (Z63 hG hI hop ht hu hp hx h).fit hI
theorem Z3e (hG:GOk G E.W0)(hI:Inv E s Γ a w){t:TypeId}{p x:Operand}(hop:o.op=.store t p x)(hc:cOp P hand draw o=some ao)(h:ZF G call s ao=some (v,s')):ZdZ P E Γ s s' v a w o ao:=by
 simp only [cOp,hop] at hc
 split at hc
 ·cases hc
 rename_i hti
 have hi:∃ i,P.info? t=some i:=by
  cases hq:P.info? t with
  | none=>rw [hq] at hti; exact absurd rfl hti
  | some i=>exact ⟨i,rfl⟩
 obtain ⟨i,hi⟩:=hi
 split at hc <;> try (cases hc; done)
 rename_i p' hp
 have st:∀ {y},V9 P t x=some y→ZF G call s (.st (P.cellsOf t) p' y)=some (v,s')→ZdZ P E Γ s s' v a w o (.st (P.cellsOf t) p' y):=by
  intro y hy h
  simp only [ZF] at h
  split at h <;> try (cases h; done)
  rename_i g q u hpp hx
  split at h <;> try (cases h; done)
  rename_i cs t' hg
  split at h <;> try (cases h; done)
  rename_i hn
  cases h
  exact (Z70 hG hI hi hop hp hy hpp hx hg hn).fit
 split at hc
 ·rename_i hag
  simp only [Bool.and_eq_true,Bool.not_eq_true',beq_iff_eq] at hag
  split at hc
  ·rename_i sl hsl
   have hx:x=.tmp sl:=by
    cases x <;> simp only [Z2K] at hsl <;> first | (cases hsl; done) | (cases hsl; rfl)
   subst hx
   obtain rfl:=Option.some.inj hc
   simp only [ZF] at h
   split at h <;> try (cases h; done)
   rename_i g q u hpp hx
   split at h <;> try (cases h; done)
   rename_i cs t' hg
   split at h <;> try (cases h; done)
   rename_i hn
   cases h
   exact (Z66 hG hI hi hag.2 hop hp hpp hx hg hn).fit
  ·obtain ⟨y,hy,rfl⟩:=Option.map_eq_some_iff.1 hc
   exact st hy h
 ·obtain ⟨y,hy,rfl⟩:=Option.map_eq_some_iff.1 hc
  exact st hy h
theorem ZqQ (hG:GOk G E.W0)(hI:Inv E s Γ a w)(hop:(∃ x,o.op=.nilCheck x)∨(∃ op t x y t',o.op=.binOp op t x y t')∨(∃ op t x,o.op=.unOp op t x))(hc:cOp P hand draw o=some ao)(h:ZF G call s ao=some (v,s')):ZdZ P E Γ s s' v a w o ao:=by
 rcases hop with ⟨x,hop⟩ | ⟨op,t,x,y,t',hop⟩ | ⟨op,t,x,hop⟩
 ·simp only [cOp,hop] at hc
  obtain ⟨y,hy,rfl⟩:=Option.map_eq_some_iff.1 hc
  simp only [ZF] at h
  split at h <;> try (cases h; done)
  ·rename_i hx; cases h; exact (ZqP hG hI hop hy hx (.inl ⟨_,rfl⟩)).fit hI
  ·rename_i hx; cases h; exact (ZqP hG hI hop hy hx (.inr (.inl ⟨_,_,rfl⟩))).fit hI
  ·rename_i hx; cases h; exact (ZqP hG hI hop hy hx (.inr (.inr ⟨_,_,_,rfl⟩))).fit hI
 ·simp only [cOp,hop] at hc
  split at hc <;> try (cases hc; done)
  rename_i sh x' y' h1 h2 h3
  obtain rfl:=Option.some.inj hc
  simp only [ZF] at h
  split at h <;> try (cases h; done)
  rename_i u u' hx hy
  replace h:=IK h; obtain ⟨h,hss⟩:=h
  subst hss
  exact (Z6y hG hI hop h1 h2 h3 hx hy h).fit hI
 ·simp only [cOp,hop] at hc
  obtain ⟨y,hy,rfl⟩:=Option.map_eq_some_iff.1 hc
  simp only [ZF] at h
  split at h <;> try (cases h; done)
  rename_i u hx
  replace h:=IK h; obtain ⟨h,hss⟩:=h
  subst hss
  exact (Z71 hG hI hop hy hx h).fit hI
theorem ZzG (hG:GOk G E.W0)(hI:Inv E s Γ a w){src dst:TypeId}{x:Operand}(hop:o.op=.convert src dst x)(hc:cOp P hand draw o=some ao)(h:ZF G call s ao=some (v,s')):ZdZ P E Γ s s' v a w o ao:=by
 simp only [cOp,hop] at hc
 split at hc <;> try (cases hc; done)
 ·rename_i x' k k' hx' hs hd
  obtain rfl:=Option.some.inj hc
  simp only [ZF] at h
  split at h <;> try (cases h; done)
  rename_i u hu
  replace h:=IK h; obtain ⟨h,hss⟩:=h
  subst hss
  cases u <;> simp only [Zau] at h <;> try (cases h; done)
  obtain rfl:=Option.some.inj h
  exact (Zx3 hG hI hop hs hd hx' hu).fit
 ·rename_i x' hx' hs hd
  obtain rfl:=Option.some.inj hc
  simp only [ZF] at h
  split at h <;> try (cases h; done)
  rename_i u hu
  replace h:=IK h; obtain ⟨h,hss⟩:=h
  subst hss
  cases u <;> simp only [Zau] at h <;> try (cases h; done)
  obtain rfl:=Option.some.inj h
  exact (Zx4 hG hI hop hs hd hx' hu).fit
 ·rename_i x' e hx' hs hd
  split at hc <;> try (cases hc; done)
  rename_i he
  obtain rfl:=Option.some.inj hc
  simp only [ZF] at h
  split at h <;> try (cases h; done)
  rename_i u hu
  replace h:=IK h; obtain ⟨h,hss⟩:=h
  subst hss
  cases u <;> simp only [Zau] at h <;> try (cases h; done)
  obtain rfl:=Option.some.inj h
  exact (Zu5 hG hI hop hs hd he hx' hu).fit
 ·rename_i x' e hx' hs hd
  split at hc <;> try (cases hc; done)
  rename_i he
  obtain rfl:=Option.some.inj hc
  simp only [ZF] at h
  split at h <;> try (cases h; done)
  rename_i u hu
  replace h:=IK h; obtain ⟨h,hss⟩:=h
  subst hss
  simp only [Zau] at h
  split at h <;> try (cases h; done)
  rename_i r hr
  obtain ⟨l,hl,rfl⟩:=Option.map_eq_some_iff.1 h
  exact (ZqO hG hI hop hs hd he hx' hu hr hl).fit
theorem Zx7 (hG:GOk G E.W0)(hI:Inv E s Γ a w)(hop:(∃ fn x y,o.op=.makeFunc fn x y)∨(∃ t r,o.op=.makeMap t r)∨(∃ t l c,o.op=.makeSlice t l c))(hc:cOp P hand draw o=some ao)(h:ZF G call s ao=some (v,s')):ZdZ P E Γ s s' v a w o ao:=by
 rcases hop with ⟨fn,x,y,hop⟩ | ⟨t,r,hop⟩ | ⟨t,l,c,hop⟩
 ·cases fn with
  | func f =>
   simp only [cOp,hop] at hc
   split at hc <;> try (cases hc; done)
   rename_i us vs h1 h2
   obtain rfl:=Option.some.inj hc
   simp only [ZF] at h
   split at h <;> try (cases h; done)
   rename_i u1 u2 h3 h4
   cases h
   exact (Z5f hG hI hop h1 h2 h3 h4).fit
  | _=>simp only [cOp,hop] at hc; cases hc
 ·cases r with
  | none =>
   simp only [cOp,hop] at hc
   obtain rfl:=Option.some.inj hc
   simp only [ZF] at h
   cases h
   exact (Z2Z hI hop).fit
  | some r=>simp only [cOp,hop] at hc; cases hc
 ·have fin:∀ {e:TypeId} {z:AV} {i:TypeInfo} {n:KX},P.underlying t=some (.slice e)→zeroOf P e=some z→P.info? e=some i→(z.cells.all AV.one=true∧z.cells.length=i.size∧i.bytes≤16384∧0 < i.size) →
    (∀ kd m,opnd G s.sl n=some (.int kd m)→a.eval l=.int kd m∧a.eval c=.int kd m)→ZF G call s (.mksl e z.cells n)=some (v,s')→ZdZ P E Γ s s' v a w o (.mksl e z.cells n):=by
   intro e z i n ht hz hi hx hev h
   simp only [ZF] at h
   split at h <;> try (cases h; done)
   rename_i kd m hm
   split at h <;> try (cases h; done)
   rename_i hb
   cases h
   exact (Z5g hI ⟨l,c,hop,(hev kd m hm).1,(hev kd m hm).2⟩ ht hi hz hx.1 hx.2.1 hx.2.2.2 hx.2.2.1 hb.1 hb.2).fit
  have slot:∀ {q:Nat} {kd:IntKind} {m:Int},opnd G s.sl (.tmp q)=some (.int kd m)→a.eval (.tmp q)=.int kd m:=fun {q kd m} hm=>by
   have:=(YZ (P := P) (t := 0) (x := .tmp q) (y := .tmp q) hG hI rfl hm).1
   generalize a.eval (.tmp q)=u at this
   cases this; rfl
  cases l <;> cases c <;> simp only [cOp,hop] at hc <;> try (cases hc; done)
  ·split at hc <;> try (cases hc; done)
   rename_i hlc
   subst hlc
   split at hc <;> try (cases hc; done)
   rename_i e ht
   split at hc <;> try (cases hc; done)
   rename_i z i hz hi
   split at hc <;> try (cases hc; done)
   rename_i hx
   obtain rfl:=Option.some.inj hc
   exact fin ht hz hi hx (fun kd m hm=>⟨slot hm,slot hm⟩) h
  ·rename_i x y
   cases x <;> cases y <;> simp only at hc <;> try (cases hc; done)
   split at hc <;> try (cases hc; done)
   rename_i hlc
   obtain ⟨rfl,rfl⟩:=hlc
   split at hc <;> try (cases hc; done)
   rename_i e ht
   split at hc <;> try (cases hc; done)
   rename_i z i hz hi
   split at hc <;> try (cases hc; done)
   rename_i hx
   obtain rfl:=Option.some.inj hc
   exact fin ht hz hi hx (fun kd m hm=>by cases hm; exact ⟨rfl,rfl⟩) h
theorem Z3d (hG:GOk G E.W0)(hI:Inv E s Γ a w){t:TypeId}{x:Operand}{lo hi mx:Option Operand}(hop:o.op=.slice t x lo hi mx)(hc:cOp P hand draw o=some ao)(h:ZF G call s ao=some (v,s')):ZdZ P E Γ s s' v a w o ao:=by
 cases mx with
 | some m=>simp only [cOp,hop] at hc; cases hc
 | none =>
  simp only [cOp,hop] at hc
  split at hc <;> try (cases hc; done)
  rename_i sh x' lo' hi' h1 h2 h3 h4
  obtain rfl:=Option.some.inj hc
  simp only [ZF] at h
  split at h <;> try (cases h; done)
  rename_i u vl vh k1 k2 k3
  replace h:=IK h; obtain ⟨h,hss⟩:=h
  subst hss
  exact (ok_slice hG hI hop h1 h2 h3 h4 k1 k2 k3 h).fit hI
theorem Zu6 (hG:GOk G E.W0)(hI:Inv E s Γ a w)(hop:(∃ t x f,o.op=.fieldAddr t x f)∨(∃ t x f,o.op=.field t x f)∨(∃ t x i,o.op=.indexAddr t x i)∨(∃ t x i,o.op=.index t x i))(hc:cOp P hand draw o=some ao)(h:ZF G call s ao=some (v,s')):ZdZ P E Γ s s' v a w o ao:=by
 rcases hop with ⟨t,x,f,hop⟩ | ⟨t,x,f,hop⟩ | ⟨t,x,i,hop⟩ | ⟨t,x,i,hop⟩
 ·simp only [cOp,hop] at hc
  split at hc <;> try (cases hc; done)
  rename_i off n agg x' h1 h2
  obtain rfl:=Option.some.inj hc
  simp only [ZF] at h
  split at h <;> try (cases h; done)
  rename_i u hx
  replace h:=IK h; obtain ⟨h,hss⟩:=h
  subst hss
  exact (Z7x hG hI hop h1 h2 hx h).fit hI
 ·simp only [cOp,hop] at hc
  split at hc <;> try (cases hc; done)
  rename_i off n agg x' h1 h2
  obtain rfl:=Option.some.inj hc
  simp only [ZF] at h
  split at h <;> try (cases h; done)
  rename_i u hx
  replace h:=IK h; obtain ⟨h,hss⟩:=h
  subst hss
  exact (Z60 hG hI hop h1 h2 hx h).fit hI
 ·simp only [cOp,hop] at hc
  split at hc <;> try (cases hc; done)
  all_goals
   rename_i x' i' h1 h2 h3
   obtain rfl:=Option.some.inj hc
   simp only [ZF] at h
   split at h <;> try (cases h; done)
   rename_i u n hx hi
   replace h:=IK h; obtain ⟨h,hss⟩:=h
   subst hss
   exact (Z7y hG hI hop h1 h2 h3 hx hi h).fit hI
 ·simp only [cOp,hop] at hc
  split at hc <;> try (cases hc; done)
  rename_i x' i' h1 h2 h3
  obtain rfl:=Option.some.inj hc
  simp only [ZF] at h
  split at h <;> try (cases h; done)
  rename_i u n hx hi
  replace h:=IK h; obtain ⟨h,hss⟩:=h
  subst hss
  exact (Z61 hG hI hop h1 h2 h3 hx hi h).fit hI
theorem Z4f (hG:GOk G E.W0)(hI:Inv E s Γ a w)(hop:(∃ t x i ok,o.op=.lookup t x i ok)∨(∃ t m k x,o.op=.mapUpdate t m k x))(hc:cOp P hand draw o=some ao)(h:ZF G call s ao=some (v,s')):ZdZ P E Γ s s' v a w o ao:=by
 rcases hop with ⟨t,x,i,ok,hop⟩ | ⟨t,m,k,x,hop⟩
 ·simp only [cOp,hop] at hc
  split at hc <;> try (cases hc; done)
  rename_i kt et ht
  split at hc <;> try (cases hc; done)
  rename_i sh z x' i' h1 h2 h3 h4
  split at hc <;> try (cases hc; done)
  rename_i hz
  obtain rfl:=Option.some.inj hc
  simp only [ZF] at h
  split at h <;> try (cases h; done)
  rename_i u n hx hi
  replace h:=IK h; obtain ⟨h,hss⟩:=h
  subst hss
  exact (Z5e hG hI hop ht h1 h2 hz h3 h4 hx hi h).fit
 ·simp only [cOp,hop] at hc
  split at hc <;> try (cases hc; done)
  rename_i kt et ht
  split at hc <;> try (cases hc; done)
  rename_i sh m' k' x' h1 h2 h3 h4
  obtain rfl:=Option.some.inj hc
  simp only [ZF] at h
  split at h <;> try (cases h; done)
  rename_i g ka va hm hk hv
  split at h <;> try (cases h; done)
  rename_i es hg
  split at h <;> try (cases h; done)
  rename_i hf
  simp only [Bool.and_eq_true] at hf
  split at h <;> try (cases h; done)
  rename_i es' hu
  cases h
  exact (Z5h hG hI hop ht h1 h2 h3 h4 hm hk hv hg hf.1 hf.2 (ZrM hu) hu).fit
theorem Zx6 (hG:GOk G E.W0)(hI:Inv E s Γ a w)(hop:(∃ t x,o.op=.range t x)∨(∃ x b,o.op=.next x b)∨(∃ x i,o.op=.extract x i))(hc:cOp P hand draw o=some ao)(h:ZF G call s ao=some (v,s')):ZdZ P E Γ s s' v a w o ao:=by
 rcases hop with ⟨t,x,hop⟩ | ⟨x,b,hop⟩ | ⟨x,i,hop⟩
 ·simp only [cOp,hop] at hc
  split at hc <;> try (cases hc; done)
  rename_i ht
  obtain ⟨x',hx',rfl⟩:=Option.map_eq_some_iff.1 hc
  simp only [ZF] at h
  split at h <;> try (cases h; done)
  rename_i l hx
  cases h
  exact (Z3b hG hI hop ht hx' hx).fit
 ·cases b with
  | false=>simp only [cOp,hop] at hc; cases hc
  | true =>
   simp only [cOp,hop] at hc
   obtain ⟨x',hx',rfl⟩:=Option.map_eq_some_iff.1 hc
   simp only [ZF] at h
   split at h <;> try (cases h; done)
   rename_i g hx
   split at h <;> try (cases h; done)
   rename_i l pos hg
   split at h
   ·rename_i hlt
    cases h
    exact (Z5i hG hI hop hx' hx hg hlt).fit
   ·rename_i hlt
    cases h
    exact (Zx5 hG hI hop hx' hx hg hlt).fit
 ·simp only [cOp,hop] at hc
  obtain ⟨x',hx',rfl⟩:=Option.map_eq_some_iff.1 hc
  simp only [ZF] at h
  split at h <;> try (cases h; done)
  rename_i vs hx
  obtain ⟨u,h1,h2⟩:=Option.map_eq_some_iff.1 h
  cases h2
  exact (ZzE hG hI hop hx' hx h1).fit hI
end
end Go.Proofs.YtlmfmmclnboglaaGreat.Abs
end
section
namespace Go.Proofs.YtlmfmmclnboglaaGreat.Abs
open Go Go.RowKit
def Z45 (P:Program)(f:FuncId)(xs:Array Value)(w:World)(R:Value→World→Prop):Prop :=
 (callFunc f xs).run P w=.ok (.enter f xs) w∧Calls P f xs w fun e w''=>∃ v,e=.returned v∧R v w''
theorem Z45.mono {P:Program}{f:FuncId}{xs:Array Value}{w:World}{R R':Value→World→Prop}(h:Z45 P f xs w R)(hr:∀ v w',R v w'→R' v w'):Z45 P f xs w R' :=
 ⟨h.1,h.2.mono fun _ w'' ⟨v,hv,h⟩=>⟨v,hv,hr v w'' h⟩⟩
structure Tidy (Γ:QS)(n:Nat):Prop where
 res:∀ b m,Γ b≠.list m .res
 arg:∀ b m j,Γ b≠.list m (.arg j)
 cell:∀ b m g i,Γ b=.list m (.cell g i)→g < n
def Uf (P:Program)(W0:World)(F:FuncId→List AV→List Z5→Option (AV×List Z5×Eff)):Prop :=
 ∀ f args hp v hp' e,F f args hp=some (v,hp',e)→∀ (Γ:QS) (w:World) (xs:Array Value),RW W0 Γ w hp→Tidy Γ hp.length→xs.size=args.length →
  (∀ j x,args[j]? = some x→Rep Γ w x (xs.getD j Go.undef)∧OwnAt Γ w (.slot j) x (xs.getD j Go.undef)) →
  Z45 P f xs w fun cv w'=>∃ Γ',RW W0 Γ' w' hp'∧Rep Γ' w' v cv∧OwnAt Γ' w' .res v cv∧Frame Γ w Γ' w' e∧hp.length≤hp'.length∧∀ b g,Γ' b=.own g→g < hp.length→Γ b=.own g
theorem PW.own {o g:Nat}:¬ PW o (.own g):=fun h=>h
theorem RW.alike {W0 w:World}{Γ Γ':QS}{hp:List Z5}(h:RW W0 Γ w hp)(hf:U1 Γ w Γ' w)(ho:∀ b g,Γ b=.own g↔Γ' b=.own g)
  (hc:∀ b n g i,g < hp.length→Γ b=.list n (.cell g i)→Γ' b=.list n (.cell g i)) (hi:∀ b,Γ b=.imm→Γ' b=.imm):RW W0 Γ' w hp:=by
 have hom:GU Γ Γ':=fun b g hb=>(ho b g).1 hb
 refine ⟨fun g o hg=>?_,fun b b' g h1 h2=>h.inj b b' g ((ho b g).2 h1) ((ho b' g).2 h2),fun b hb=>hi b (h.fresh b hb),fun b g hb=>h.lt b g ((ho b g).2 hb),h.old,fun b hb=>hi b (h.oldImm b hb),fun g hg b hb=>h.dead g hg b ((ho b g).2 hb)⟩
 have hlt:=YV hg
 have:=h.objs g o hg
 cases o with
 | dead=>trivial
 | cells cs t =>
  obtain ⟨b,C,h1,h2,h3,h4⟩:=this
  refine ⟨b,C,hom b g h1,h2,h3,fun i c hc'=>?_⟩
  obtain ⟨a1,a2,a3⟩:=h4 i c hc'
  exact ⟨a1,a2.mono hf hom,a3.mono hf hom fun b n hb=>⟨hc b n g i hlt hb,rfl⟩⟩
 | map es =>
  obtain ⟨b,ms,clk,h1,h2,h3,h4⟩:=this
  exact ⟨b,ms,clk,hom b g h1,h2,h3,h4⟩
 | iter s pos =>
  obtain ⟨b,h1,h2⟩:=this
  exact ⟨b,hom b g h1,h2⟩
def Aj (n:Nat):Kind→Kind
 | .list m (.slot _)=>.list m .outer
 | .list m .res=>.list m .outer
 | .list m (.arg j)=>.list m (.slot j)
 | .list m (.cell g i)=>if g < n then .list m (.cell g i) else .imm
 | k=>k
def Zoa:Kind→Kind→Kind
 | .list m (.slot t),_=>.list m (.slot t)
 | _,.list _ (.slot _)=>.imm
 | _,.list _ (.arg _)=>.imm
 | _,k=>k
theorem Zr9 {n o:Nat}{k:Kind}(h:PW o k):PW o (Aj n k):=by
 cases k with
 | imm=>trivial
 | own g=>exact h.elim
 | list m l =>
  cases l <;> simp only [Aj] <;> first | exact h | skip
  split
  ·exact h
  ·trivial
theorem Zml {n g:Nat}{k:Kind}:k=.own g↔Aj n k=.own g:=by
 cases k with
 | imm=>simp [Aj]
 | own g=>simp [Aj]
 | list m l =>
  cases l <;> simp only [Aj] <;> try simp
  split <;> simp
theorem Z1Z {n:Nat}{k:Kind}(h:k=.imm):Aj n k=.imm:=by subst h; rfl
theorem Z2a (Γ:QS)(n:Nat):Tidy (fun b=>Aj n (Γ b)) n:=by
 refine ⟨fun b m h=>?_,fun b m j h=>?_,fun b m g i h=>?_⟩ <;> revert h <;> cases Γ b with
 | imm=>simp [Aj]
 | own g=>simp [Aj]
 | list m l =>
  cases l <;> simp only [Aj] <;> try simp
  try (split <;> simp <;> try omega)
theorem RW.seen {W0 w:World}{Γ:QS}{hp:List Z5}(h:RW W0 Γ w hp):RW W0 (fun b=>Aj hp.length (Γ b)) w hp :=
 h.alike (fun _ _ _ h1 h2=>⟨Zr9 h1,h2⟩) (fun _ _=>Zml) (fun b n g i hl hb=>by simp [hb,Aj,hl]) (fun _=>Z1Z)
end Go.Proofs.YtlmfmmclnboglaaGreat.Abs
end
section
namespace Go.Proofs.YtlmfmmclnboglaaGreat.Abs
open Go Go.RowKit
section
variable {P:Program}{G:Nat→Option (List AV)}{E:Entry}{s:Z7}{Γ:QS}{a:Act}{w:World}
theorem Inv.hand (h:Inv E s Γ a w)(m:Loc)(t:Nat){v:AV}(hv:s.sl[t]? = some v) :
  ∃ Γ',Inv E (s.let_ t) Γ' a w∧Rep Γ' w v (a.tmps.getD t Go.undef)∧OwnAt Γ' w m v (a.tmps.getD t Go.undef)∧U1 Γ w Γ' w∧GU Γ Γ'∧∀ b n j,Γ b=.list n (.arg j)→Γ' b=.list n (.arg j):=by
 have f1:=NC (Γ := Γ) (w := w) (l := .slot t) (OW (l := m))
 have o1:GU Γ (relab Γ (.slot t) (Zg8 m)):=LV
 refine ⟨relab Γ (.slot t) (Zg8 m),⟨h.defers,⟨by simpa [Z7.let_] using h.slots.size,fun u x hx=>?_,fun u x hx=>?_⟩,h.rw.relab OW Og (by simp),h.fr.relab (l := .slot t) OW trivial,h.base,h.base2,h.le,fun b g hb=>h.back b g (UC Og hb)⟩,?_,?_,f1,o1,fun b n j hb=>PR hb (by simp)⟩
 ·simp only [Z7.let_,List.getElem?_modify] at hx
  obtain ⟨y,hy,e⟩:=Option.map_eq_some_iff.1 hx
  have:=(h.slots.rep u y hy).mono f1 o1
  split at e
  ·subst e; exact this.ro
  ·subst e; exact this
 ·simp only [Z7.let_,List.getElem?_modify] at hx
  obtain ⟨y,hy,e⟩:=Option.map_eq_some_iff.1 hx
  split at e
  ·subst e; exact .of_ro _ _ _ _ _
  ·rename_i ne
   subst e
   exact (h.slots.own u y hy).mono f1 o1 fun b n hb=>⟨PR hb (by simp; omega),rfl⟩
 ·exact (h.slots.rep t v hv).mono f1 o1
 ·exact (h.slots.own t v hv).mono f1 o1 fun b n hb=>⟨Zmi hb,rfl⟩
theorem Z47 (hG:GOk G E.W0):∀ {args:List (Nat ⊕ KX)} {ts:List TypeId} {xs:List Operand} {hand:Nat→Bool} {vs sl:List AV} (k:Nat) {s:Z7} {Γ:QS},Inv E s Γ a w→Zla P hand ts xs=some args→D7 G s.sl args=some (vs,sl) →
  ∃ Γ',Inv E { s with sl:=sl } Γ' a w∧U1 Γ w Γ' w∧GU Γ Γ'∧(∀ b n j,j < k→Γ b=.list n (.arg j)→Γ' b=.list n (.arg j))∧vs.length=xs.length ∧
   ∀ j v,vs[j]? = some v→∃ x,xs[j]? = some x∧Rep Γ' w v (a.eval x)∧OwnAt Γ' w (.arg (k + j)) v (a.eval x):=by
 intro args
 induction args with
 | nil =>
  intro ts xs hand vs sl k s Γ hI hc h
  simp only [D7,Option.some.injEq,Prod.mk.injEq] at h
  obtain ⟨rfl,rfl⟩:=h
  have:xs=[]:=by
   cases xs with
   | nil=>rfl
   | cons x xs =>
    cases ts with
    | nil=>simp [Zla] at hc
    | cons t ts =>
     simp only [Zla] at hc
     split at hc <;> simp at hc
  subst this
  exact ⟨Γ,hI,.refl _ _,.refl _,fun _ _ _ _ h=>h,rfl,fun j v hv=>by simp at hv⟩
 | cons p args ih =>
  intro ts xs hand vs sl k s Γ hI hc h
  cases xs with
  | nil=>cases ts <;> simp [Zla] at hc
  | cons x xs =>
   cases ts with
   | nil=>simp [Zla] at hc
   | cons t ts =>
    simp only [Zla] at hc
    split at hc
    case h_2=>cases hc
    rename_i y l hy hl
    obtain ⟨rfl,rfl⟩:=List.cons.inj (Option.some.inj hc)
    have step:∀ (v:AV) (s1:Z7) (Γ1:QS) (vs1:List AV),Inv E s1 Γ1 a w→s1.hp=s.hp→s1.ef=s.ef→s1.bs=s.bs→U1 Γ w Γ1 w→GU Γ Γ1→(∀ b n j,j < k→Γ b=.list n (.arg j)→Γ1 b=.list n (.arg j)) →
      Rep Γ1 w v (a.eval x)→OwnAt Γ1 w (.arg k) v (a.eval x)→D7 G s1.sl l=some (vs1,sl)→vs=v :: vs1 →
      ∃ Γ',Inv E { s with sl:=sl } Γ' a w∧U1 Γ w Γ' w∧GU Γ Γ'∧(∀ b n j,j < k→Γ b=.list n (.arg j)→Γ' b=.list n (.arg j))∧vs.length=(x :: xs).length ∧
       ∀ j v,vs[j]? = some v→∃ x',(x :: xs)[j]? = some x'∧Rep Γ' w v (a.eval x')∧OwnAt Γ' w (.arg (k + j)) v (a.eval x'):=by
     intro v s1 Γ1 vs1 i1 e1 e2 e3 f1 o1 k1 r1 w1 h1 hvs
     obtain ⟨Γ2,i2,f2,o2,k2,hlen,hall⟩:=ih (k + 1) i1 hl h1
     subst hvs
     refine ⟨Γ2,by rw [← e1,← e2,← e3]; exact i2,f1.trans f2,o1.trans o2,fun b n j hj hb=>k2 b n j (by omega) (k1 b n j hj hb),by simp [hlen],fun j u hu=>?_⟩
     cases j with
     | zero =>
      obtain rfl:=Option.some.inj hu
      exact ⟨x,rfl,r1.mono f2 o2,w1.mono f2 o2 fun b n hb=>⟨k2 b n k (by omega) hb,rfl⟩⟩
     | succ j =>
      obtain ⟨x',hx',hr,ho⟩:=hall j u (by simpa using hu)
      exact ⟨x',by simpa using hx',hr,by rw [show k + (j + 1)=k + 1 + j by omega]; exact ho⟩
    have plain:∀ (q:KX),V9 P t x=some q∨(∃ i,x=.tmp i∧q=.tmp i)→y=.inr q →
      ∃ Γ',Inv E { s with sl:=sl } Γ' a w∧U1 Γ w Γ' w∧GU Γ Γ'∧(∀ b n j,j < k→Γ b=.list n (.arg j)→Γ' b=.list n (.arg j))∧vs.length=(x :: xs).length ∧
       ∀ j v,vs[j]? = some v→∃ x',(x :: xs)[j]? = some x'∧Rep Γ' w v (a.eval x')∧OwnAt Γ' w (.arg (k + j)) v (a.eval x'):=by
     intro q hq hp
     subst hp
     have hq:V9 P t x=some q:=by
      rcases hq with h | ⟨i,rfl,rfl⟩
      ·exact h
      ·rfl
     simp only [D7] at h
     split at h
     case h_2=>cases h
     rename_i v hv
     obtain ⟨p1,h1,h2⟩:=Option.map_eq_some_iff.1 h
     obtain ⟨rfl,rfl⟩:=Prod.mk.inj h2
     exact step v s Γ p1.1 hI rfl rfl rfl (.refl _ _) (.refl _) (fun _ _ _ _ h=>h) (YZ hG hI hq hv).1 (Z0m hG hI _ hq hv) h1 rfl
    split at hy
    ·rename_i i
     split at hy
     ·obtain rfl:=Option.some.inj hy
      simp only [D7] at h
      split at h
      case h_2=>cases h
      rename_i v hv
      obtain ⟨p1,h1,h2⟩:=Option.map_eq_some_iff.1 h
      obtain ⟨rfl,rfl⟩:=Prod.mk.inj h2
      obtain ⟨Γ1,i1,r1,w1,f1,o1,k1⟩:=hI.hand (.arg k) i hv
      exact step v (s.let_ i) Γ1 p1.1 i1 rfl rfl rfl f1 o1 (fun b n j _ hb=>k1 b n j hb) r1 w1 h1 rfl
     ·exact plain _ (.inr ⟨i,rfl,rfl⟩) (Option.some.inj hy).symm
    ·obtain ⟨q,hq,rfl⟩:=Option.map_eq_some_iff.1 hy
     exact plain q (.inl hq) rfl
theorem ZnY {s:Z7}{e:Eff}{g:Nat}(hg:g < s.bs)(h:ZfG (s.after e) g):ZfG s.ef g∧ZfG e g:=by
 cases e with
 | none=>exact ⟨h,fun _ _ e=>by cases e⟩
 | some p =>
  obtain ⟨x,y⟩:=p
  simp only [Z7.after] at h
  split at h
  ·obtain ⟨h1,h2⟩:=ZwG h
   exact ⟨h1,fun _ _ e=>by cases e; exact h2⟩
  ·exact ⟨h,fun _ _ e=>by cases e; omega⟩
theorem Inv.called (hI:Inv E s Γ a w){Γ':QS}{w':World}{hp:List Z5}{e:Eff}{v:AV}{cv:Value}(hr:RW E.W0 Γ' w' hp)(hv:Rep Γ' w' v cv)(ho:OwnAt Γ' w' .res v cv)
  (hf:Frame (fun b=>Aj s.hp.length (Γ b)) w Γ' w' e) (hle:s.hp.length≤hp.length∧∀ b g,Γ' b=.own g→g < s.hp.length→Aj s.hp.length (Γ b)=.own g) :
  ∃ Γ'',Inv E { sl := s.sl,hp := hp,ef := s.after e,bs := s.bs } Γ'' a w'∧Rep Γ'' w' v cv∧OwnAt Γ'' w' .res v cv:=by
 have lt:∀ b,Γ b≠.imm→b < w.heap.size:=fun b hb=>by
  rcases Nat.lt_or_ge b w.heap.size with h' | h'
  ·exact h'
  ·exact absurd (hI.rw.fresh b h') hb
 have slot:∀ b m t,Γ b=.list m (.slot t)→Γ' b=.list m .outer∧w'.heap[b]? = w.heap[b]?:=fun b m t hb=>by
  obtain ⟨e1,e2⟩:=hf.keep b (lt b (by rw [hb]; simp)) (by simp only [hb,Aj,Kept])
  exact ⟨by rw [e1]; simp [hb,Aj],e2⟩
 have back:∀ b,(∃ m t,Γ b=.list m (.slot t)∧Γ' b=.list m .outer∧Zoa (Γ b) (Γ' b)=.list m (.slot t))∨((∀ m t,Γ b≠.list m (.slot t))∧∀ k,(∀ m t,k≠.list m (.slot t))→(∀ m t,k≠.list m (.arg t))→Γ' b=k→Zoa (Γ b) (Γ' b)=k):=by
  intro b
  cases hb:Γ b with
  | imm=>refine .inr ⟨by simp,fun k h1 h2 h3=>?_⟩; subst h3; cases hg:Γ' b with
   | list m l=>rw [hg] at h1 h2; cases l <;> first | rfl | exact absurd rfl (h1 _ _) | exact absurd rfl (h2 _ _)
   | _=>rfl
  | own g=>refine .inr ⟨by simp,fun k h1 h2 h3=>?_⟩; subst h3; cases hg:Γ' b with
   | list m l=>rw [hg] at h1 h2; cases l <;> first | rfl | exact absurd rfl (h1 _ _) | exact absurd rfl (h2 _ _)
   | _=>rfl
  | list n q =>
   cases q with
   | slot t=>exact .inl ⟨n,t,rfl,(slot b n t hb).1,rfl⟩
   | _ =>
    refine .inr ⟨by simp,fun k h1 h2 h3=>?_⟩; subst h3; cases hg:Γ' b with
    | list m l=>rw [hg] at h1 h2; cases l <;> first | rfl | exact absurd rfl (h1 _ _) | exact absurd rfl (h2 _ _)
    | _=>rfl
 have imm':∀ b,(∀ m t,Γ b≠.list m (.slot t))→(∃ m t,Γ' b=.list m (.slot t))∨(∃ m t,Γ' b=.list m (.arg t))→Zoa (Γ b) (Γ' b)=.imm:=by
  intro b h h2
  cases hb:Γ b with
  | imm=>rcases h2 with ⟨m,t,e⟩ | ⟨m,t,e⟩ <;> rw [e] <;> rfl
  | own g=>rcases h2 with ⟨m,t,e⟩ | ⟨m,t,e⟩ <;> rw [e] <;> rfl
  | list n q=>cases q with
   | slot t=>exact absurd hb (h n t)
   | _=>rcases h2 with ⟨m,t,e⟩ | ⟨m,t,e⟩ <;> rw [e] <;> rfl
 have f3:U1 Γ' w' (fun b=>Zoa (Γ b) (Γ' b)) w':=by
  intro b o v h1 h2
  refine ⟨?_,h2⟩
  unfold Zgs at h1 ⊢
  rcases back b with ⟨m,t,e1,e2,e3⟩ | ⟨h,h'⟩
  ·show PW o (Zoa (Γ b) (Γ' b))
   rw [e3]
   rw [e2] at h1
   exact h1
  ·show PW o (Zoa (Γ b) (Γ' b))
   by_cases hs:(∃ m t,Γ' b=.list m (.slot t))∨(∃ m t,Γ' b=.list m (.arg t))
   ·rw [imm' b h hs]; trivial
   ·rw [h' (Γ' b) (fun m t e=>hs (.inl ⟨m,t,e⟩)) (fun m t e=>hs (.inr ⟨m,t,e⟩)) rfl]; exact h1
 have own':∀ b g,Γ' b=.own g↔Zoa (Γ b) (Γ' b)=.own g:=by
  intro b g
  rcases back b with ⟨m,t,e1,e2,e3⟩ | ⟨h,h'⟩
  ·rw [e3,e2]; simp
  ·by_cases hs:(∃ m t,Γ' b=.list m (.slot t))∨(∃ m t,Γ' b=.list m (.arg t))
   ·rw [imm' b h hs]
    rcases hs with ⟨m,t,e⟩ | ⟨m,t,e⟩ <;> rw [e] <;> simp
   ·rw [h' (Γ' b) (fun m t e=>hs (.inl ⟨m,t,e⟩)) (fun m t e=>hs (.inr ⟨m,t,e⟩)) rfl]
 have keepL:∀ b k,(∀ m,k≠.list m .outer)→(∀ m t,k≠.list m (.slot t))→(∀ m t,k≠.list m (.arg t))→Γ' b=k→Zoa (Γ b) (Γ' b)=k:=by
  intro b k h0 h1 h2 hb
  rcases back b with ⟨m,t,e1,e2,e3⟩ | ⟨h,h'⟩
  ·rw [e2] at hb; exact absurd hb.symm (h0 m)
  ·exact h' k h1 h2 hb
 have o3:GU Γ' (fun b=>Zoa (Γ b) (Γ' b)):=fun b g hb=>(own' b g).1 hb
 have f1:U1 Γ w (fun b=>Aj s.hp.length (Γ b)) w:=fun _ _ _ h1 h2=>⟨Zr9 h1,h2⟩
 have o1:GU Γ (fun b=>Aj s.hp.length (Γ b)):=fun b g hb=>Zml.1 hb
 have fAll:=(f1.trans hf.fix).trans f3
 have oAll:=(o1.trans hf.own).trans o3
 refine ⟨fun b=>Zoa (Γ b) (Γ' b),⟨hI.defers,⟨hI.slots.size,fun t x hx=>(hI.slots.rep t x hx).mono fAll oAll,fun t x hx=>(hI.slots.own t x hx).mono fAll oAll fun b n hb=>?_⟩,?_,?_,hI.base,hI.base2,Nat.le_trans hI.le hle.1,fun b g hb hl=>hI.back b g (Zml.2 (hle.2 b g ((own' b g).2 hb) (Nat.lt_of_lt_of_le hl hI.le))) hl⟩,hv.mono f3 o3,ho.mono f3 o3 fun b n hb=>⟨keepL b _ (by simp) (by simp) (by simp) hb,rfl⟩⟩
 ·refine ⟨?_,(slot b n t hb).2⟩
  show Zoa (Γ b) (Γ' b)=_
  rw [hb]; rfl
 ·exact hr.alike f3 own' (fun b n g i _ hb=>keepL b _ (by simp) (by simp) (by simp) hb) (fun b hb=>keepL b _ (by simp) (by simp) (by simp) hb)
 ·refine ⟨hf.os.trans hI.fr.os,hf.tape.trans hI.fr.tape,hf.output.trans hI.fr.output,Nat.le_trans hI.fr.size hf.size,hI.fr.fix.trans fAll,hI.fr.own.trans oAll,fun b hb hk=>?_⟩
  have hb':=Nat.lt_of_lt_of_le hb hI.fr.size
  cases hg:E.Γ0 b with
  | imm =>
   obtain ⟨e1,e2⟩:=hI.fr.keep b hb (by rw [hg]; trivial)
   rw [hg] at e1
   obtain ⟨e3,e4⟩:=hf.keep b hb' (by simp only [e1,Aj,Kept])
   simp only [e1,Aj] at e3
   exact ⟨keepL b _ (by simp) (by simp) (by simp) e3,e4.trans e2⟩
  | own g =>
   rw [hg] at hk
   obtain ⟨s1,s2⟩:=ZnY (hI.base b g hg) hk
   obtain ⟨e1,e2⟩:=hI.fr.keep b hb (by rw [hg]; exact s1)
   rw [hg] at e1
   obtain ⟨e3,e4⟩:=hf.keep b hb' (by simp only [e1,Aj,Kept]; exact s2)
   simp only [e1,Aj] at e3
   exact ⟨keepL b _ (by simp) (by simp) (by simp) e3,e4.trans e2⟩
  | list n m =>
   rw [hg] at hk
   cases m with
   | outer =>
    obtain ⟨e1,e2⟩:=hI.fr.keep b hb (by rw [hg]; trivial)
    rw [hg] at e1
    obtain ⟨e3,e4⟩:=hf.keep b hb' (by simp only [e1,Aj,Kept])
    simp only [e1,Aj] at e3
    refine ⟨?_,e4.trans e2⟩
    show Zoa (Γ b) (Γ' b)=_
    rw [e1,e3]; rfl
   | cell g i =>
    have hgb:=hI.base2 b n g i hg
    obtain ⟨s1,s2⟩:=ZnY hgb hk
    obtain ⟨e1,e2⟩:=hI.fr.keep b hb (by rw [hg]; exact s1)
    rw [hg] at e1
    have hlt:g < s.hp.length:=Nat.lt_of_lt_of_le hgb hI.le
    obtain ⟨e3,e4⟩:=hf.keep b hb' (by simp only [e1,Aj,if_pos hlt,Kept]; exact s2)
    simp only [e1,Aj,if_pos hlt] at e3
    exact ⟨keepL b _ (by simp) (by simp) (by simp) e3,e4.trans e2⟩
   | slot t=>exact hk.elim
   | res=>exact hk.elim
   | arg j=>exact hk.elim
end
end Go.Proofs.YtlmfmmclnboglaaGreat.Abs
end
section
namespace Go.Proofs.YtlmfmmclnboglaaGreat.Abs
open Go Go.RowKit
section
variable {P:Program}{G:Nat→Option (List AV)}{call:FuncId→List AV→List Z5→Option (AV×List Z5×Eff)}{E:Entry}{s s':Z7}{Γ:QS}{a:Act}{w:World}{o:Oper}{hand:Nat→Bool}{draw:Bool}{ao:AOp}{v:AV}
theorem Zxf {c:Call}{b:Callee}{xs:List Operand}{ts:List TypeId}(h0:c.callee=b)(h1:c.args.toList=xs)(h2:c.argTypes.toList=ts):c={ callee := b,args := xs.toArray,argTypes := ts.toArray }:=by
 cases c with
 | mk q xs' ts'=>subst h0 h1 h2; simp
theorem ZzF (hG:GOk G E.W0)(hI:Inv E s Γ a w){c:Call}(hop:o.op=.call c)(hnv:∀ f,c.callee≠.value f)(hc:cOp P hand draw o=some ao)(h:ZF G call s ao=some (v,s')):ZdZ P E Γ s s' v a w o ao:=by
 simp only [cOp,hop] at hc
 split at hc
 ·rename_i f hf; exact absurd hf (hnv f)
 ·rename_i hf
  split at hc <;> try (cases hc; done)
  rename_i x t hx ht
  rw [Zxf hf hx ht] at hop
  split at hc <;> try (cases hc; done)
  all_goals
   rename_i hu
   obtain ⟨x',hx',rfl⟩:=Option.map_eq_some_iff.1 hc
   simp only [ZF] at h
   split at h <;> try (cases h; done)
   rename_i u hu'
   replace h:=IK h
   obtain ⟨h,hss⟩:=h
   subst hss
  ·exact (Z1l (sh := .str) hG hI hop hu hx' hu' h).fit hI
  ·exact (Z1l (sh := .slice) hG hI hop ⟨_,hu⟩ hx' hu' h).fit hI
  ·exact (Z1l (sh := .map) hG hI hop ⟨_,_,hu⟩ hx' hu' h).fit hI
 ·rename_i hf
  split at hc <;> try (cases hc; done)
  rename_i q x t u hx ht
  rw [Zxf hf hx ht] at hop
  split at hc <;> try (cases hc; done)
  rename_i e hu
  split at hc <;> try (cases hc; done)
  rename_i i z hi hz
  split at hc
  case isFalse =>
   split at hc <;> try (cases hc; done)
   rename_i hk
   obtain ⟨hk1,hk2,hk3,hk4⟩:=hk
   split at hc <;> try (cases hc; done)
   rename_i sl x' hx'
   obtain rfl:=Option.some.inj hc
   simp only [ZF] at h
   split at h <;> try (cases h; done)
   rename_i k' r l hsl hy
   split at h <;> try (cases h; done)
   rename_i hh
   obtain ⟨rfl,hb⟩:=hh
   cases h
   exact (Z5c hG hI hop hu (Z2I hk4) hi hz (by rw [hk2,hk1]) hk1 hk3 hx' hsl hy hb).fit
  rename_i hk
  obtain ⟨rfl,hk1,hk2,hk3⟩:=hk
  split at hc <;> try (cases hc; done)
  ·rename_i sl x' hx'
   obtain rfl:=Option.some.inj hc
   simp only [ZF] at h
   split at h <;> try (cases h; done)
   rename_i k' r y hsl hy
   split at h <;> try (cases h; done)
   rename_i k'' r' hr
   split at h <;> try (cases h; done)
   rename_i hh
   obtain ⟨rfl,rfl,hid,hb⟩:=hh
   cases h
   exact (Z6x hG hI hop hu hi hz hk2 hk1 hk3 hx' hsl hy hr hid hb).fit
  ·rename_i x' hx'
   obtain rfl:=Option.some.inj hc
   simp only [ZF] at h
   split at h <;> try (cases h; done)
   rename_i y hy
   split at h <;> try (cases h; done)
   rename_i k'' r' hr
   split at h <;> try (cases h; done)
   rename_i hh
   obtain ⟨rfl,hid,hb⟩:=hh
   cases h
   exact (Z5b hG hI hop hu hi hz hk2 hk1 hk3 hx' hy hr hid hb).fit
 ·rename_i hf
  split at hc <;> try (cases hc; done)
  rename_i q x t u hx ht
  rw [Zxf hf hx ht] at hop
  split at hc <;> try (cases hc; done)
  rename_i e hu
  split at hc <;> try (cases hc; done)
  rename_i i hi
  split at hc <;> try (cases hc; done)
  rename_i hk
  obtain ⟨rfl,hk1⟩:=hk
  split at hc <;> try (cases hc; done)
  rename_i d' x' hd' hx'
  obtain rfl:=Option.some.inj hc
  simp only [ZF] at h
  split at h <;> try (cases h; done)
  ·rename_i g off len k'' y hd hy
   split at h <;> try (cases h; done)
   rename_i k' r cs t' hr hg
   split at h <;> try (cases h; done)
   rename_i hh
   obtain ⟨rfl,rfl,hfit,hone⟩:=hh
   cases h
   exact (Z5d hG hI hop hu hi hk1 hd' hx' hd hy hr hg hfit hone).fit
  ·rename_i k'' y hd hy
   split at h <;> try (cases h; done)
   rename_i k' r hr
   split at h <;> try (cases h; done)
   rename_i hh
   subst hh
   cases h
   exact (Z2Y hG hI hop hu hi hd' hx' hd hy hr).fit
 ·rename_i hf
  split at hc <;> try (cases hc; done)
  rename_i t l ht
  split at hc <;> try (cases hc; done)
  obtain ⟨ps,hps,rfl⟩:=Option.map_eq_some_iff.1 hc
  simp only [ZF] at h
  split at h <;> try (cases h; done)
  rename_i n vs hv
  obtain ⟨r,hr,e⟩:=Option.map_eq_some_iff.1 h
  cases e
  exact (Zwg (isMax := false) hG hI (by rw [hop]; cases c; simp only at hf; subst hf; rfl) hps hv hr).fit
 ·rename_i hf
  split at hc <;> try (cases hc; done)
  rename_i t l ht
  split at hc <;> try (cases hc; done)
  obtain ⟨ps,hps,rfl⟩:=Option.map_eq_some_iff.1 hc
  simp only [ZF] at h
  split at h <;> try (cases h; done)
  rename_i n vs hv
  obtain ⟨r,hr,e⟩:=Option.map_eq_some_iff.1 h
  cases e
  exact (Zwg (isMax := true) hG hI (by rw [hop]; cases c; simp only at hf; subst hf; rfl) hps hv hr).fit
 ·cases hc
theorem Z4e (hG:GOk G E.W0)(hI:Inv E s Γ a w)(hnv:∀ c f,o.op=.call c→c.callee≠.value f)(hc:cOp P hand draw o=some ao)(h:ZF G call s ao=some (v,s')):ZdZ P E Γ s s' v a w o ao:=by
 cases hop:o.op with
 | move x=>exact Z5l hG hI hop hc h
 | assign x=>exact Z1q hG hI hop hc h
 | pick c x y=>exact Z5m hG hI hop hc h
 | alloc e=>exact Z4g hG hI (.inl ⟨_,hop⟩) hc h
 | box e x=>exact Z4g hG hI (.inr ⟨_,_,hop⟩) hc h
 | build t ps=>exact Z3c hG hI hop hc h
 | buildSlice t n ps=>exact Z69 hG hI hop hc h
 | load t p=>exact Z5k hG hI hop hc h
 | store t p x=>exact Z3e hG hI hop hc h
 | nilCheck x=>exact ZqQ hG hI (.inl ⟨_,hop⟩) hc h
 | binOp op t x y t'=>exact ZqQ hG hI (.inr (.inl ⟨_,_,_,_,_,hop⟩)) hc h
 | unOp op t x=>exact ZqQ hG hI (.inr (.inr ⟨_,_,_,hop⟩)) hc h
 | convert src dst x=>exact ZzG hG hI hop hc h
 | makeFunc fn x y=>exact Zx7 hG hI (.inl ⟨_,_,_,hop⟩) hc h
 | makeMap t r=>exact Zx7 hG hI (.inr (.inl ⟨_,_,hop⟩)) hc h
 | makeSlice t l c=>exact Zx7 hG hI (.inr (.inr ⟨_,_,_,hop⟩)) hc h
 | slice t x lo hi mx=>exact Z3d hG hI hop hc h
 | fieldAddr t x f=>exact Zu6 hG hI (.inl ⟨_,_,_,hop⟩) hc h
 | field t x f=>exact Zu6 hG hI (.inr (.inl ⟨_,_,_,hop⟩)) hc h
 | indexAddr t x i=>exact Zu6 hG hI (.inr (.inr (.inl ⟨_,_,_,hop⟩))) hc h
 | index t x i=>exact Zu6 hG hI (.inr (.inr (.inr ⟨_,_,_,hop⟩))) hc h
 | lookup t x i ok=>exact Z4f hG hI (.inl ⟨_,_,_,_,hop⟩) hc h
 | mapUpdate t m k x=>exact Z4f hG hI (.inr ⟨_,_,_,_,hop⟩) hc h
 | range t x=>exact Zx6 hG hI (.inl ⟨_,_,hop⟩) hc h
 | next x b=>exact Zx6 hG hI (.inr (.inl ⟨_,_,hop⟩)) hc h
 | extract x i=>exact Zx6 hG hI (.inr (.inr ⟨_,_,hop⟩)) hc h
 | call c=>exact ZzF hG hI hop (fun f=>hnv c f hop) hc h
 | _=>simp [cOp,hop] at hc
end
end Go.Proofs.YtlmfmmclnboglaaGreat.Abs
end
section
namespace Go.Proofs.YtlmfmmclnboglaaGreat.Abs
open Go Go.RowKit
section
variable {P:Program}{G:Nat→Option (List AV)}{call:FuncId→List AV→List Z5→Option (AV×List Z5×Eff)}{E:Entry}{s s':Z7}{Γ:QS}{a:Act}{w:World}{o:Oper}{hand:Nat→Bool}{draw:Bool}{ao:AOp}{v:AV}
theorem ZeV {x:AV}{k:Nat}{r:List (List AV)}:x.nm≠.own k r:=by cases x <;> simp [AV.nm]
theorem three {first vs caps:List AV}{fv cv:Array Value}{xs:Array Value}(h1:fv.size=first.length)(h2:xs.size=vs.length)(h3:cv.size=caps.length){R:Nat→AV→Value→Prop}
  (k1:∀ j x,first[j]? = some x→R j x.nm (fv.getD j Go.undef)) (k2:∀ j x,vs[j]? = some x→R (first.length + j) x (xs.getD j Go.undef)) (k3:∀ j x i,caps[j]? = some x→R i x.nm (cv.getD j Go.undef)) :
  ((fv ++ xs) ++ cv).size=(first.map AV.nm ++ vs ++ caps.map AV.nm).length∧∀ j x,(first.map AV.nm ++ vs ++ caps.map AV.nm)[j]? = some x→R j x (((fv ++ xs) ++ cv).getD j Go.undef):=by
 refine ⟨by simp [h1,h2,h3],fun j x hx=>?_⟩
 have hget:∀ i,((fv ++ xs) ++ cv).getD i Go.undef=if i < first.length then fv.getD i Go.undef else if i < first.length + vs.length then xs.getD (i - first.length) Go.undef else cv.getD (i - (first.length + vs.length)) Go.undef:=by
  intro i
  simp only [Array.getD_eq_getD_getElem?,Array.getElem?_append,Array.size_append,h1,h2]
  split
  ·split
   ·rfl
   ·rfl
  ·rename_i hge
   rw [if_neg (by omega)]
 rw [hget]
 by_cases c1:j < first.length
 ·rw [if_pos c1]
  rw [List.append_assoc,List.getElem?_append_left (by simpa using c1),List.getElem?_map] at hx
  obtain ⟨y,hy,rfl⟩:=Option.map_eq_some_iff.1 hx
  exact k1 j y hy
 ·rw [if_neg c1]
  by_cases c2:j < first.length + vs.length
  ·rw [if_pos c2]
   rw [List.append_assoc,List.getElem?_append_right (by simpa using c1),List.getElem?_append_left (by simp; omega)] at hx
   simp only [List.length_map] at hx
   have:=k2 _ x hx
   rwa [show first.length + (j - first.length)=j by omega] at this
  ·rw [if_neg c2]
   rw [List.getElem?_append_right (by simp; omega),List.getElem?_map] at hx
   simp only [List.length_append,List.length_map] at hx
   obtain ⟨y,hy,rfl⟩:=Option.map_eq_some_iff.1 hx
   exact k3 _ y j hy
theorem ZxW {c:Call}{f:Operand}(hop:o.op=.call c)(hcal:c.callee=.value f){g:FuncId}{fv cv:Array Value}(hf:a.eval f=.func (.func g) fv cv)(w:World) :
  (execOp a.eval o).run P w=(callFunc g ((fv ++ c.args.map a.eval) ++ cv)).run P w:=by
 simp only [execOp,hop]
 simp only [resolve,hcal,Deferred.ofValue,hf,Sem.run_bind,Sem.run_pure,Result.andThen_ok,invoke]
theorem Z5j (hG:GOk G E.W0)(hS:Uf P E.W0 call)(hI:Inv E s Γ a w){c:Call}{f:Operand}(hop:o.op=.call c)(hcal:c.callee=.value f)(hc:cOp P hand draw o=some ao)(h:ZF G call s ao=some (v,s'))
  {K:Act→World→Prop} {Q:Exit→Act→World→Prop} (hK:∀ Γ' cv w',Inv E s' Γ' a w'→Rep Γ' w' v cv→OwnAt Γ' w' .res v cv→K (a.put o.dst cv) w'):o.wp P a w K Q:=by
 simp only [cOp,hop,hcal] at hc
 split at hc <;> try (cases hc; done)
 rename_i f' args hf hargs
 obtain rfl:=Option.some.inj hc
 simp only [ZF] at h
 split at h <;> try (cases h; done)
 rename_i g first caps vs sl hfv hvs
 split at h <;> try (cases h; done)
 rename_i u hp e hcall
 cases h
 obtain ⟨Γ1,i1,f1,o1,_,hlen,hall⟩:=Z47 hG first.length hI hargs hvs
 have hfn:=((YZ hG hI hf hfv).1).mono f1 o1
 generalize hq:a.eval f=q at hfn
 cases hfn with
 | fn _ _ _ fv cv hs1 hr1 hs hr =>
  have f2:U1 Γ1 w (fun b=>Aj s.hp.length (Γ1 b)) w:=fun _ _ _ h1 h2=>⟨Zr9 h1,h2⟩
  have o2:GU Γ1 (fun b=>Aj s.hp.length (Γ1 b)):=fun b g hb=>Zml.1 hb
  obtain ⟨t1,t2⟩:=three (first := first) (vs := vs) (caps := caps) (fv := fv) (cv := cv) (xs := c.args.map a.eval) hs1 (by simp [hlen]) hs
   (R := fun j x y=>Rep (fun b=>Aj s.hp.length (Γ1 b)) w x y∧OwnAt (fun b=>Aj s.hp.length (Γ1 b)) w (.slot j) x y)
   (fun j x hx=>⟨((hr1 j x hx).mono f2 o2).nm,.of_ne fun _ _=>ZeV⟩)
   (fun j x hx=>by
    obtain ⟨y,hy,hr,ho⟩:=hall j x hx
    have:(c.args.map a.eval).getD j Go.undef=a.eval y:=by
     rw [Array.getElem?_toList] at hy
     rw [Array.getD_eq_getD_getElem?,Array.getElem?_map,hy]; rfl
    rw [this]
    exact ⟨hr.mono f2 o2,ho.mono f2 o2 fun b n hb=>⟨by simp [hb,Aj],rfl⟩⟩)
   (fun j x i hx=>⟨((hr j x hx).mono f2 o2).nm,.of_ne fun _ _=>ZeV⟩)
  have hw:=hS g _ _ _ _ _ hcall _ w _ i1.rw.seen (Z2a Γ1 _) t1 t2
  unfold Oper.wp
  rw [ZxW hop hcal hq]
  have fin:∀ cv w',(∃ Γ',RW E.W0 Γ' w' hp∧Rep Γ' w' v cv∧OwnAt Γ' w' .res v cv∧Frame (fun b=>Aj s.hp.length (Γ1 b)) w Γ' w' e∧s.hp.length≤hp.length∧∀ b g,Γ' b=.own g→g < s.hp.length→Aj s.hp.length (Γ1 b)=.own g)→K (a.put o.dst cv) w':=by
   rintro cv w' ⟨Γ',r1,r2,r3,r4,r5⟩
   obtain ⟨Γ'',j1,j2,j3⟩:=i1.called r1 r2 r3 r4 r5
   exact hK Γ'' cv w' j1 j2 j3
  obtain ⟨hrun,hw⟩:=hw
  rw [hrun,Oper.upon_enter]
  refine hw.mono fun en w'' ⟨cv',hv,hR⟩=>?_
  subst hv
  exact fin cv' w'' hR
theorem Z3f (hG:GOk G E.W0)(hS:Uf P E.W0 call)(hI:Inv E s Γ a w)(hc:cOp P hand draw o=some ao)(h:ZF G call s ao=some (v,s'))
  {K:Act→World→Prop} {Q:Exit→Act→World→Prop} (hK:∀ Γ' cv w',Inv E s' Γ' a w'→Rep Γ' w' v cv→OwnAt Γ' w' .res v cv→K (a.put o.dst cv) w'):o.wp P a w K Q:=by
 by_cases hv:∃ c f,o.op=.call c∧c.callee=.value f
 ·obtain ⟨c,f,h1,h2⟩:=hv
  exact Z5j hG hS hI h1 h2 hc h hK
 ·exact (Z4e hG hI (fun c f h1 h2=>hv ⟨c,f,h1,h2⟩) hc h).1.wp hK
structure Behind (W w:World):Prop where
 os:w.os=W.os
 tape:w.tape=W.tape
 output:w.output=W.output
 size:W.heap.size≤w.heap.size
 upon:Upon W w
theorem Behind.inv (hI:Inv E s Γ a w){w':World}(h:Behind w w'):Inv E s Γ a w' :=
 hI.plain (X := fun _=>False) ⟨h.os,h.tape,h.output,h.size,fun b hb _=>⟨rfl,h.upon b hb⟩,fun _ _ _ h1 h2=>⟨h1,h.upon.cell h2⟩,.refl _⟩ (fun _ hx=>hx.elim) (fun _ _ h=>h) (fun b hb=>hI.rw.fresh b (Nat.le_trans h.size hb))
def F9 (n:Nat):Kind→Kind
 | .list m (.cell g i)=>if g < n then .list m (.cell g i) else .imm
 | .list m _=>.list m .outer
 | k=>k
theorem ZtD {n o:Nat}{k:Kind}(h:PW o k):PW o (F9 n k):=by
 cases k with
 | imm=>trivial
 | own g=>exact h.elim
 | list m l =>
  cases l <;> simp only [F9] <;> first | exact h | skip
  split
  ·exact h
  ·trivial
theorem ZtE {n g:Nat}{k:Kind}:k=.own g↔F9 n k=.own g:=by
 cases k with
 | imm=>simp [F9]
 | own g=>simp [F9]
 | list m l =>
  cases l <;> simp only [F9] <;> try simp
  split <;> simp
theorem ZzN (Γ:QS)(n:Nat):Tidy (fun b=>F9 n (Γ b)) n:=by
 refine ⟨fun b m h=>?_,fun b m j h=>?_,fun b m g i h=>?_⟩ <;> revert h <;> cases Γ b with
 | imm=>simp [F9]
 | own g=>simp [F9]
 | list m l =>
  cases l <;> simp only [F9] <;> try simp
  try (split <;> simp <;> try omega)
theorem ZzL (n:Nat)(k:Kind):Kept none (F9 n k):=by
 cases k with
 | imm=>trivial
 | own g=>exact fun _ _ e=>by cases e
 | list m l =>
  cases l <;> simp only [F9] <;> try trivial
  split
  ·exact fun _ _ e=>by cases e
  ·trivial
theorem RW.quiet {W0 w:World}{Γ:QS}{hp:List Z5}(h:RW W0 Γ w hp):RW W0 (fun b=>F9 hp.length (Γ b)) w hp :=
 h.alike (fun _ _ _ h1 h2=>⟨ZtD h1,h2⟩) (fun _ _=>ZtE) (fun b n g i hl hb=>by simp [hb,F9,hl]) (fun b hb=>by simp [hb,F9])
theorem Zti (hG:GOk G E.W0)(hI:Inv E s Γ a w):∀ {args:List (Nat ⊕ KX)} {ts:List TypeId} {xs:List Operand} {hand:Nat→Bool} {vs sl:List AV},Zla P hand ts xs=some args→noHand (.call (.glob 0) args)=true →
  D7 G s.sl args=some (vs,sl)→sl=s.sl∧vs.length=xs.length∧∀ (j:Nat) (v:AV),vs[j]? = some v→∃ x,xs[j]? = some x∧Rep Γ w v (a.eval x)∧∀ k r,v=.own k r→r=[]∧a.eval x=.slice none 0 0:=by
 intro args
 induction args with
 | nil =>
  intro ts xs hand vs sl hc _ h
  simp only [D7,Option.some.injEq,Prod.mk.injEq] at h
  obtain ⟨rfl,rfl⟩:=h
  have:xs=[]:=by
   cases xs with
   | nil=>rfl
   | cons x xs =>
    cases ts with
    | nil=>simp [Zla] at hc
    | cons t ts =>
     simp only [Zla] at hc
     split at hc <;> simp at hc
  subst this
  exact ⟨rfl,rfl,fun j v hv=>by simp at hv⟩
 | cons p args ih =>
  intro ts xs hand vs sl hc hq h
  cases xs with
  | nil=>cases ts <;> simp [Zla] at hc
  | cons x xs =>
   cases ts with
   | nil=>simp [Zla] at hc
   | cons t ts =>
    simp only [Zla] at hc
    split at hc
    case h_2=>cases hc
    rename_i y l hy hl
    obtain ⟨rfl,rfl⟩:=List.cons.inj (Option.some.inj hc)
    simp only [noHand,List.all_cons,Bool.and_eq_true] at hq
    cases y with
    | inl i=>exact absurd hq.1 (by simp)
    | inr q =>
     have hqx:V9 P t x=some q:=by
      split at hy
      ·rename_i i
       split at hy
       ·cases hy
       ·cases hy; rfl
      ·obtain ⟨q',h1,h2⟩:=Option.map_eq_some_iff.1 hy
       cases h2; exact h1
     simp only [D7] at h
     split at h
     case h_2=>cases h
     rename_i v hv
     obtain ⟨p1,h1,h2⟩:=Option.map_eq_some_iff.1 h
     obtain ⟨rfl,rfl⟩:=Prod.mk.inj h2
     obtain ⟨e1,e2,e3⟩:=ih hl hq.2 h1
     obtain ⟨r1,r2⟩:=YZ hG hI hqx hv
     refine ⟨e1,by simp [e2],fun j u hu=>?_⟩
     cases j with
     | zero =>
      obtain rfl:=Option.some.inj hu
      exact ⟨x,rfl,r1,r2⟩
     | succ j =>
      obtain ⟨x',hx',hr⟩:=e3 j u (by simpa using hu)
      exact ⟨x',by simpa using hx',hr⟩
theorem ZlS {Γ Γ':QS}{w w':World}{v:AV}{cv:Value}(h:Rep Γ w v cv)(hf:v.flat1=true):Rep Γ' w' v cv:=by
 rw [h.conc1 hf]; exact Zat hf Γ' w'
theorem Zyj {Γ Γ':QS}{w w':World}{v:AV}{cv:Value}(h:Rep Γ w v cv)(hf:v.flat=true):Rep Γ' w' v cv:=by
 cases h with
 | agg cells cv hs h1 hn hr =>
  simp only [AV.flat,List.all_eq_true] at hf
  exact .agg cells cv hs h1 hn fun j c hc=>ZlS (hr j c hc) (hf c (List.mem_of_getElem? hc))
 | tup vs cv hs hr =>
  simp only [AV.flat,List.all_eq_true] at hf
  exact .tup vs cv hs fun j c hc=>ZlS (hr j c hc) (hf c (List.mem_of_getElem? hc))
 | fn f fst caps fv cv hs1 hr1 hs hr=>exact ZlS (Rep.fn f fst caps fv cv hs1 hr1 hs hr) hf
 | undef=>exact .undef
 | bool=>exact .bool _
 | int=>exact .int _ _
 | str=>exact .str _
 | nilp=>exact .nilp
 | nilf=>exact .nilf
 | nilm=>exact .nilm
 | nili=>exact .nili
 | _=>cases hf
theorem Behind.refl (w:World):Behind w w:=⟨rfl,rfl,rfl,Nat.le_refl _,.refl w⟩
theorem Z2C {v:AV}(h:v.flat=true):∀ k r,v≠.own k r:=by cases v <;> first | (cases h; done) | simp
theorem Zy1 (hG:GOk G E.W0)(hS:Uf P E.W0 call)(hI:Inv E s Γ a w)(hc:cOp P hand draw o=some ao)(hq:Zre ao=true)(hn:noHand ao=true)(h:ZF G (Ub call) s ao=some (v,s'))
  {K:Act→Prop} (hK:∀ cv,s'=s→Rep Γ w v cv→(∀ l,OwnAt Γ w l v cv)→K (a.put o.dst cv)):o.quiet P a (Behind w) K:=by
 by_cases hv:∃ c f,o.op=.call c∧c.callee=.value f
 ·obtain ⟨c,f,hop,hcal⟩:=hv
  simp only [cOp,hop,hcal] at hc
  split at hc <;> try (cases hc; done)
  rename_i f' args hf hargs
  obtain rfl:=Option.some.inj hc
  simp only [ZF] at h
  split at h <;> try (cases h; done)
  rename_i g first caps vs sl hfv hvs
  split at h <;> try (cases h; done)
  rename_i u hp e hcall
  cases h
  unfold Ub at hcall
  split at hcall <;> first | (cases hcall; done) | skip
  rename_i u' hp1 hcall1
  split at hcall <;> first | (cases hcall; done) | skip
  rename_i hflat
  cases hcall
  obtain ⟨q1,q2,q3⟩:=Zti hG hI hargs hn hvs
  subst q1
  have main:∀ w',Behind w w'→o.quietAt P a (Behind w) w' v.conc∧∃ Γ' w'',Rep Γ' w'' v v.conc:=by
   intro w' hw'
   have hI':=hw'.inv hI
   obtain ⟨_,_,q3⟩:=Zti hG hI' hargs hn hvs
   have hfn:=(YZ hG hI' hf hfv).1
   generalize hq:a.eval f=q at hfn
   cases hfn with
   | fn _ _ _ fv cv hs1 hr1 hs hr =>
    have f2:U1 Γ w' (fun b=>F9 s.hp.length (Γ b)) w':=fun _ _ _ h1 h2=>⟨ZtD h1,h2⟩
    have o2:GU Γ (fun b=>F9 s.hp.length (Γ b)):=fun b g hb=>ZtE.1 hb
    obtain ⟨t1,t2⟩:=three (first := first) (vs := vs) (caps := caps) (fv := fv) (cv := cv) (xs := c.args.map a.eval) hs1 (by simp [q2]) hs
     (R := fun j x y=>Rep (fun b=>F9 s.hp.length (Γ b)) w' x y∧OwnAt (fun b=>F9 s.hp.length (Γ b)) w' (.slot j) x y)
     (fun j x hx=>⟨((hr1 j x hx).mono f2 o2).nm,.of_ne fun _ _=>ZeV⟩)
     (fun j x hx=>by
      obtain ⟨y,hy,hr,ho⟩:=q3 j x hx
      have:(c.args.map a.eval).getD j Go.undef=a.eval y:=by
       rw [Array.getElem?_toList] at hy
       rw [Array.getD_eq_getD_getElem?,Array.getElem?_map,hy]; rfl
      rw [this]
      exact ⟨hr.mono f2 o2,.nil ho⟩)
     (fun j x i hx=>⟨((hr j x hx).mono f2 o2).nm,.of_ne fun _ _=>ZeV⟩)
    have hw:=hS g _ _ _ _ _ hcall1 _ w' _ hI'.rw.quiet (ZzN Γ _) t1 t2
    unfold Oper.quietAt
    rw [ZxW hop hcal hq]
    have fin:∀ cv w'',(∃ Γ',RW E.W0 Γ' w'' hp1∧Rep Γ' w'' v cv∧OwnAt Γ' w'' .res v cv∧Frame (fun b=>F9 s.hp.length (Γ b)) w' Γ' w'' none∧s.hp.length≤hp1.length∧∀ b g,Γ' b=.own g→g < s.hp.length→F9 s.hp.length (Γ b)=.own g)→cv=v.conc∧Behind w w''∧Upon w' w'':=by
     rintro cv w'' ⟨Γ',r1,r2,r3,r4,r5⟩
     have hup:Upon w' w'':=fun b hb=>(r4.keep b hb (ZzL _ _)).2
     exact ⟨Zkc r2 hflat,⟨r4.os.trans hw'.os,r4.tape.trans hw'.tape,r4.output.trans hw'.output,Nat.le_trans hw'.size r4.size,fun b hb=>(hup b (Nat.lt_of_lt_of_le hb hw'.size)).trans (hw'.upon b hb)⟩,hup⟩
    obtain ⟨hrun,hw⟩:=hw
    obtain ⟨en,w1,_,⟨cv1,_,hR1⟩,_⟩:=hw []
    rw [hrun]
    refine ⟨⟨rfl,hw.mono fun en w'' ⟨cv',hv,hR⟩=>?_⟩,?_⟩
    ·subst hv
     obtain ⟨e1,e2,_⟩:=fin cv' w'' hR
     exact ⟨by rw [e1],e2⟩
    ·obtain ⟨e1,_,_⟩:=fin cv1 w1 hR1
     obtain ⟨Γ',_,r2,_⟩:=hR1
     rw [e1] at r2
     exact ⟨Γ',w1,r2⟩
  obtain ⟨Γ',w'',hrep⟩:=(main w (.refl w)).2
  exact ⟨v.conc,fun w' hw'=>(main w' hw').1,hK _ rfl (Zyj hrep hflat) fun l=>.of_ne (Z2C hflat)⟩
 ·obtain ⟨h1,h2⟩:=Z4e hG hI (fun c f h1 h2=>hv ⟨c,f,h1,h2⟩) hc h
  obtain ⟨e,cv,hr,r1,r2⟩:=h2 hq
  exact ⟨cv,fun w' hw'=>by
   unfold Oper.quietAt
   rw [hr w' hw'.upon]
   exact ⟨rfl,rfl⟩,hK cv e r1 fun l=>.nil r2⟩
end
end Go.Proofs.YtlmfmmclnboglaaGreat.Abs
end
section
namespace Go.Proofs.YtlmfmmclnboglaaGreat.Abs
open Go Go.RowKit
structure Zmt (W:List Nat)(f:List AV→List AV):Prop where
 len:∀ l,(f l).length=l.length
 out:∀ (l:List AV) (i:Nat),i ∉ W→(f l)[i]? = l[i]?
 on:∀ (l m:List AV) (i:Nat),i ∈ W→l.length=m.length→l[i]? = m[i]?→(f l)[i]? = (f m)[i]?
theorem Zmt.id (W:List Nat):Zmt W id:=⟨fun _=>rfl,fun _ _ _=>rfl,fun _ _ _ _ _ h=>h⟩
theorem Zmt.set (d:Nat)(v:AV):Zmt [d] (fun l=>l.set d v):=by
 refine ⟨fun l=>by simp,fun l i hi=>?_,fun l m i hi hl h=>?_⟩
 ·have:d≠i:=fun e=>hi (by simp [e])
  rw [List.getElem?_set_ne this]
 ·have:i=d:=by simpa using hi
  subst this
  simp only [List.getElem?_set_self']
  rw [h]
theorem Zmt.mod (t:Nat):Zmt [t] (fun l=>l.modify t AV.ro):=by
 refine ⟨fun l=>by simp,fun l i hi=>?_,fun l m i hi hl h=>?_⟩
 ·have:t≠i:=fun e=>hi (by simp [e])
  rw [List.getElem?_modify]; simp [this]
 ·rw [List.getElem?_modify,List.getElem?_modify,h]
theorem Zmt.comp {V W:List Nat}{f g:List AV→List AV}(hf:Zmt V f)(hg:Zmt W g):Zmt (W ++ V) (fun l=>g (f l)):=by
 refine ⟨fun l=>by rw [hg.len,hf.len],fun l i hi=>?_,fun l m i hi hl h=>?_⟩
 ·rw [List.mem_append,not_or] at hi
  rw [hg.out _ _ hi.1,hf.out _ _ hi.2]
 ·have hfi:(f l)[i]? = (f m)[i]?:=by
   by_cases h2:i ∈ V
   ·exact hf.on l m i h2 hl h
   ·rw [hf.out _ _ h2,hf.out _ _ h2,h]
  by_cases h1:i ∈ W
  ·exact hg.on _ _ i h1 (by rw [hf.len,hf.len,hl]) hfi
  ·rw [hg.out _ _ h1,hg.out _ _ h1,hfi]
theorem Zmt.swap {V W:List Nat}{f g:List AV→List AV}(hf:Zmt V f)(hg:Zmt W g)(hd:apartB V W=true)(l:List AV):f (g l)=g (f l):=by
 have hd':∀ i,i ∈ V→i ∉ W:=fun i hi hw=>by
  have:=List.all_eq_true.1 hd i hi
  simp at this
  exact this hw
 refine List.ext_getElem? fun i=>?_
 by_cases h1:i ∈ V
 ·have h2:=hd' i h1
  rw [hg.out (f l) i h2,hf.on (g l) l i h1 (hg.len l) (hg.out l i h2)]
 ·rw [hf.out (g l) i h1]
  by_cases h2:i ∈ W
  ·exact (hg.on (f l) l i h2 (hf.len l) (hf.out l i h1)).symm
  ·rw [hg.out l i h2,hg.out (f l) i h2,hf.out l i h1]
def Agree (R:List Nat)(l m:List AV):Prop:=∀ i ∈ R,l[i]? = m[i]?
theorem Agree.left {R S:List Nat}{l m:List AV}(h:Agree (R ++ S) l m):Agree R l m:=fun i hi=>h i (List.mem_append_left _ hi)
theorem Agree.right {R S:List Nat}{l m:List AV}(h:Agree (R ++ S) l m):Agree S l m:=fun i hi=>h i (List.mem_append_right _ hi)
theorem Agree.of_loc {W R:List Nat}{f:List AV→List AV}(hf:Zmt W f)(hd:apartB W R=true)(l:List AV):Agree R l (f l):=fun i hi=>by
 refine (hf.out l i fun hw=>?_).symm
 have:=List.all_eq_true.1 hd i hw
 simp at this
 exact this hi
theorem Agree.symm {R:List Nat}{l m:List AV}(h:Agree R l m):Agree R m l:=fun i hi=>(h i hi).symm
section
variable {G:Nat→Option (List AV)}
theorem Qx {x:KX}{l m:List AV}(h:Agree (oR x) l m):opnd G l x=opnd G m x:=by
 cases x with
 | tmp t=>simp only [opnd]; rw [h t (by simp [oR])]
 | const v=>rfl
 | glob g=>rfl
theorem Zbq:∀ {xs:List KX} {l m:List AV},Agree (oRs xs) l m→opnds G l xs=opnds G m xs
 | [],_,_,_=>rfl
 | x :: xs,l,m,h=>by
  have h':Agree (oR x ++ oRs xs) l m:=by simpa [oRs] using h
  simp only [opnds]
  rw [Qx h'.left,Zbq h'.right]
theorem Zmb {x:Option KX}{l m:List AV}(h:Agree (oRo x) l m):optOpnd G l x=optOpnd G m x:=by
 cases x with
 | none=>rfl
 | some x=>simp only [optOpnd]; rw [Qx h]
theorem Zfp:∀ {args:List (Nat ⊕ KX)} {l m:List AV} {vs sl:List AV},(args.all fun | .inr _=>true | .inl _=>false)=true →
  Agree (args.flatMap fun x=>match x with | .inl t=>[t] | .inr x=>oR x) l m→D7 G l args=some (vs,sl)→sl=l∧D7 G m args=some (vs,m)
 | [],l,m,vs,sl,_,_,h=>by
  simp only [D7,Option.some.injEq,Prod.mk.injEq] at h ⊢
  exact ⟨h.2.symm,h.1,trivial⟩
 | .inl t :: args,_,_,_,_,hn,_,_=>by simp at hn
 | .inr x :: args,l,m,vs,sl,hn,ha,h=>by
  simp only [List.all_cons,Bool.and_eq_true] at hn
  have ha':Agree (oR x ++ (args.flatMap fun x=>match x with | .inl t=>[t] | .inr x=>oR x)) l m:=by simpa using ha
  simp only [D7] at h ⊢
  rw [← Qx (G := G) ha'.left]
  split at h <;> try (cases h; done)
  rename_i v hv
  obtain ⟨p,h1,h2⟩:=Option.map_eq_some_iff.1 h
  obtain ⟨rfl,rfl⟩:=Prod.mk.inj h2
  obtain ⟨e1,e2⟩:=Zfp hn.2 ha'.right h1
  refine ⟨e1,?_⟩
  simp only [hv,e2,Option.map_some]
end
def Eg (h h':List Z5):Prop:=(∀ p v,Qn h p=some v→Qn h' p=some v)∧∀ n p v,Zt h n p=some v→Zt h' n p=some v
theorem Eg.refl (h:List Z5):Eg h h:=⟨fun _ _ h=>h,fun _ _ _ h=>h⟩
theorem Eg.of_get {h h':List Z5}(hg:∀ (g:Nat) (cs:List AV) (t:TypeId),h[g]? = some (Z5.cells cs t)→∃ (cs':List AV) (t':TypeId),h'[g]? = some (Z5.cells cs' t')∧cs'.map AV.ro=cs.map AV.ro):Eg h h':=by
 refine ⟨fun p v hv=>?_,fun n p v hv=>?_⟩
 ·unfold Qn at hv ⊢
  split at hv <;> first | exact hv | (cases hv; done) | skip
  split at hv <;> first | (cases hv; done) | skip
  rename_i g o _ cs t hcs
  obtain ⟨cs',t',h1,h2⟩:=hg _ _ _ hcs
  simp only [h1]
  rw [← List.getElem?_map] at hv ⊢
  rw [h2]; exact hv
 ·unfold Zt at hv ⊢
  split at hv <;> first | exact hv | (cases hv; done) | skip
  split at hv <;> first | (cases hv; done) | skip
  rename_i g o _ cs t hcs
  obtain ⟨cs',t',h1,h2⟩:=hg _ _ _ hcs
  simp only [h1]
  have hl:cs'.length=cs.length:=by have:=congrArg List.length h2; simpa using this
  rw [hl]
  rw [List.map_take,List.map_drop] at hv ⊢
  rw [h2]; exact hv
theorem Eg.app (h:List Z5)(o:Z5):Eg h (h ++ [o]):=.of_get fun g cs t hg=>⟨cs,t,by rw [List.getElem?_append_left (List.getElem?_eq_some_iff.1 hg).1]; exact hg,rfl⟩
theorem Z76 (v:AV):v.ro.ro=v.ro:=by cases v <;> rfl
theorem Zt6 (cs:List AV)(o:Nat)(v:AV)(h:cs[o]? = some v):(cs.set o v.ro).map AV.ro=cs.map AV.ro:=by
 refine List.ext_getElem? fun i=>?_
 rw [List.getElem?_map,List.getElem?_map,List.getElem?_set]
 split
 ·rename_i e
  subst e
  have hl:=(List.getElem?_eq_some_iff.1 h).1
  rw [if_pos hl,h]
  simp [Z76]
 ·rfl
theorem Eg.mark {h:List Z5}{g o:Nat}{cs:List AV}{t:TypeId}{v:AV}(h1:h[g]? = some (.cells cs t))(h2:cs[o]? = some v):Eg h (h.set g (.cells (cs.set o v.ro) t))∧Eg (h.set g (.cells (cs.set o v.ro) t)) h:=by
 have hl:=(List.getElem?_eq_some_iff.1 h1).1
 constructor
 ·refine .of_get fun g' cs' t' hg=>?_
  rw [List.getElem?_set]
  split
  ·rename_i e; subst e
   rw [h1] at hg; cases hg
   exact ⟨cs.set o v.ro,t,by simp [hl],Zt6 cs o v h2⟩
  ·exact ⟨_,_,hg,rfl⟩
 ·refine .of_get fun g' cs' t' hg=>?_
  rw [List.getElem?_set] at hg
  split at hg
  ·rename_i e; subst e
   simp only [hl,if_true,Option.some.injEq,Z5.cells.injEq] at hg
   obtain ⟨rfl,rfl⟩:=hg
   exact ⟨_,_,h1,(Zt6 cs o v h2).symm⟩
  ·exact ⟨_,_,hg,rfl⟩
section
variable {G:Nat→Option (List AV)}{call:FuncId→List AV→List Z5→Option (AV×List Z5×Eff)}
def tkF (ao:AOp)(l:List AV):List AV :=
 match Zie ao with
 | [t]=>l.modify t AV.ro
 | _=>l
theorem Z56 (ao:AOp):Zmt (Zie ao) (tkF ao):=by
 cases ao <;> first | exact Zmt.id _ | exact Zmt.mod _
structure ZkQ (G:Nat→Option (List AV))(call:FuncId→List AV→List Z5→Option (AV×List Z5×Eff))(ao:AOp)(k:HK)(s:Z7)(v:AV)(s':Z7):Prop where
 sl:s'.sl=tkF ao s.sl
 bs:s'.bs=s.bs
 any:∀ t,Agree (EH ao) s.sl t.sl→t.hp=s.hp→t.ef=s.ef→t.bs=s.bs→ZF G call t ao=some (v,⟨tkF ao t.sl,s'.hp,s'.ef,t.bs⟩)
 still:(match k with | .free | .look | .read=>True | _=>False)→s'.hp=s.hp∧s'.ef=s.ef
 free:k=.free→∀ t,Agree (EH ao) s.sl t.sl→ZF G call t ao=some (v,⟨tkF ao t.sl,t.hp,t.ef,t.bs⟩)
 look:k=.look→∀ t,Agree (EH ao) s.sl t.sl→Eg s.hp t.hp→ZF G call t ao=some (v,⟨tkF ao t.sl,t.hp,t.ef,t.bs⟩)
 read:(match k with | .free | .look | .read=>True | _=>False)→∀ t,Agree (EH ao) s.sl t.sl→t.hp=s.hp→ZF G call t ao=some (v,⟨tkF ao t.sl,t.hp,t.ef,t.bs⟩)
 alloc:k=.alloc→s'.ef=s.ef∧∃ obs,s'.hp=s.hp ++ obs∧∀ t,Agree (EH ao) s.sl t.sl→t.hp.length=s.hp.length→ZF G call t ao=some (v,⟨tkF ao t.sl,t.hp ++ obs,t.ef,t.bs⟩)
 mark:k=.mark→s'.hp.length=s.hp.length∧Eg s.hp s'.hp∧Eg s'.hp s.hp∧∀ t obs,Agree (EH ao) s.sl t.sl→t.hp=s.hp ++ obs→t.ef=s.ef→t.bs=s.bs→ZF G call t ao=some (v,⟨tkF ao t.sl,s'.hp ++ obs,s'.ef,t.bs⟩)
theorem ZkQ.of_free {ao:AOp}{s:Z7}{v:AV}{s':Z7}(h:s'=⟨tkF ao s.sl,s.hp,s.ef,s.bs⟩)(hf:∀ t,Agree (EH ao) s.sl t.sl→ZF G call t ao=some (v,⟨tkF ao t.sl,t.hp,t.ef,t.bs⟩)):ZkQ G call ao .free s v s':=by
 subst h
 refine ⟨rfl,rfl,fun t ha h1 h2 h3=>?_,fun _=>⟨rfl,rfl⟩,fun _=>hf,(fun h=>by cases h),fun _ t ha _=>hf t ha,(fun h=>by cases h),(fun h=>by cases h)⟩
 rw [hf t ha,h1,h2]
theorem ZkQ.of_read {ao:AOp}{s:Z7}{v:AV}{s':Z7}(h:s'=⟨tkF ao s.sl,s.hp,s.ef,s.bs⟩)(hf:∀ t,Agree (EH ao) s.sl t.sl→t.hp=s.hp→ZF G call t ao=some (v,⟨tkF ao t.sl,t.hp,t.ef,t.bs⟩)):ZkQ G call ao .read s v s':=by
 subst h
 refine ⟨rfl,rfl,fun t ha h1 h2 h3=>?_,fun _=>⟨rfl,rfl⟩,(fun h=>by cases h),(fun h=>by cases h),fun _ t ha h1=>hf t ha h1,(fun h=>by cases h),(fun h=>by cases h)⟩
 rw [hf t ha h1,h1,h2]
theorem ZkQ.of_look {ao:AOp}{s:Z7}{v:AV}{s':Z7}(h:s'=⟨tkF ao s.sl,s.hp,s.ef,s.bs⟩)(hf:∀ t,Agree (EH ao) s.sl t.sl→Eg s.hp t.hp→ZF G call t ao=some (v,⟨tkF ao t.sl,t.hp,t.ef,t.bs⟩)):ZkQ G call ao .look s v s':=by
 subst h
 refine ⟨rfl,rfl,fun t ha h1 h2 h3=>?_,fun _=>⟨rfl,rfl⟩,(fun h=>by cases h),fun _=>hf,fun _ t ha h1=>hf t ha (h1 ▸ .refl _),(fun h=>by cases h),(fun h=>by cases h)⟩
 rw [hf t ha (h1 ▸ .refl _),h1,h2]
theorem ZkQ.of_set {ao:AOp}{s:Z7}{v:AV}{s':Z7}(h1:s'.sl=tkF ao s.sl)(h2:s'.bs=s.bs)(hf:∀ t,Agree (EH ao) s.sl t.sl→t.hp=s.hp→t.ef=s.ef→t.bs=s.bs→ZF G call t ao=some (v,⟨tkF ao t.sl,s'.hp,s'.ef,t.bs⟩)):ZkQ G call ao .set s v s' :=
 ⟨h1,h2,hf,(fun h=>h.elim),(fun h=>by cases h),(fun h=>by cases h),(fun h=>h.elim),(fun h=>by cases h),(fun h=>by cases h)⟩
theorem Dv {α:Type}{x:Option AV}{s:α}{v:AV}{s':α}(h:x.map (·,s)=some (v,s')):x=some v∧s'=s:=by
 cases x with
 | none=>cases h
 | some a=>cases h; exact ⟨rfl,rfl⟩
theorem Z1r (hq:∀ f args hp v hp' e,call f args hp=some (v,hp',e)→hp'=hp∧e=none){ao:AOp}{k:HK}{s:Z7}{v:AV}{s':Z7}(hk:hkind ao=some k)(h:ZF G call s ao=some (v,s')):ZkQ G call ao k s v s':=by
 cases ao <;> simp only [hkind,Option.some.injEq,reduceCtorEq] at hk <;> try subst hk
 case un op x =>
  simp only [ZF] at h
  split at h <;> try (cases h; done)
  rename_i a ha
  obtain ⟨h1,rfl⟩:=Dv h
  refine .of_free rfl fun t ht=>?_
  simp only [ZF,← Qx (G := G) (x := x) ht,ha,h1,Option.map_some]
  rfl
 case fa off x =>
  simp only [ZF] at h
  split at h <;> try (cases h; done)
  rename_i a ha
  obtain ⟨h1,rfl⟩:=Dv h
  refine .of_free rfl fun t ht=>?_
  simp only [ZF,← Qx (G := G) (x := x) ht,ha,h1,Option.map_some]
  rfl
 case fld off n agg x =>
  simp only [ZF] at h
  split at h <;> try (cases h; done)
  rename_i a ha
  obtain ⟨h1,rfl⟩:=Dv h
  refine .of_free rfl fun t ht=>?_
  simp only [ZF,← Qx (G := G) (x := x) ht,ha,h1,Option.map_some]
  rfl
 case mv x =>
  simp only [ZF] at h
  obtain ⟨h1,rfl⟩:=Dv h
  refine .of_free rfl fun t ht=>?_
  simp only [ZF,← Qx (G := G) (x := x) ht,h1,Option.map_some]
  rfl
 case take i =>
  simp only [ZF] at h
  split at h <;> try (cases h; done)
  rename_i a ha
  cases h
  refine .of_free rfl fun t ht=>?_
  simp only [ZF,← ht i (by simp [EH]),ha]
  rfl
 case pick c a b =>
  simp only [ZF] at h
  split at h <;> try (cases h; done)
  ·rename_i hc
   obtain ⟨h1,rfl⟩:=Dv h
   refine .of_free rfl fun t ht=>?_
   simp only [ZF,← Qx (G := G) (x := c) ht.left,← Qx (G := G) (x := a) ht.right.left,hc,h1,Option.map_some]
   rfl
  ·rename_i hc
   obtain ⟨h1,rfl⟩:=Dv h
   refine .of_free rfl fun t ht=>?_
   simp only [ZF,← Qx (G := G) (x := c) ht.left,← Qx (G := G) (x := b) ht.right.right,hc,h1,Option.map_some]
   rfl
 case nilchk x =>
  simp only [ZF] at h
  split at h <;> try (cases h; done)
  all_goals
   rename_i hc
   cases h
   refine .of_free rfl fun t ht=>?_
   simp only [ZF,← Qx (G := G) (x := x) ht,hc]
   rfl
 case extract x i =>
  simp only [ZF] at h
  split at h <;> try (cases h; done)
  rename_i vs hc
  obtain ⟨u,h1,h2⟩:=Option.map_eq_some_iff.1 h
  cases h2
  refine .of_free rfl fun t ht=>?_
  simp only [ZF,← Qx (G := G) (x := x) ht,hc,h1,Option.map_some]
  rfl
 case slice sh x lo hi =>
  simp only [ZF] at h
  split at h <;> try (cases h; done)
  rename_i a b c h0 h1 h2
  obtain ⟨h3,rfl⟩:=Dv h
  refine .of_free rfl fun t ht=>?_
  simp only [ZF,← Qx (G := G) (x := x) ht.left,← Zmb (G := G) (x := lo) ht.right.left,← Zmb (G := G) (x := hi) ht.right.right,h0,h1,h2,h3,Option.map_some]
  rfl
 case build zero parts =>
  simp only [ZF] at h
  split at h <;> try (cases h; done)
  rename_i vs hvs
  obtain ⟨u,h1,h2⟩:=Option.map_eq_some_iff.1 h
  cases h2
  refine .of_free rfl fun t ht=>?_
  simp only [ZF,← Zbq (G := G) (xs := List.map (fun (p:Nat×Nat×KX)=>p.2.2) parts) ht,hvs,h1,Option.map_some]
  rfl
 case bin op sh x y =>
  simp only [ZF] at h
  split at h <;> try (cases h; done)
  rename_i a b ha hb
  obtain ⟨h1,rfl⟩:=Dv h
  refine .of_free rfl fun t ht=>?_
  simp only [ZF,← Qx (G := G) (x := x) ht.left,← Qx (G := G) (x := y) ht.right,ha,hb,h1,Option.map_some]
  rfl
 case ia sh x y =>
  simp only [ZF] at h
  split at h <;> try (cases h; done)
  rename_i a b ha hb
  obtain ⟨h1,rfl⟩:=Dv h
  refine .of_free rfl fun t ht=>?_
  simp only [ZF,← Qx (G := G) (x := x) ht.left,← Qx (G := G) (x := y) ht.right,ha,hb,h1,Option.map_some]
  rfl
 case idx x y =>
  simp only [ZF] at h
  split at h <;> try (cases h; done)
  rename_i a b ha hb
  obtain ⟨h1,rfl⟩:=Dv h
  refine .of_free rfl fun t ht=>?_
  simp only [ZF,← Qx (G := G) (x := x) ht.left,← Qx (G := G) (x := y) ht.right,ha,hb,h1,Option.map_some]
  rfl
 case min xs =>
  simp only [ZF] at h
  split at h <;> try (cases h; done)
  rename_i n l hxs
  obtain ⟨u,h1,h2⟩:=Option.map_eq_some_iff.1 h
  cases h2
  refine .of_free rfl fun t ht=>?_
  simp only [ZF,← Zbq (G := G) (xs := xs) ht,hxs,h1,Option.map_some]
  rfl
 case max xs =>
  simp only [ZF] at h
  split at h <;> try (cases h; done)
  rename_i n l hxs
  obtain ⟨u,h1,h2⟩:=Option.map_eq_some_iff.1 h
  cases h2
  refine .of_free rfl fun t ht=>?_
  simp only [ZF,← Zbq (G := G) (xs := xs) ht,hxs,h1,Option.map_some]
  rfl
 case ldc x =>
  simp only [ZF] at h
  split at h <;> try (cases h; done)
  rename_i a ha
  obtain ⟨h1,rfl⟩:=Dv h
  refine .of_look rfl fun t ht hl=>?_
  simp only [ZF,← Qx (G := G) (x := x) ht,ha,hl.1 _ _ h1,Option.map_some]
  rfl
 case lda n x =>
  simp only [ZF] at h
  split at h <;> try (cases h; done)
  rename_i a ha
  obtain ⟨h1,rfl⟩:=Dv h
  refine .of_look rfl fun t ht hl=>?_
  simp only [ZF,← Qx (G := G) (x := x) ht,ha,hl.2 _ _ _ h1,Option.map_some]
  rfl
 case len sh x =>
  simp only [ZF] at h
  split at h <;> try (cases h; done)
  rename_i a ha
  obtain ⟨h1,rfl⟩:=Dv h
  refine .of_read rfl fun t ht hl=>?_
  have e:ZO t.hp sh a=some v:=by rw [hl]; exact h1
  simp only [ZF,← Qx (G := G) (x := x) ht,ha,e,Option.map_some]
  rfl
 case conv c x =>
  simp only [ZF] at h
  split at h <;> try (cases h; done)
  rename_i a ha
  obtain ⟨h1,rfl⟩:=Dv h
  refine .of_read rfl fun t ht hl=>?_
  have e:Zau t.hp c a=some v:=by rw [hl]; exact h1
  simp only [ZF,← Qx (G := G) (x := x) ht,ha,e,Option.map_some]
  rfl
 case app k b i x =>
  simp only [ZF] at h
  split at h <;> try (cases h; done)
  rename_i k' r a h0 ha
  split at h <;> try (cases h; done)
  rename_i k'' r' h1
  split at h <;> try (cases h; done)
  rename_i hc
  cases h
  refine .of_read rfl fun t ht hl=>?_
  have e0:=ht i (by simp [EH])
  have e1:Agree (oR x) s.sl t.sl:=fun j hj=>ht j (List.mem_cons_of_mem _ hj)
  have e:rowsOf t.hp a=some (k'',r'):=by rw [hl]; exact h1
  simp only [ZF,← Qx (G := G) (x := x) e1,← e0,h0,ha,e]
  rw [if_pos hc]
  rfl
 case apps b i x =>
  simp only [ZF] at h
  split at h <;> try (cases h; done)
  rename_i k' r l h0 ha
  split at h <;> try (cases h; done)
  rename_i hc
  cases h
  refine .of_free rfl fun t ht=>?_
  have e0:=ht i (by simp [EH])
  have e1:Agree (oR x) s.sl t.sl:=fun j hj=>ht j (List.mem_cons_of_mem _ hj)
  simp only [ZF,← Qx (G := G) (x := x) e1,← e0,h0,ha]
  rw [if_pos hc]
  rfl
 case appn k b x =>
  simp only [ZF] at h
  split at h <;> try (cases h; done)
  rename_i a ha
  split at h <;> try (cases h; done)
  rename_i k'' r' h1
  split at h <;> try (cases h; done)
  rename_i hc
  cases h
  refine .of_read rfl fun t ht hl=>?_
  have e:rowsOf t.hp a=some (k'',r'):=by rw [hl]; exact h1
  simp only [ZF,← Qx (G := G) (x := x) ht,ha,e]
  rw [if_pos hc]
  rfl
 case call f args =>
  split at hk <;> first | (cases hk; done) | skip
  rename_i hn
  cases hk
  simp only [ZF] at h
  split at h <;> try (cases h; done)
  rename_i g first caps vs sl hf hvs
  split at h <;> try (cases h; done)
  rename_i u hp e hcall
  cases h
  obtain ⟨rfl,rfl⟩:=hq _ _ _ _ _ _ hcall
  have hall:(args.all fun | .inr _=>true | .inl _=>false)=true:=hn
  obtain ⟨rfl,_⟩:=Zfp (G := G) (m := s.sl) hall (fun _ _=>rfl) hvs
  refine .of_read rfl fun t ht hl=>?_
  obtain ⟨_,e2⟩:=Zfp (G := G) hall ht.right hvs
  have hcall':=hcall
  rw [← hl] at hcall'
  simp only [ZF,← Qx (G := G) (x := f) ht.left,hf,e2,hcall']
  rfl
 case st n x y =>
  simp only [ZF] at h
  split at h <;> try (cases h; done)
  rename_i g o a ha hb
  split at h <;> try (cases h; done)
  rename_i cs ty hg
  split at h <;> try (cases h; done)
  rename_i hc
  cases h
  refine .of_set rfl rfl fun t ht h1 h2 h3=>?_
  simp only [ZF,← Qx (G := G) (x := x) ht.left,← Qx (G := G) (x := y) ht.right,ha,hb,h1,hg,Z7.note,h2,h3]
  rw [if_pos hc]
  rfl
 case stt x i =>
  simp only [ZF] at h
  split at h <;> try (cases h; done)
  rename_i g o a ha hb
  split at h <;> try (cases h; done)
  rename_i cs ty hg
  split at h <;> try (cases h; done)
  rename_i hc
  cases h
  refine .of_set rfl rfl fun t ht h1 h2 h3=>?_
  have e0:=ht i (by simp [EH])
  have e1:Agree (oR x) s.sl t.sl:=fun j hj=>ht j (List.mem_cons_of_mem _ hj)
  simp only [ZF,← Qx (G := G) (x := x) e1,← e0,ha,hb,h1,hg,Z7.note,Z7.let_,h2,h3]
  rw [if_pos hc]
  rfl
 case copy k x y =>
  simp only [ZF] at h
  split at h <;> try (cases h; done)
  ·rename_i g off len k'' a ha hb
   split at h <;> try (cases h; done)
   rename_i k' r cs ty hr hg
   split at h <;> try (cases h; done)
   rename_i hc
   cases h
   refine .of_set rfl rfl fun t ht h1 h2 h3=>?_
   simp only [ZF,← Qx (G := G) (x := x) ht.left,← Qx (G := G) (x := y) ht.right,ha,hb,h1,hr,hg,Z7.note,h2,h3]
   rw [if_pos hc]
   rfl
  ·rename_i a ha hb
   split at h <;> try (cases h; done)
   rename_i k' r hr
   split at h <;> try (cases h; done)
   rename_i hc
   cases h
   refine .of_set rfl rfl fun t ht h1 h2 h3=>?_
   simp only [ZF,← Qx (G := G) (x := x) ht.left,← Qx (G := G) (x := y) ht.right,ha,hb,h1,hr]
   rw [if_pos hc,← h1,← h2]
   rfl
 case ldt x =>
  simp only [ZF] at h
  split at h <;> try (cases h; done)
  rename_i g o ha
  split at h <;> try (cases h; done)
  rename_i cs ty hg
  split at h <;> try (cases h; done)
  rename_i u hu
  cases h
  obtain ⟨l1,l2⟩:=Eg.mark hg hu
  have hlt:=(List.getElem?_eq_some_iff.1 hg).1
  refine ⟨rfl,rfl,fun t ht h1 h2 h3=>?_,(fun h=>h.elim),(fun h=>by cases h),(fun h=>by cases h),(fun h=>h.elim),(fun h=>by cases h),fun _=>⟨by simp,l1,l2,fun t obs ht h1 h2 h3=>?_⟩⟩
  ·simp only [ZF,← Qx (G := G) (x := x) ht,ha,h1,hg,hu,Z7.note,h2,h3]
   rfl
  ·have e:(s.hp ++ obs)[g]? = some (.cells cs ty):=by rw [List.getElem?_append_left hlt]; exact hg
   simp only [ZF,← Qx (G := G) (x := x) ht,ha,h1,e,hu,Z7.note,h2,h3,List.set_append_left _ _ hlt]
   rfl
 case lit e k parts =>
  cases parts with
  | nil =>
   simp only [hkind,Option.some.injEq] at hk
   subst hk
   have key:∀ t:Z7,ZF G call t (.lit e k [])=some (.own k [],t):=fun t=>rfl
   rw [key] at h
   cases h
   exact .of_free rfl fun t _=>key t
  | cons p0 ps =>
  simp only [hkind,Option.some.injEq] at hk
  subst hk
  generalize hps:p0 :: ps=parts at *
  simp only [ZF] at h
  split at h <;> try (cases h; done)
  rename_i vs hvs
  split at h
  ·rename_i hc
   cases h
   have key:∀ t:Z7,Agree (EH (.lit e k parts)) s.sl t.sl→ZF G call t (.lit e k parts)=some (.own k (vs.map fun v=>v.cells.map AV.ro),t):=fun t ht=>by
    simp only [ZF,← Zbq (G := G) (xs := parts) ht,hvs]
    rw [if_pos hc]
   refine ⟨rfl,rfl,fun t ht h1 h2 h3=>?_,(fun h=>h.elim),(fun h=>by cases h),(fun h=>by cases h),(fun h=>h.elim),fun _=>⟨rfl,[],by simp,fun t ht _=>?_⟩,(fun h=>by cases h)⟩
   ·rw [key t ht,← h1,← h2]; rfl
   ·rw [key t ht,List.append_nil]; rfl
  ·rename_i hc0
   split at h <;> try (cases h; done)
   rename_i hc
   cases h
   have key:∀ t:Z7,Agree (EH (.lit e k parts)) s.sl t.sl→ZF G call t (.lit e k parts)=some (.arr t.hp.length 0 vs.length k,{ t with hp:=t.hp ++ [.cells (vs.map AV.cells).flatten e] }):=fun t ht=>by
    simp only [ZF,← Zbq (G := G) (xs := parts) ht,hvs]
    rw [if_neg hc0,if_pos hc]
   refine ⟨rfl,rfl,fun t ht h1 h2 h3=>?_,(fun h=>h.elim),(fun h=>by cases h),(fun h=>by cases h),(fun h=>h.elim),fun _=>⟨rfl,_,rfl,fun t ht hl=>?_⟩,(fun h=>by cases h)⟩
   ·rw [key t ht,h1,h2]; rfl
   ·rw [key t ht,hl]; rfl
theorem ZwQ {s t:Z7}{g:Option (Nat×Bool)}(h:Agree (match g with | some (i,_)=>[i] | none=>[]) s.sl t.sl):TD s g=TD t g:=by
 cases g with
 | none=>rfl
 | some p =>
  obtain ⟨i,b⟩:=p
  simp only [TD]
  rw [h i (by simp)]
def Z1y (d:Option Nat)(v:AV)(l:List AV):List AV:=match d with | some d=>l.set d v | none=>l
theorem Ziz (d:Option Nat)(v:AV):Zmt d.toList (Z1y d v):=by
 cases d with
 | none=>exact Zmt.id _
 | some d=>exact Zmt.set d v
theorem KQ (s:Z7)(d:Option Nat)(v:AV):s.put d v=⟨Z1y d v s.sl,s.hp,s.ef,s.bs⟩:=by cases d <;> rfl
structure StepA (G:Nat→Option (List AV))(call:FuncId→List AV→List Z5→Option (AV×List Z5×Eff))(o:Jq)(k:HK)(s s':Z7)(f:List AV→List AV):Prop where
 loc:Zmt (SA o) f
 sl:s'.sl=f s.sl
 bs:s'.bs=s.bs
 any:∀ t,Agree (BB o) s.sl t.sl→t.hp=s.hp→t.ef=s.ef→t.bs=s.bs→QA G call o t=some ⟨f t.sl,s'.hp,s'.ef,t.bs⟩
 still:(match k with | .free | .look | .read=>True | _=>False)→s'.hp=s.hp∧s'.ef=s.ef
 free:k=.free→∀ t,Agree (BB o) s.sl t.sl→QA G call o t=some ⟨f t.sl,t.hp,t.ef,t.bs⟩
 look:k=.look→∀ t,Agree (BB o) s.sl t.sl→Eg s.hp t.hp→QA G call o t=some ⟨f t.sl,t.hp,t.ef,t.bs⟩
 read:(match k with | .free | .look | .read=>True | _=>False)→∀ t,Agree (BB o) s.sl t.sl→t.hp=s.hp→QA G call o t=some ⟨f t.sl,t.hp,t.ef,t.bs⟩
 alloc:k=.alloc→s'.ef=s.ef∧∃ obs,s'.hp=s.hp ++ obs∧∀ t,Agree (BB o) s.sl t.sl→t.hp.length=s.hp.length→QA G call o t=some ⟨f t.sl,t.hp ++ obs,t.ef,t.bs⟩
 mark:k=.mark→s'.hp.length=s.hp.length∧Eg s.hp s'.hp∧Eg s'.hp s.hp∧∀ t obs,Agree (BB o) s.sl t.sl→t.hp=s.hp ++ obs→t.ef=s.ef→t.bs=s.bs→QA G call o t=some ⟨f t.sl,s'.hp ++ obs,s'.ef,t.bs⟩
theorem ZrD (hq:∀ f args hp v hp' e,call f args hp=some (v,hp',e)→hp'=hp∧e=none){o:Jq}{k:HK}{s s':Z7}(hk:hkind o.op=some k)(h:QA G call o s=some s'):∃ f,StepA G call o k s s' f:=by
 have wg:∀ t:Z7,Agree (BB o) s.sl t.sl→TD t o.guard=TD s o.guard:=fun t ht=>(ZwQ ht.left).symm
 simp only [QA] at h
 split at h <;> try (cases h; done)
 ·rename_i hw
  split at h <;> try (cases h; done)
  rename_i v s1 he
  obtain rfl:=Option.some.inj h
  have S:=Z1r hq hk he
  have run:∀ (t:Z7) (hp:List Z5) (ef:Eff),TD t o.guard=some true→ZF G call t o.op=some (v,⟨tkF o.op t.sl,hp,ef,t.bs⟩)→QA G call o t=some ⟨Z1y o.dst v (tkF o.op t.sl),hp,ef,t.bs⟩:=fun t hp ef h1 h2=>by
   simp only [QA,h1,h2,KQ]
  refine ⟨fun l=>Z1y o.dst v (tkF o.op l),(Z56 o.op).comp (Ziz o.dst v),by rw [KQ,S.sl],by rw [KQ]; exact S.bs,fun t ht h1 h2 h3=>?_,fun hs=>?_,fun hk t ht=>?_,fun hk t ht hl=>?_,fun hk t ht hl=>?_,fun hk=>?_,fun hk=>?_⟩
  ·rw [KQ]; exact run t _ _ ((wg t ht).trans hw) (S.any t ht.right h1 h2 h3)
  ·rw [KQ]; exact S.still hs
  ·exact run t _ _ ((wg t ht).trans hw) (S.free hk t ht.right)
  ·exact run t _ _ ((wg t ht).trans hw) (S.look hk t ht.right hl)
  ·exact run t _ _ ((wg t ht).trans hw) (S.read hk t ht.right hl)
  ·obtain ⟨e1,obs,e2,e3⟩:=S.alloc hk
   rw [KQ]
   exact ⟨e1,obs,e2,fun t ht hl=>run t _ _ ((wg t ht).trans hw) (e3 t ht.right hl)⟩
  ·obtain ⟨e1,e2,e3,e4⟩:=S.mark hk
   rw [KQ]
   exact ⟨e1,e2,e3,fun t obs ht h1 h2 h3=>run t _ _ ((wg t ht).trans hw) (e4 t obs ht.right h1 h2 h3)⟩
 ·rename_i hw
  obtain rfl:=Option.some.inj h
  have run:∀ t:Z7,TD t o.guard=some false→QA G call o t=some ⟨Z1y o.dst .undef t.sl,t.hp,t.ef,t.bs⟩:=fun t h1=>by
   simp only [QA,h1,KQ]
  have hl:Zmt (SA o) (Z1y o.dst .undef):=by
   have:=(Zmt.id (Zie o.op)).comp (Ziz o.dst .undef)
   exact this
  rw [KQ]
  refine ⟨Z1y o.dst .undef,hl,rfl,rfl,fun t ht h1 h2 h3=>?_,fun _=>⟨rfl,rfl⟩,fun _ t ht=>run t ((wg t ht).trans hw),fun _ t ht _=>run t ((wg t ht).trans hw),fun _ t ht _=>run t ((wg t ht).trans hw),fun _=>⟨rfl,[],by simp,fun t ht _=>?_⟩,fun _=>⟨rfl,.refl _,.refl _,fun t obs ht h1 h2 h3=>?_⟩⟩
  ·rw [run t ((wg t ht).trans hw),h1,h2]
  ·rw [run t ((wg t ht).trans hw),List.append_nil]
  ·rw [run t ((wg t ht).trans hw),h1,h2]
theorem Z39 (hq:∀ f args hp v hp' e,call f args hp=some (v,hp',e)→hp'=hp∧e=none){o1 o2:Jq}{s s1 s2:Z7}(hc:Zzr o1 o2=true)(h1:QA G call o1 s=some s1)(h2:QA G call o2 s1=some s2) :
  ∃ u,QA G call o2 s=some u∧QA G call o1 u=some s2:=by
 simp only [Zzr,Bool.and_eq_true] at hc
 obtain ⟨⟨⟨hk,ha⟩,hb⟩,hd⟩:=hc
 split at hk <;> first | (cases hk; done) | skip
 rename_i k1 k2 hk1 hk2
 obtain ⟨f1,S1⟩:=ZrD hq hk1 h1
 obtain ⟨f2,S2⟩:=ZrD hq hk2 h2
 have A2:Agree (BB o2) s1.sl s.sl:=by rw [S1.sl]; exact (Agree.of_loc S1.loc ha s.sl).symm
 have A1:∀ u:Z7,u.sl=f2 s.sl→Agree (BB o1) s.sl u.sl:=fun u hu=>by rw [hu]; exact Agree.of_loc S2.loc hd s.sl
 have fin:∀ (u:Z7) (hp:List Z5) (ef:Eff),u.sl=f2 s.sl→u.bs=s.bs→hp=s2.hp→ef=s2.ef→QA G call o1 u=some ⟨f1 u.sl,hp,ef,u.bs⟩→QA G call o1 u=some s2:=fun u hp ef e1 e2 e3 e4 h=>by
  rw [h]
  have q1:f1 u.sl=s2.sl:=by rw [e1,S2.sl,S1.sl]; exact S1.loc.swap S2.loc hb s.sl
  have q2:u.bs=s2.bs:=by rw [e2,S2.bs,S1.bs]
  rw [q1,q2,e3,e4]
 cases k1 with
 | free =>
  obtain ⟨p1,p2⟩:=S1.still trivial
  have e:=S2.any s A2 p1.symm p2.symm S1.bs.symm
  exact ⟨_,e,fin _ _ _ rfl rfl rfl rfl (S1.free rfl _ (A1 _ rfl))⟩
 | look =>
  obtain ⟨p1,p2⟩:=S1.still trivial
  have e:=S2.any s A2 p1.symm p2.symm S1.bs.symm
  cases k2 with
  | free=>obtain ⟨q1,q2⟩:=S2.still trivial; exact ⟨_,e,fin _ _ _ rfl rfl rfl rfl (S1.look rfl _ (A1 _ rfl) (by show Eg s.hp s2.hp; rw [q1,p1]; exact .refl _))⟩
  | look=>obtain ⟨q1,q2⟩:=S2.still trivial; exact ⟨_,e,fin _ _ _ rfl rfl rfl rfl (S1.look rfl _ (A1 _ rfl) (by show Eg s.hp s2.hp; rw [q1,p1]; exact .refl _))⟩
  | read=>obtain ⟨q1,q2⟩:=S2.still trivial; exact ⟨_,e,fin _ _ _ rfl rfl rfl rfl (S1.look rfl _ (A1 _ rfl) (by show Eg s.hp s2.hp; rw [q1,p1]; exact .refl _))⟩
  | mark=>obtain ⟨_,q2,_⟩:=S2.mark rfl; exact ⟨_,e,fin _ _ _ rfl rfl rfl rfl (S1.look rfl _ (A1 _ rfl) (by show Eg s.hp s2.hp; rw [← p1]; exact q2))⟩
  | alloc =>
   obtain ⟨_,obs,q2,_⟩:=S2.alloc rfl
   refine ⟨_,e,fin _ _ _ rfl rfl rfl rfl (S1.look rfl _ (A1 _ rfl) ?_)⟩
   show Eg s.hp s2.hp
   rw [q2,p1]
   exact .of_get fun g cs t hg=>⟨cs,t,by rw [List.getElem?_append_left (List.getElem?_eq_some_iff.1 hg).1]; exact hg,rfl⟩
  | set=>cases hk
 | read =>
  obtain ⟨p1,p2⟩:=S1.still trivial
  have e:=S2.any s A2 p1.symm p2.symm S1.bs.symm
  cases k2 with
  | free=>obtain ⟨q1,q2⟩:=S2.still trivial; exact ⟨_,e,fin _ _ _ rfl rfl rfl rfl (S1.read trivial _ (A1 _ rfl) (q1.trans p1))⟩
  | look=>obtain ⟨q1,q2⟩:=S2.still trivial; exact ⟨_,e,fin _ _ _ rfl rfl rfl rfl (S1.read trivial _ (A1 _ rfl) (q1.trans p1))⟩
  | read=>obtain ⟨q1,q2⟩:=S2.still trivial; exact ⟨_,e,fin _ _ _ rfl rfl rfl rfl (S1.read trivial _ (A1 _ rfl) (q1.trans p1))⟩
  | mark=>cases hk
  | alloc=>cases hk
  | set=>cases hk
 | set =>
  cases k2 with
  | free =>
   obtain ⟨q1,q2⟩:=S2.still trivial
   have e:=S2.free rfl s A2
   exact ⟨_,e,fin _ _ _ rfl rfl q1.symm q2.symm (S1.any _ (A1 _ rfl) rfl rfl rfl)⟩
  | _=>cases hk
 | alloc =>
  cases k2 with
  | free =>
   obtain ⟨q1,q2⟩:=S2.still trivial
   have e:=S2.free rfl s A2
   exact ⟨_,e,fin _ _ _ rfl rfl q1.symm q2.symm (S1.any _ (A1 _ rfl) rfl rfl rfl)⟩
  | _=>cases hk
 | mark =>
  obtain ⟨m1,m2,m3,m4⟩:=S1.mark rfl
  cases k2 with
  | free =>
   obtain ⟨q1,q2⟩:=S2.still trivial
   have e:=S2.free rfl s A2
   exact ⟨_,e,fin _ _ _ rfl rfl q1.symm q2.symm (S1.any _ (A1 _ rfl) rfl rfl rfl)⟩
  | look =>
   obtain ⟨q1,q2⟩:=S2.still trivial
   have e:=S2.look rfl s A2 m3
   exact ⟨_,e,fin _ _ _ rfl rfl q1.symm q2.symm (S1.any _ (A1 _ rfl) rfl rfl rfl)⟩
  | alloc =>
   obtain ⟨q1,obs,q2,q3⟩:=S2.alloc rfl
   have e:=q3 s A2 m1.symm
   refine ⟨_,e,fin _ _ _ rfl rfl q2.symm q1.symm (m4 _ obs (A1 _ rfl) rfl rfl rfl)⟩
  | _=>cases hk
end
end Go.Proofs.YtlmfmmclnboglaaGreat.Abs
end
section
namespace Go.Proofs.YtlmfmmclnboglaaGreat.Abs
open Go Go.RowKit
section
variable {P:Program}{G:Nat→Option (List AV)}{call:FuncId→List AV→List Z5→Option (AV×List Z5×Eff)}{E:Entry}{s s':Z7}{Γ:QS}{a:Act}{w:World}{hand:Nat→Bool}{draw:Bool}
def Zlb (ops:Array Oper):Option (Nat×Bool)→Option (Option (Nat×Bool))
 | none=>some none
 | some (j,want)=>match (ops[j]?).bind (·.dst) with
  | some d=>some (some (d,want))
  | none=>none
theorem EP (hI:Inv E s Γ a w){ops:Array Oper}{o:Oper}{g:Option (Nat×Bool)}{b:Bool}(hg:Zlb ops o.guard=some g)(h:TD s g=some b):Region.wanted o (yielded ops a.tmps)=b:=by
 unfold Region.wanted
 cases hq:o.guard with
 | none =>
  rw [hq] at hg
  obtain rfl:=Option.some.inj hg
  simp only [TD,Option.some.injEq] at h
  exact h
 | some p =>
  obtain ⟨j,want⟩:=p
  rw [hq] at hg
  simp only [Zlb] at hg
  split at hg
  ·rename_i d hd
   obtain rfl:=Option.some.inj hg
   simp only [TD] at h
   split at h <;> try (cases h; done)
   ·rename_i c hc
    obtain rfl:=Option.some.inj h
    have hr:=hI.slots.rep d _ hc
    have hlt:d < a.tmps.size:=by rw [hI.slots.size]; exact YV hc
    have ht:a.tmps[d]? = some (a.tmps.getD d Go.undef):=Ob hlt
    generalize a.tmps.getD d Go.undef=u at hr ht
    cases hr
    simp only [yielded,hd,Option.bind_some,ht]
    cases c <;> cases want <;> rfl
   ·rename_i hc
    obtain rfl:=Option.some.inj h
    have hr:=hI.slots.rep d _ hc
    have hlt:d < a.tmps.size:=by rw [hI.slots.size]; exact YV hc
    have ht:a.tmps[d]? = some (a.tmps.getD d Go.undef):=Ob hlt
    generalize a.tmps.getD d Go.undef=u at hr ht
    cases hr
    simp only [yielded,hd,Option.bind_some,ht]
    rfl
  ·cases hg
theorem ZjP {ops:Array Oper}{o:Oper}{l:List Oper}{aops:List Jq}(h:Zao P hand draw ops (o :: l)=some aops) :
  ∃ g r,Zlb ops o.guard=some g∧Zao P hand draw ops l=some r∧aops=⟨o.dst,(cOp P hand draw o).getD .bad,g⟩ :: r:=by
 simp only [Zao] at h
 split at h <;> try (cases h; done)
 rename_i g r h2 h3
 refine ⟨g,r,?_,h3,(Option.some.inj h).symm⟩
 rw [← h2]
 unfold Zlb
 cases o.guard with
 | none=>rfl
 | some p=>rfl
theorem CQ {o:Oper}{s s':Z7}{v:AV}{call:FuncId→List AV→List Z5→Option (AV×List Z5×Eff)}(h:ZF G call s ((cOp P hand draw o).getD .bad)=some (v,s')):cOp P hand draw o=some ((cOp P hand draw o).getD .bad):=by
 cases hc:cOp P hand draw o with
 | none=>rw [hc] at h; simp [ZF] at h
 | some ao=>rfl
theorem Zy4 (hG:GOk G E.W0)(hS:Uf P E.W0 call){ops:Array Oper}{Q:Exit→Act→World→Prop}:∀ {l:List Oper} {aops:List Jq} (k:Nat) {s s':Z7} {Γ:QS} {a:Act} {w:World},(∀ j,l[j]? = ops[k + j]?) →
  Zao P hand draw ops l=some aops→Jj G call aops s=some s'→Inv E s Γ a w→(∀ Γ a w,Inv E s' Γ a w→Q .normal a w)→wpOps P ops Q (List.range' k l.length) a w
 | [],aops,k,s,s',Γ,a,w,_,hc,h,hI,hQ=>by
  obtain rfl:=Option.some.inj (by simpa [Zao] using hc:some []=some aops)
  obtain rfl:=Option.some.inj (by simpa [Jj] using h:some s=some s')
  exact hQ Γ a w hI
 | o :: l,aops,k,s,s',Γ,a,w,hl,hc,h,hI,hQ=>by
  obtain ⟨g,r,h2,h3,rfl⟩:=ZjP hc
  have ho:ops[k]? = some o:=by simpa using (hl 0).symm
  simp only [Jj] at h
  split at h <;> try (cases h; done)
  rename_i s1 he
  have hl':∀ j,l[j]? = ops[k + 1 + j]?:=fun j=>by
   have:=hl (j + 1)
   simpa [Nat.add_assoc,Nat.add_comm 1 j] using this
  simp only [List.length_cons,List.range'_succ,wpOps,ho]
  simp only [QA] at he
  split at he <;> first | (cases he; done) | skip
  ·rename_i hw
   rw [EP hI h2 hw]
   split at he <;> first | (cases he; done) | skip
   rename_i v s2 hev
   obtain rfl:=Option.some.inj he
   simp only [if_true]
   refine .inl (Z3f hG hS hI (CQ hev) hev fun Γ' cv w' i1 r1 o1=>?_)
   obtain ⟨Γ2,i2⟩:=i1.put o.dst r1 o1
   exact Zy4 hG hS (k + 1) hl' h3 h i2 hQ
  ·rename_i hw
   rw [EP hI h2 hw]
   obtain rfl:=Option.some.inj he
   simp only [Bool.false_eq_true,if_false]
   obtain ⟨Γ2,i2⟩:=hI.put o.dst (v := .undef) (cv := Go.undef) .undef (.of_ne (by simp))
   exact Zy4 hG hS (k + 1) hl' h3 h i2 hQ
theorem ZqR (hG:GOk G E.W0)(hS:Uf P E.W0 call){ops:Array Oper}{Q:Exit→Act→World→Prop}{w:World}:∀ {l:List Oper} {aops:List Jq} {s s':Z7} {Γ:QS} {a:Act},
  Zao P hand draw ops l=some aops→Zpn aops=true→Jj G (Ub call) aops s=some s'→Inv E s Γ a w→(∀ Γ a w,Inv E s' Γ a w→Q .normal a w) →
  wpQuiet P ops (Behind w) (fun a'=>∀ w',Behind w w'→Q .normal a' w') l a
 | [],aops,s,s',Γ,a,hc,_,h,hI,hQ=>by
  obtain rfl:=Option.some.inj (by simpa [Zao] using hc:some []=some aops)
  obtain rfl:=Option.some.inj (by simpa [Jj] using h:some s=some s')
  exact fun w' hw'=>hQ Γ a w' (hw'.inv hI)
 | o :: l,aops,s,s',Γ,a,hc,hq,h,hI,hQ=>by
  obtain ⟨g,r,h2,h3,rfl⟩:=ZjP hc
  simp only [Zpn,Bool.and_eq_true] at hq
  simp only [Jj] at h
  split at h <;> try (cases h; done)
  rename_i s1 he
  simp only [wpQuiet]
  simp only [QA] at he
  split at he <;> first | (cases he; done) | skip
  ·rename_i hw
   rw [EP hI h2 hw]
   split at he <;> first | (cases he; done) | skip
   rename_i v s2 hev
   obtain rfl:=Option.some.inj he
   simp only [if_true]
   refine Zy1 hG hS hI (CQ hev) hq.1.1 hq.1.2 hev fun cv e r1 o1=>?_
   subst e
   obtain ⟨Γ2,i2⟩:=hI.put o.dst r1 (o1 .res)
   exact ZqR hG hS h3 hq.2 h i2 hQ
  ·rename_i hw
   rw [EP hI h2 hw]
   obtain rfl:=Option.some.inj he
   simp only [Bool.false_eq_true,if_false]
   obtain ⟨Γ2,i2⟩:=hI.put o.dst (v := .undef) (cv := Go.undef) .undef (.of_ne (by simp))
   exact ZqR hG hS h3 hq.2 h i2 hQ
theorem bubble (hq:∀ f args hp v hp' e,call f args hp=some (v,hp',e)→hp'=hp∧e=none){o:Jq}{l2:List Jq}{sF:Z7}:∀ {l1:List Jq} {s:Z7},(∀ x ∈ l1,Zzr x o=true)→Jj G call (l1 ++ o :: l2) s=some sF →
  ∃ u,QA G call o s=some u∧Jj G call (l1 ++ l2) u=some sF
 | [],s,_,h=>by
  simp only [List.nil_append,Jj] at h
  split at h <;> try (cases h; done)
  rename_i u hu
  exact ⟨u,hu,h⟩
 | x :: l1,s,hx,h=>by
  simp only [List.cons_append,Jj] at h
  split at h <;> try (cases h; done)
  rename_i s1 h1
  obtain ⟨u1,h2,h3⟩:=bubble hq (fun y hy=>hx y (List.mem_cons_of_mem _ hy)) h
  obtain ⟨u,h4,h5⟩:=Z39 hq (hx x (List.mem_cons_self ..)) h1 h2
  refine ⟨u,h4,?_⟩
  simp only [List.cons_append,Jj,h5]
  exact h3
theorem ZzM:∀ f args hp v hp' e,Ub call f args hp=some (v,hp',e)→hp'=hp∧e=none:=by
 intro f args hp v hp' e h
 unfold Ub at h
 split at h <;> try (cases h; done)
 split at h <;> try (cases h; done)
 cases h
 exact ⟨rfl,rfl⟩
theorem ZaX:∀ {l:List Oper} {aops:List Jq} {ops:Array Oper},Zao P hand draw ops l=some aops→l.length=aops.length∧∀ (i:Nat) (o:Oper),l[i]? = some o→∃ g,Zlb ops o.guard=some g∧aops[i]? = some ⟨o.dst,(cOp P hand draw o).getD .bad,g⟩
 | [],aops,ops,h=>by
  obtain rfl:=Option.some.inj (by simpa [Zao] using h:some []=some aops)
  exact ⟨rfl,fun i o hi=>by simp at hi⟩
 | o :: l,aops,ops,h=>by
  obtain ⟨g,r,h2,h3,rfl⟩:=ZjP h
  obtain ⟨h4,h5⟩:=ZaX h3
  refine ⟨by simp [h4],fun i o' hi=>?_⟩
  cases i with
  | zero=>cases hi; exact ⟨g,h2,rfl⟩
  | succ i=>exact h5 i o' hi
theorem Z3i (hG:GOk G E.W0)(hS:Uf P E.W0 call){ops:Array Oper}{o:Oper}{g:Option (Nat×Bool)}{u:Z7}{K:Act→World→Prop}{Q:Exit→Act→World→Prop}(hn:noHand ((cOp P hand draw o).getD .bad)=true)(h2:Zlb ops o.guard=some g)
  (he:QA G (Ub call) ⟨o.dst,(cOp P hand draw o).getD .bad,g⟩ s=some u) (hI:Inv E s Γ a w) (hK:∀ Γ a w,Inv E u Γ a w→K a w) :
  if Region.wanted o (yielded ops a.tmps)=true then o.wp P a w K Q∨(o.asks P a w∧LetsOut Q) else K (a.put o.dst Go.undef) w:=by
 simp only [QA] at he
 split at he <;> first | (cases he; done) | skip
 ·rename_i hw
  rw [EP hI h2 hw]
  split at he <;> first | (cases he; done) | skip
  rename_i v s2 hev
  obtain rfl:=Option.some.inj he
  simp only [if_true]
  refine .inl ?_
  by_cases hc:∃ f args,(cOp P hand draw o).getD .bad=.call f args
  ·obtain ⟨f,args,hcall⟩:=hc
   have hqt:Zre ((cOp P hand draw o).getD .bad)=true:=by rw [hcall]; rfl
   refine Oper.wp_of_quiet (C := Behind w) (K := fun a'=>∀ w',Behind w w'→K a' w') (Behind.refl w) (fun a' w' hw' h=>h w' hw') ?_
   refine Zy1 hG hS hI (CQ hev) hqt hn hev fun cv e r1 o1=>?_
   subst e
   obtain ⟨Γ2,i2⟩:=hI.put o.dst r1 (o1 .res)
   exact fun w' hw'=>hK _ _ w' (hw'.inv i2)
  ·have hev':ZF G call s ((cOp P hand draw o).getD .bad)=some (v,s2):=by
    rw [← hev]
    cases hx:(cOp P hand draw o).getD .bad <;> first | rfl | exact absurd ⟨_,_,hx⟩ hc
   refine Z3f hG hS hI (CQ hev') hev' fun Γ' cv w' i1 r1 o1=>?_
   obtain ⟨Γ2,i2⟩:=i1.put o.dst r1 o1
   exact hK _ _ _ i2
 ·rename_i hw
  rw [EP hI h2 hw]
  obtain rfl:=Option.some.inj he
  simp only [Bool.false_eq_true,if_false]
  obtain ⟨Γ2,i2⟩:=hI.put o.dst (v := .undef) (cv := Go.undef) .undef (.of_ne (by simp))
  exact hK _ _ _ i2
theorem Znb {listed:Array Bool}{i:Nat}(h:listed.getD i true=false):listed.getD i false=false:=by
 rcases Nat.lt_or_ge i listed.size with h' | h'
 ·simp [h'] at h ⊢; exact h
 ·simp [Array.getElem?_eq_none h'] at h
def ND (n:Nat)(listed:Array Bool):List Nat:=(List.range n).filter fun i=>!listed.getD i true
theorem EJ (n:Nat)(listed:Array Bool):(ND n listed).Pairwise (· < ·):=List.Pairwise.filter _ List.pairwise_lt_range
theorem LM {n i:Nat}{listed:Array Bool}:i ∈ ND n listed↔i < n∧listed.getD i true=false:=by simp [ND]
theorem ZeX {n i:Nat}{listed:Array Bool}{l1 l2:List Nat}(h:ND n listed=l1 ++ i :: l2)(hi:i < listed.size):ND n (listed.setIfInBounds i true)=l1 ++ l2:=by
 have hs:=EJ n listed
 rw [h] at hs
 have h1:∀ j ∈ l1,j≠i:=fun j hj=>Nat.ne_of_lt ((List.pairwise_append.1 hs).2.2 j hj i (List.mem_cons_self ..))
 have h2:∀ j ∈ l2,j≠i:=fun j hj=>Nat.ne_of_gt ((List.pairwise_cons.1 (List.pairwise_append.1 hs).2.1).1 j hj)
 have e:ND n (listed.setIfInBounds i true)=(ND n listed).filter fun j=>decide (j≠i):=by
  unfold ND
  rw [List.filter_filter]
  refine List.filter_congr fun j _=>?_
  by_cases hji:j=i
  ·subst hji
   have:(listed.setIfInBounds j true).getD j true=true:=by simp [hi]
   simp [this]
  ·rw [getD_set_ne true (Ne.symm hji)]; simp [hji]
 rw [e,h,List.filter_append,List.filter_cons]
 simp only [ne_eq,not_true_eq_false,decide_false,Bool.false_eq_true,if_false]
 rw [List.filter_eq_self.2 (fun j hj=>by simpa using h1 j hj),List.filter_eq_self.2 (fun j hj=>by simpa using h2 j hj)]
theorem Z5p (hG:GOk G E.W0)(hS:Uf P E.W0 call){ops:Array Oper}{bops:List Jq}{Q:Exit→Act→World→Prop}{sF:Z7}(hc:Zao P hand draw ops ops.toList=some bops)(hd:Zts ops bops=true)(hQ:∀ Γ a w,Inv E sF Γ a w→Q .normal a w) :
  ∀ (fuel:Nat) {listed:Array Bool} {s:Z7} {Γ:QS} {a:Act} {w:World},listed.size=ops.size→ZbN ops listed→(ND ops.size listed).length=fuel→Jj G (Ub call) ((ND ops.size listed).map fun i=>bops.getD i ⟨none,.bad,none⟩) s=some sF→Inv E s Γ a w→wpAny P .any ops Q fuel listed a w:=by
 simp only [Zts,Bool.and_eq_true,List.all_eq_true,List.mem_range] at hd
 obtain ⟨⟨hord,hnh⟩,hpair⟩:=hd
 obtain ⟨hlen,hget⟩:=ZaX hc
 intro fuel
 induction fuel with
 | zero =>
  intro listed s Γ a w hsz hcl hl h hI
  have hn:=List.eq_nil_of_length_eq_zero hl
  rw [hn] at h
  obtain rfl:=Option.some.inj (by simpa [Jj] using h:some s=some sF)
  refine ⟨List.eq_nil_iff_forall_not_mem.2 fun i hi=>?_,hQ _ _ _ hI⟩
  obtain ⟨h1,o,h2,_⟩:=mem_ready.1 hi
  have:i ∈ ND ops.size listed:=LM.2 ⟨(Array.getElem?_eq_some_iff.1 h2).1,h1⟩
  rw [hn] at this
  cases this
 | succ fuel ih =>
  intro listed s Γ a w hsz hcl hl h hI
  have hlisted:∀ j,j < ops.size→listed.getD j true≠false→listed.getD j false=true:=fun j hj h=>by
   have hj':j < listed.size:=by omega
   simp [hj'] at h ⊢; exact h
  refine ⟨fun hr=>?_,fun i hi=>?_⟩
  ·obtain ⟨i,r,hir⟩:∃ i r,ND ops.size listed=i :: r:=by
    cases hx:ND ops.size listed with
    | nil=>rw [hx] at hl; cases hl
    | cons i r=>exact ⟨i,r,rfl⟩
   have him:=LM.1 (show i ∈ ND ops.size listed by rw [hir]; exact List.mem_cons_self ..)
   have hoi:ops[i]? = some ops[i]:=Array.getElem?_eq_getElem him.1
   have hready:i ∈ Region.ready .any ops listed:=by
    refine mem_ready.2 ⟨him.2,_,hoi,fun e he hb=>?_⟩
    have:=hord i him.1
    rw [hoi] at this
    have hlt:=Array.all_eq_true'.1 this e he
    rw [hb] at hlt
    simp only [Bool.not_true,Bool.false_or,decide_eq_true_eq] at hlt
    refine hlisted e.on (by omega) fun hun=>?_
    have hm:=LM.2 ⟨show e.on < ops.size by omega,hun⟩
    rw [hir] at hm
    have hs:=EJ ops.size listed
    rw [hir] at hs
    rcases List.mem_cons.1 hm with he | hm
    ·omega
    ·have:=(List.pairwise_cons.1 hs).1 _ hm
     omega
   rw [hr] at hready
   cases hready
  ·obtain ⟨hun,o,ho,hdeps⟩:=mem_ready.1 hi
   have hin:=(Array.getElem?_eq_some_iff.1 ho).1
   obtain ⟨l1,l2,hsplit⟩:=List.append_of_mem (LM.2 ⟨hin,hun⟩)
   have hs:=EJ ops.size listed
   rw [hsplit] at hs
   obtain ⟨g,hg1,hg2⟩:=hget i o (by simpa using ho)
   have hbi:bops.getD i ⟨none,.bad,none⟩=⟨o.dst,(cOp P hand draw o).getD .bad,g⟩:=by rw [List.getD_eq_getElem?_getD,hg2]; rfl
   have hcomm:∀ x ∈ l1.map (fun i=>bops.getD i ⟨none,.bad,none⟩),Zzr x ⟨o.dst,(cOp P hand draw o).getD .bad,g⟩=true:=fun x hx=>by
    obtain ⟨j,hj,rfl⟩:=List.mem_map.1 hx
    have hji:j < i:=(List.pairwise_append.1 hs).2.2 j hj i (List.mem_cons_self ..)
    have hjm:=LM.1 (show j ∈ ND ops.size listed by rw [hsplit]; exact List.mem_append_left _ hj)
    have:=hpair i hin j hji
    rw [Bool.or_eq_true] at this
    rcases this with h1 | h1
    ·exfalso
     have h2:=hcl.ready ho hdeps (Zvc h1)
     rw [Znb hjm.2] at h2
     cases h2
    ·rw [hg2] at h1
     split at h1
     ·rename_i x y hx hy
      cases hy
      rw [List.getD_eq_getElem?_getD,hx]
      exact h1
     ·cases h1
   rw [hsplit,List.map_append,List.map_cons,hbi] at h
   obtain ⟨u,hu1,hu2⟩:=bubble ZzM hcomm h
   rw [← List.map_append,← ZeX hsplit (by omega)] at hu2
   have hkk:noHand ((cOp P hand draw o).getD .bad)=true:=hnh _ (List.mem_of_getElem? hg2)
   have hlen2:(ND ops.size (listed.setIfInBounds i true)).length=fuel:=by
    rw [ZeX hsplit (by omega)]
    rw [hsplit] at hl
    simp at hl ⊢
    omega
   unfold wpOp
   simp only [ho]
   exact Z3i hG hS hkk hg1 hu1 hI fun Γ' a' w' hI'=>ih (by simp [hsz]) (hcl.list ho hdeps) hlen2 hu2 hI'
end
end Go.Proofs.YtlmfmmclnboglaaGreat.Abs
end
section
namespace Go.Proofs.YtlmfmmclnboglaaGreat.Abs
open Go Go.RowKit
section
variable {G:Nat→Option (List AV)}{call:FuncId→List AV→List Z5→Option (AV×List Z5×Eff)}
theorem ZgS:∀ f args hp v hp' e,Ku call f args hp=some (v,hp',e)→hp'=hp∧e=none:=by
 intro f args hp v hp' e h
 unfold Ku at h
 split at h <;> try (cases h; done)
 split at h <;> try (cases h; done)
 split at h <;> try (cases h; done)
 cases h
 exact ⟨rfl,rfl⟩
theorem Z2t {f:FuncId}{args:List AV}{hp:List Z5}{v:AV}{hp':List Z5}{e:Eff}(h:Ku call f args hp=some (v,hp',e))(h2:List Z5):Ku call f args h2=some (v,h2,none):=by
 unfold Ku at h ⊢
 split at h <;> try (cases h; done)
 rename_i hb
 rw [if_pos hb]
 split at h <;> try (cases h; done)
 rename_i hc
 split at h <;> try (cases h; done)
 cases h
 rfl
def Pfx (h h':List Z5):Prop:=∀ (g:Nat) (o:Z5),h[g]? = some o→h'[g]? = some o
theorem Pfx.take (n:Nat)(h:List Z5):Pfx (h.take n) h:=fun g o hg=>by
 rw [List.getElem?_take] at hg
 split at hg
 ·exact hg
 ·cases hg
theorem Pfx.look {h h':List Z5}(p:Pfx h h'):Eg h h':=.of_get fun g cs t hg=>⟨cs,t,p g _ hg,rfl⟩
theorem Pfx.rows {h h':List Z5}(p:Pfx h h'){x:AV}{r:Nat×List (List AV)}(hx:rowsOf h x=some r):rowsOf h' x=some r:=by
 unfold rowsOf at hx ⊢
 split at hx <;> first | exact hx | (cases hx; done) | skip
 split at hx <;> first | (cases hx; done) | skip
 rename_i hg
 rw [p _ _ hg]
 exact hx
theorem Pfx.len {h h':List Z5}(p:Pfx h h'){sh:Z0d}{x v:AV}(hx:ZO h sh x=some v):ZO h' sh x=some v:=by
 unfold ZO at hx ⊢
 split at hx <;> first | exact hx | (cases hx; done) | skip
 split at hx <;> first | (cases hx; done) | skip
 rename_i hg
 rw [p _ _ hg]
 exact hx
theorem Pfx.conv {h h':List Z5}(p:Pfx h h'){c:Conv}{x v:AV}(hx:Zau h c x=some v):Zau h' c x=some v:=by
 unfold Zau at hx ⊢
 split at hx <;> first | exact hx | (cases hx; done) | skip
 split at hx <;> first | (cases hx; done) | skip
 rename_i hg
 rw [p.rows hg]
 exact hx
theorem Z6A {ao:AOp}{k:HK}{s:Z7}{v:AV}{s':Z7}(hk:hkind ao=some k)(hk':k=.free∨k=.look∨k=.read)(h:ZF G (Ku call) s ao=some (v,s')){h2:List Z5}(p:Pfx s.hp h2) :
  s'.hp=s.hp∧s'.ef=s.ef∧s'.bs=s.bs∧ZF G (Ku call) { s with hp:=h2 } ao=some (v,{ s' with hp:=h2 }):=by
 have S:=Z1r ZgS hk h
 have hst:s'.hp=s.hp∧s'.ef=s.ef:=S.still (by rcases hk' with rfl | rfl | rfl <;> trivial)
 refine ⟨hst.1,hst.2,S.bs,?_⟩
 have fin:ZF G (Ku call) { s with hp:=h2 } ao=some (v,⟨tkF ao s.sl,h2,s.ef,s.bs⟩)→ZF G (Ku call) { s with hp:=h2 } ao=some (v,{ s' with hp:=h2 }):=fun e=>by
  rw [e,← S.sl,← hst.2,← S.bs]
 refine fin ?_
 rcases hk' with rfl | rfl | rfl
 ·exact S.free rfl { s with hp:=h2 } (fun _ _=>rfl)
 ·exact S.look rfl { s with hp:=h2 } (fun _ _=>rfl) p.look
 ·cases ao <;> first | (simp only [hkind,Option.some.injEq,reduceCtorEq] at hk; done) | skip
  case lit e k parts=>cases parts <;> simp [hkind] at hk
  case len sh x =>
   simp only [ZF] at h ⊢
   split at h <;> try (cases h; done)
   rename_i y hy
   obtain ⟨h1,rfl⟩:=Dv h
   simp only [hy,p.len h1,Option.map_some]
   rfl
  case app k b t x =>
   simp only [ZF] at h ⊢
   split at h <;> try (cases h; done)
   rename_i k' r y h1 h2
   split at h <;> try (cases h; done)
   rename_i k2 r2 h3
   split at h <;> try (cases h; done)
   rename_i hc
   cases h
   simp only [h1,h2,p.rows h3]
   rw [if_pos hc]
   rfl
  case appn k b x =>
   simp only [ZF] at h ⊢
   split at h <;> try (cases h; done)
   rename_i y h2
   split at h <;> try (cases h; done)
   rename_i k2 r2 h3
   split at h <;> try (cases h; done)
   rename_i hc
   cases h
   simp only [h2,p.rows h3]
   rw [if_pos hc]
   rfl
  case conv c x =>
   simp only [ZF] at h ⊢
   split at h <;> try (cases h; done)
   rename_i y hy
   obtain ⟨h1,rfl⟩:=Dv h
   simp only [hy,p.conv h1,Option.map_some]
   rfl
  case call f args =>
   simp only [ZF] at h ⊢
   split at h <;> try (cases h; done)
   rename_i g first caps vs sl hf hv
   split at h <;> try (cases h; done)
   rename_i u hp' e hc
   obtain ⟨rfl,rfl⟩:=ZgS _ _ _ _ _ _ hc
   cases h
   have hsl:=S.sl
   simp only at hsl
   simp only [hf,hv,Z2t hc h2,Z7.after]
   rw [hsl]
variable (G call)(base:Nat)(al:List Nat)
def Zna (o:Jq)(s:Z7):Option Z7 :=
 match QA G (Ku call) o { s with hp:=s.hp.take base } with
 | some s'=>some { s' with hp:=s.hp }
 | none=>none
def Z0O:Option Z5→Bool
 | some .dead=>true
 | _=>false
def Ad (r:Nat)(o:Jq)(s:Z7):Option Z7 :=
 if Z0O s.hp[base + r]? = true∧s.bs≤base then
  match o.op with
  | .mk t cells=>some (({ s with hp:=s.hp.set (base + r) (.cells cells t) }:Z7).put o.dst (.ptr (base + r) 0))
  | .box t n x=>match opnd G s.sl x with
   | some v=>if v.cells.length=n∧v.laid=true then some (({ s with hp:=s.hp.set (base + r) (.cells v.cells t) }:Z7).put o.dst (.ptr (base + r) 0)) else none
   | none=>none
  | _=>none
 else none
def Zes (r:Nat)(o:Jq)(s:Z7):Option Z7 :=
 match setSlot o with
 | some t=>match s.sl[t]? with
  | some (.ptr g 0)=>if g=base + r∧s.bs≤base then QA G (Ku call) o s else none
  | _=>none
 | none=>none
def Zcx (o:Jq)(s:Z7):Option Z7 :=
 match ZrP al o with
 | .pre=>Zna G call base o s
 | .at r=>match Za6 o with
  | true=>Ad G base r o s
  | false=>Zes G call base r o s
 | .any=>QA G (Ku call) o s
def Zdk:List Jq→Z7→Option Z7
 | [],s=>some s
 | o :: l,s=>match Zcx G call base al o s with
  | some s'=>Zdk l s'
  | none=>none
variable {G call base al}
structure Z7m (G:Nat→Option (List AV))(call:FuncId→List AV→List Z5→Option (AV×List Z5×Eff))(base:Nat)(al:List Nat)(o:Jq)(s s':Z7)(f:List AV→List AV):Prop where
 loc:Zmt (SA o) f
 sl:s'.sl=f s.sl
 bs:s'.bs=s.bs
 ef:s'.ef=s.ef
 pre:ZrP al o=.pre→s'.hp=s.hp∧∀ t:Z7,Agree (BB o) s.sl t.sl→t.hp.take base=s.hp.take base→Zcx G call base al o t=some ⟨f t.sl,t.hp,t.ef,t.bs⟩
 at_:∀ r,ZrP al o=.at r→∃ x,s'.hp=s.hp.set (base + r) x∧∀ t:Z7,Agree (BB o) s.sl t.sl→t.hp[base + r]? = s.hp[base + r]?→t.bs=s.bs→Zcx G call base al o t=some ⟨f t.sl,t.hp.set (base + r) x,t.ef,t.bs⟩
theorem Znc {o:Jq}(h:Zuy o=true):∃ k,hkind o.op=some k∧(k=.free∨k=.look∨k=.read):=by
 unfold Zuy at h
 split at h <;> try (cases h; done)
 ·exact ⟨_,by assumption,.inl rfl⟩
 ·exact ⟨_,by assumption,.inr (.inl rfl)⟩
 ·exact ⟨_,by assumption,.inr (.inr rfl)⟩
theorem ZuP {o:Jq}(h:ZrP al o=.pre):Zuy o=true:=by
 unfold ZrP at h
 split at h
 ·split at h
  ·split at h <;> cases h
  ·cases h
 ·split at h
  ·split at h <;> cases h
  ·split at h
   ·assumption
   ·cases h
theorem Z5z {o:Jq}{r:Nat}(h:ZrP al o=.at r):(Za6 o=true∧∃ d,o.dst=some d∧idx d al=some r)∨(Za6 o=false∧∃ t,setSlot o=some t∧idx t al=some r):=by
 unfold ZrP at h
 split at h
 ·rename_i h1
  split at h
  ·split at h <;> cases h
   exact .inl ⟨h1,_,by assumption,by assumption⟩
  ·cases h
 ·rename_i h1
  split at h
  ·split at h <;> cases h
   exact .inr ⟨h1,_,by assumption,by assumption⟩
  ·split at h <;> cases h
theorem Zzd {o:Jq}{s s':Z7}(hc:ZrP al o≠.any)(h:Zcx G call base al o s=some s'):∃ f,Z7m G call base al o s s' f:=by
 cases hr:ZrP al o with
 | any=>exact absurd hr hc
 | pre =>
  obtain ⟨k,hk,hk'⟩:=Znc (ZuP hr)
  have hev:∀ t,Zcx G call base al o t=Zna G call base o t:=fun t=>by unfold Zcx; rw [hr]
  rw [hev] at h
  unfold Zna at h
  split at h <;> try (cases h; done)
  rename_i s1 h1
  obtain rfl:=Option.some.inj h
  obtain ⟨f,S⟩:=ZrD ZgS hk h1
  have k1:=S.still (by rcases hk' with rfl | rfl | rfl <;> trivial)
  have k2:=S.read (by rcases hk' with rfl | rfl | rfl <;> trivial)
  refine ⟨f,S.loc,S.sl,S.bs,k1.2,fun _=>⟨rfl,fun t ht he=>?_⟩,fun r e=>by rw [hr] at e; cases e⟩
  rw [hev]
  unfold Zna
  rw [k2 { t with hp:=t.hp.take base } ht he]
 | «at» r =>
  have hev:∀ t,Zcx G call base al o t=(match Za6 o with | true=>Ad G base r o t | false=>Zes G call base r o t):=fun t=>by unfold Zcx; rw [hr]
  rw [hev] at h
  cases hal:Za6 o with
  | true =>
   rw [hal] at h
   replace h:Ad G base r o s=some s':=h
   have hg:o.guard=none:=by
    unfold Za6 at hal
    split at hal <;> first | (cases hal; done) | assumption
   unfold Ad at h
   split at h <;> try (cases h; done)
   rename_i hd
   split at h <;> try (cases h; done)
   ·rename_i t cells hop
    obtain rfl:=Option.some.inj h
    refine ⟨Z1y o.dst (.ptr (base + r) 0),⟨?_,by rw [KQ],by rw [KQ],by rw [KQ],fun e=>(by rw [hr] at e; cases e),fun q e=>?_⟩⟩
    ·have:=(Zmt.id (Zie o.op)).comp (Ziz o.dst (.ptr (base + r) 0))
     exact this
    ·rw [hr] at e
     cases e
     refine ⟨.cells cells t,by rw [KQ],fun t' ht he hb=>?_⟩
     rw [hev,hal]
     show Ad G base r o t'=_
     unfold Ad
     rw [he,hb,if_pos hd,hop]
     simp only [KQ,hb]
   ·rename_i t n x hop
    split at h <;> try (cases h; done)
    rename_i v hv
    split at h <;> try (cases h; done)
    rename_i hn
    obtain rfl:=Option.some.inj h
    refine ⟨Z1y o.dst (.ptr (base + r) 0),⟨?_,by rw [KQ],by rw [KQ],by rw [KQ],fun e=>(by rw [hr] at e; cases e),fun q e=>?_⟩⟩
    ·have:=(Zmt.id (Zie o.op)).comp (Ziz o.dst (.ptr (base + r) 0))
     exact this
    ·rw [hr] at e
     cases e
     refine ⟨.cells v.cells t,by rw [KQ],fun t' ht he hb=>?_⟩
     have hx:opnd G t'.sl x=some v:=by
      rw [← hv]
      refine (Qx (G := G) (x := x) ?_).symm
      exact fun i hi=>ht i (List.mem_append_right _ (by rw [hop]; exact hi))
     rw [hev,hal]
     show Ad G base r o t'=_
     unfold Ad
     rw [he,hb,if_pos hd,hop]
     simp only [hx,KQ,hb]
     rw [if_pos hn]
  | false =>
   rw [hal] at h
   replace h:Zes G call base r o s=some s':=h
   have hev':∀ t,Zcx G call base al o t=Zes G call base r o t:=fun t=>by rw [hev,hal]
   unfold Zes at h
   split at h <;> try (cases h; done)
   rename_i q hq
   split at h <;> try (cases h; done)
   rename_i g hs
   split at h <;> try (cases h; done)
   rename_i hg
   obtain ⟨rfl,hbs⟩:=hg
   have hgd:o.guard=none:=by
    unfold setSlot at hq
    split at hq <;> first | (cases hq; done) | assumption
   have hw:∀ t,TD t o.guard=some true:=fun t=>by rw [hgd]; rfl
   simp only [QA,hw] at h
   split at h <;> try (cases h; done)
   rename_i v s1 he
   obtain rfl:=Option.some.inj h
   have hpt:∀ t:Z7,t.sl[q]? = s.sl[q]?→opnd G t.sl (.tmp q)=some (.ptr (base + r) 0):=fun t e=>by simp only [opnd,e,hs]; rfl
   have hnote:∀ t:Z7,t.bs=s.bs→t.note (base + r) 0=t.ef:=fun t e=>by
    unfold Z7.note
    rw [if_neg (by omega)]
   unfold setSlot at hq
   split at hq <;> first | (cases hq; done) | skip
   ·rename_i n q' x hop _
    obtain rfl:=Option.some.inj hq
    rw [hop] at he
    simp only [ZF,hpt s rfl] at he
    split at he <;> first | (cases he; done) | skip
    rename_i g0 o0 u h1 h2
    cases h1
    split at he <;> first | (cases he; done) | skip
    rename_i cs ty hcs
    split at he <;> first | (cases he; done) | skip
    rename_i hn
    cases he
    refine ⟨Z1y o.dst .undef,⟨?_,by rw [KQ],by rw [KQ],by rw [KQ]; exact hnote s rfl,fun e=>(by rw [hr] at e; cases e),fun q2 e=>?_⟩⟩
    ·have:=(Zmt.id (Zie o.op)).comp (Ziz o.dst .undef)
     exact this
    ·rw [hr] at e
     cases e
     refine ⟨.cells (splice cs 0 u.cells) ty,by rw [KQ],fun t' ht he hb=>?_⟩
     have a0:Agree (oR (.tmp q') ++ oR x) s.sl t'.sl:=fun i hi=>ht i (List.mem_append_right _ (by rw [hop]; exact hi))
     have e1:=a0.left q' (.head _)
     rw [hev']
     unfold Zes setSlot
     rw [hop,hgd]
     simp only
     rw [← e1,hs]
     simp only
     rw [if_pos ⟨trivial,by omega⟩]
     simp only [QA,hw]
     rw [hop]
     simp only [ZF,hpt t' e1.symm,← Qx (G := G) (x := x) a0.right,h2,he,hcs]
     rw [if_pos hn]
     simp only [KQ,hnote t' hb]
   ·rename_i q' x hop _
    obtain rfl:=Option.some.inj hq
    rw [hop] at he
    simp only [ZF,hpt s rfl] at he
    split at he <;> first | (cases he; done) | skip
    rename_i g0 o0 u h1 h2
    cases h1
    split at he <;> first | (cases he; done) | skip
    rename_i cs ty hcs
    split at he <;> first | (cases he; done) | skip
    rename_i hn
    cases he
    have hto:Zie o.op=[x]:=by rw [hop]; rfl
    refine ⟨fun l=>Z1y o.dst .undef (l.modify x AV.ro),⟨?_,by rw [KQ]; rfl,by rw [KQ]; rfl,by rw [KQ]; exact hnote s rfl,fun e=>(by rw [hr] at e; cases e),fun q2 e=>?_⟩⟩
    ·have:=(Zmt.mod x).comp (Ziz o.dst .undef)
     unfold SA
     rw [hto]
     exact this
    ·rw [hr] at e
     cases e
     refine ⟨.cells (cs.set 0 u) ty,by rw [KQ],fun t' ht he hb=>?_⟩
     have a0:Agree (x :: oR (.tmp q')) s.sl t'.sl:=fun i hi=>ht i (List.mem_append_right _ (by rw [hop]; exact hi))
     have e1:=a0 q' (.tail _ (.head _))
     have e2:=a0 x (.head _)
     rw [hev']
     unfold Zes setSlot
     rw [hop,hgd]
     simp only
     rw [← e1,hs]
     simp only
     rw [if_pos ⟨trivial,by omega⟩]
     simp only [QA,hw]
     rw [hop]
     simp only [ZF,hpt t' e1.symm,← e2,h2,he,hcs]
     rw [if_pos hn]
     simp only [KQ,hnote t' hb]
     rfl
theorem Z7A {o1 o2:Jq}{s s1 s2:Z7}(hc:Zzs al o1 o2=true)(h1:Zcx G call base al o1 s=some s1)(h2:Zcx G call base al o2 s1=some s2) :
  ∃ u,Zcx G call base al o2 s=some u∧Zcx G call base al o1 u=some s2:=by
 simp only [Zzs,ZtQ,Bool.and_eq_true] at hc
 obtain ⟨hk,⟨ha,hb⟩,hd⟩:=hc
 have n1:ZrP al o1≠.any:=fun e=>by rw [e] at hk; cases hk
 have n2:ZrP al o2≠.any:=fun e=>by rw [e] at hk; cases h:ZrP al o1 <;> rw [h] at hk <;> cases hk
 obtain ⟨f1,S1⟩:=Zzd n1 h1
 obtain ⟨f2,S2⟩:=Zzd n2 h2
 have A2:Agree (BB o2) s1.sl s.sl:=by rw [S1.sl]; exact (Agree.of_loc S1.loc ha s.sl).symm
 have A1:∀ u:Z7,u.sl=f2 s.sl→Agree (BB o1) s.sl u.sl:=fun u hu=>by rw [hu]; exact Agree.of_loc S2.loc hd s.sl
 have fin:∀ (u:Z7) (hp:List Z5),u.sl=f2 s.sl→u.bs=s.bs→u.ef=s.ef→hp=s2.hp→Zcx G call base al o1 u=some ⟨f1 u.sl,hp,u.ef,u.bs⟩→Zcx G call base al o1 u=some s2:=fun u hp e1 e2 e3 e4 h=>by
  rw [h]
  have q1:f1 u.sl=s2.sl:=by rw [e1,S2.sl,S1.sl]; exact S1.loc.swap S2.loc hb s.sl
  have q2:u.bs=s2.bs:=by rw [e2,S2.bs,S1.bs]
  have q3:u.ef=s2.ef:=by rw [e3,S2.ef,S1.ef]
  rw [q1,q2,q3,e4]
 have tk:∀ (h:List Z5) (r:Nat) (x:Z5),(h.set (base + r) x).take base=h.take base:=fun h r x=>by
  rw [List.take_set_of_le (by omega)]
 cases r1:ZrP al o1 with
 | any=>exact absurd r1 n1
 | pre =>
  obtain ⟨p1,p2⟩:=S1.pre r1
  cases r2:ZrP al o2 with
  | any=>exact absurd r2 n2
  | pre =>
   obtain ⟨p3,p4⟩:=S2.pre r2
   exact ⟨_,p4 s A2 (by rw [p1]),fin _ _ rfl rfl rfl (by rw [p3,p1]) (p2 _ (A1 _ rfl) rfl)⟩
  | «at» r =>
   obtain ⟨x,p3,p4⟩:=S2.at_ r r2
   exact ⟨_,p4 s A2 (by rw [p1]) S1.bs.symm,fin _ _ rfl rfl rfl (by rw [p3,p1]) (p2 _ (A1 _ rfl) (tk _ _ _))⟩
 | «at» r =>
  obtain ⟨x,p1,p2⟩:=S1.at_ r r1
  cases r2:ZrP al o2 with
  | any=>exact absurd r2 n2
  | pre =>
   obtain ⟨p3,p4⟩:=S2.pre r2
   exact ⟨_,p4 s A2 (by rw [p1,tk]),fin _ _ rfl rfl rfl (by rw [p3,p1]) (p2 _ (A1 _ rfl) rfl rfl)⟩
  | «at» q =>
   rw [r1,r2] at hk
   have hne:r≠q:=by simpa using hk
   obtain ⟨y,p3,p4⟩:=S2.at_ q r2
   have o1':∀ (h:List Z5) (z:Z5),(h.set (base + r) z)[base + q]? = h[base + q]?:=fun h z=>List.getElem?_set_ne (by omega)
   have o2':∀ (h:List Z5) (z:Z5),(h.set (base + q) z)[base + r]? = h[base + r]?:=fun h z=>List.getElem?_set_ne (by omega)
   exact ⟨_,p4 s A2 (by rw [p1,o1']) S1.bs.symm,fin _ _ rfl rfl rfl (by rw [p3,p1]; exact List.set_comm _ _ (by omega)) (p2 _ (A1 _ rfl) (o2' _ _) rfl)⟩
theorem Z0j {o:Jq}{l2:List Jq}{sF:Z7}:∀ {l1:List Jq} {s:Z7},(∀ x ∈ l1,Zzs al x o=true)→Zdk G call base al (l1 ++ o :: l2) s=some sF →
  ∃ u,Zcx G call base al o s=some u∧Zdk G call base al (l1 ++ l2) u=some sF
 | [],s,_,h=>by
  simp only [List.nil_append,Zdk] at h
  split at h <;> try (cases h; done)
  rename_i u hu
  exact ⟨u,hu,h⟩
 | x :: l1,s,hx,h=>by
  simp only [List.cons_append,Zdk] at h
  split at h <;> try (cases h; done)
  rename_i s1 h1
  obtain ⟨u1,h2,h3⟩:=Z0j (fun y hy=>hx y (List.mem_cons_of_mem _ hy)) h
  obtain ⟨u,h4,h5⟩:=Z7A (hx x (List.mem_cons_self ..)) h1 h2
  refine ⟨u,h4,?_⟩
  simp only [List.cons_append,Zdk,h5]
  exact h3
end
section
variable {G:Nat→Option (List AV)}{call:FuncId→List AV→List Z5→Option (AV×List Z5×Eff)}{base:Nat}{al:List Nat}
theorem Zux:∀ {l:List Nat} {k t:Nat},nodupB l=true→l[k]? = some t→idx t l=some k
 | [],k,t,_,h=>by simp at h
 | u :: l,k,t,hn,h=>by
  simp only [nodupB,Bool.and_eq_true,Bool.not_eq_true'] at hn
  unfold idx
  cases k with
  | zero=>simp only [List.getElem?_cons_zero,Option.some.injEq] at h; rw [if_pos h]
  | succ k =>
   simp only [List.getElem?_cons_succ] at h
   have:u≠t:=fun e=>by
    subst e
    have:=List.mem_of_getElem? h
    simp [this] at hn
   rw [if_neg this,Zux hn.2 h]
   rfl
theorem Z0J:∀ {l:List Nat} {k t:Nat},idx t l=some k→l[k]? = some t
 | [],k,t,h=>by cases h
 | u :: l,k,t,h=>by
  unfold idx at h
  split at h
  ·rename_i e
   cases h
   simp [e]
  ·obtain ⟨q,hq,rfl⟩:=Option.map_eq_some_iff.1 h
   simpa using Z0J hq
def Za4 (n:Nat):List Z5:=List.replicate n .dead
theorem Z0f {l m:List Nat}(h:apartB l m=true){t:Nat}(ht:t ∈ m):t ∉ l:=fun hl=>by
 have:=List.all_eq_true.1 h t hl
 simp [ht] at this
theorem Z5o {call:FuncId→List AV→List Z5→Option (AV×List Z5×Eff)}(hq:∀ f args hp v hp' e,call f args hp=some (v,hp',e)→hp'=hp∧e=none){o:Jq}{k:HK}{s s':Z7}(hk:hkind o.op=some k)(h:QA G call o s=some s'):s'.bs=s.bs∧∀ t,t ∉ SA o→s'.sl[t]? = s.sl[t]?:=by
 obtain ⟨f,S⟩:=ZrD hq hk h
 exact ⟨S.bs,fun t ht=>by rw [S.sl,S.loc.out _ _ ht]⟩
theorem Z51 {call:FuncId→List AV→List Z5→Option (AV×List Z5×Eff)}{o:Jq}{s s':Z7}(hk:hkind o.op=some .set)(h:QA G call o s=some s'):s'.hp.length=s.hp.length:=by
 simp only [QA] at h
 split at h <;> try (cases h; done)
 ·split at h <;> try (cases h; done)
  rename_i v s1 he
  obtain rfl:=Option.some.inj h
  rw [KQ]
  show s1.hp.length=_
  cases hop:o.op <;> rw [hop] at hk he <;> first | (simp only [hkind,Option.some.injEq,reduceCtorEq] at hk; done) | skip
  case lit e k parts=>cases parts <;> simp [hkind] at hk
  case call f args=>simp only [hkind] at hk; split at hk <;> simp at hk
  all_goals
   simp only [ZF] at he
   repeat' split at he
   all_goals first
    | (cases he; done)
    | (cases he; simp [Z7.let_])
 ·obtain rfl:=Option.some.inj h
  rw [KQ]
theorem sim (hnd:nodupB al=true):∀ {l:List Jq} {k:Nat} {s sF:Z7},ZtA al k l=true→k≤al.length→Jj G (Ku call) l s=some sF→s.bs≤base→s.hp.length=base + k→(∀ (r t:Nat) (v:AV),r < k→al[r]? = some t→s.sl[t]? = some v→v=.ptr (base + r) 0) →
  Zdk G call base al l { s with hp:=s.hp ++ Za4 (al.length - k) } = some sF
 | [],k,s,sF,ho,hk,h,hbs,hl,hs=>by
  simp only [ZtA,beq_iff_eq] at ho
  obtain rfl:=Option.some.inj h
  subst ho
  simp only [Zdk,Nat.sub_self,Za4,List.replicate_zero,List.append_nil]
 | o :: l,k,s,sF,ho,hk,h,hbs,hl,hs=>by
  simp only [Jj] at h
  split at h <;> try (cases h; done)
  rename_i s1 h1
  simp only [ZtA] at ho
  cases hal:Za6 o with
  | true =>
   rw [hal] at ho
   simp only [Bool.and_eq_true,beq_iff_eq] at ho
   obtain ⟨hd,ho⟩:=ho
   have hg:o.guard=none:=by
    unfold Za6 at hal
    split at hal <;> first | (cases hal; done) | assumption
   obtain ⟨t,ht⟩:∃ t,o.dst=some t:=by
    unfold Za6 at hal
    split at hal <;> first | (cases hal; done) | exact ⟨_,by assumption⟩
   rw [ht] at hd
   have hkl:k < al.length:=(List.getElem?_eq_some_iff.1 hd.symm).1
   have hcls:ZrP al o=.at k:=by
    unfold ZrP
    rw [hal,ht]
    simp only
    rw [Zux hnd hd.symm]
   have hdead:({ s with hp:=s.hp ++ Za4 (al.length - k) }:Z7).hp[base + k]? = some .dead:=by
    show (s.hp ++ Za4 (al.length - k))[base + k]? = _
    rw [List.getElem?_append_right (by omega),hl,Nat.sub_self]
    unfold Za4
    rw [List.getElem?_replicate,if_pos (by omega)]
   have hset:∀ x:Z5,(s.hp ++ Za4 (al.length - k)).set (base + k) x=(s.hp ++ [x]) ++ Za4 (al.length - (k + 1)):=fun x=>by
    rw [List.set_append_right _ _ (by omega),hl,Nat.sub_self]
    obtain ⟨m,hm⟩:∃ m,al.length - k=m + 1:=⟨al.length - k - 1,by omega⟩
    have:al.length - (k + 1)=m:=by omega
    rw [hm,this]
    simp [Za4,List.replicate_succ]
   have key:∀ x:Z5,s1=({ s with hp:=s.hp ++ [x] }:Z7).put o.dst (.ptr s.hp.length 0)→Zcx G call base al o { s with hp:=s.hp ++ Za4 (al.length - k) } = some (({ s with hp:=(s.hp ++ Za4 (al.length - k)).set (base + k) x }:Z7).put o.dst (.ptr (base + k) 0)) →
     Zdk G call base al (o :: l) { s with hp:=s.hp ++ Za4 (al.length - k) } = some sF:=fun x e1 e2=>by
    simp only [Zdk]
    rw [e2]
    have:=sim hnd (l := l) (k := k + 1) (s := s1) ho hkl h (by rw [e1,ht]; exact hbs) (by rw [e1,ht]; simp [Z7.put,hl]; omega) (fun r q v hr hq hv=>by
     rw [e1,ht] at hv
     simp only [Z7.put] at hv
     by_cases e:r=k
     ·subst e
      rw [← hd] at hq
      cases hq
      rw [List.getElem?_set] at hv
      split at hv
      ·split at hv
       ·rw [← Option.some.inj hv,hl]
       ·cases hv
      ·rename_i ne; exact absurd rfl ne
     ·refine hs r q v (by omega) hq ?_
      rw [List.getElem?_set_ne] at hv
      ·exact hv
      ·intro e'
       subst e'
       have i1:=Zux hnd hq
       rw [Zux hnd hd.symm] at i1
       cases i1
       exact e rfl)
    rw [← this,e1,ht]
    simp only [Z7.put,hset,hl]
   simp only [QA,hg,TD] at h1
   split at h1 <;> first | (cases h1; done) | skip
   rename_i v s2 hev
   obtain rfl:=Option.some.inj h1
   have hR:Zcx G call base al o { s with hp:=s.hp ++ Za4 (al.length - k) } = Ad G base k o { s with hp:=s.hp ++ Za4 (al.length - k) }:=by
    unfold Zcx
    rw [hcls,hal]
   have hif:Z0O ({ s with hp:=s.hp ++ Za4 (al.length - k) }:Z7).hp[base + k]? = true∧({ s with hp:=s.hp ++ Za4 (al.length - k) }:Z7).bs≤base:=⟨by rw [hdead]; rfl,hbs⟩
   cases hop:o.op with
   | mk t' cells =>
    rw [hop] at hev
    cases hev
    refine key _ rfl ?_
    rw [hR]
    unfold Ad
    rw [if_pos hif,hop]
   | box t' n x =>
    rw [hop] at hev
    simp only [ZF] at hev
    split at hev <;> first | (cases hev; done) | skip
    rename_i u hu
    split at hev <;> first | (cases hev; done) | skip
    rename_i hn
    cases hev
    refine key _ rfl ?_
    rw [hR]
    unfold Ad
    rw [if_pos hif,hop]
    simp only [hu]
    rw [if_pos hn]
   | _=>unfold Za6 at hal; rw [hop] at hal; simp at hal
  | false =>
   rw [hal] at ho
   simp only [Bool.and_eq_true,Bool.or_eq_true] at ho
   obtain ⟨⟨ho1,ho2⟩,ho3⟩:=ho
   have go:∀ q:HK,hkind o.op=some q→s1.hp.length=s.hp.length→Zcx G call base al o { s with hp:=s.hp ++ Za4 (al.length - k) } = some { s1 with hp:=s1.hp ++ Za4 (al.length - k) }→Zdk G call base al (o :: l) { s with hp:=s.hp ++ Za4 (al.length - k) } = some sF:=fun q hq hlen e=>by
    obtain ⟨b1,b2⟩:=Z5o ZgS hq h1
    simp only [Zdk]
    rw [e]
    refine sim hnd ho3 hk h (by rw [b1]; exact hbs) (by rw [hlen]; exact hl) fun r t v hr ht hv=>hs r t v hr ht ?_
    rw [← b2 t (Z0f ho2 (List.mem_of_getElem? ht))]
    exact hv
   have pre:∀ q:HK,hkind o.op=some q→(q=.free∨q=.look∨q=.read)→setSlot o=none→(q=.free∨k=0)→Zdk G call base al (o :: l) { s with hp:=s.hp ++ Za4 (al.length - k) } = some sF:=fun q hq hq' hns hk0=>by
    obtain ⟨f,S⟩:=ZrD ZgS hq h1
    have st:=S.still (by rcases hq' with rfl | rfl | rfl <;> trivial)
    have hcls:ZrP al o=.pre:=by
     unfold ZrP
     rw [hal]
     simp only
     rw [hns]
     have:Zuy o=true:=by unfold Zuy; rw [hq]; rcases hq' with rfl | rfl | rfl <;> rfl
     simp [this]
    refine go q hq (by rw [st.1]) ?_
    unfold Zcx
    rw [hcls]
    simp only
    unfold Zna
    have hrun:QA G (Ku call) o { s with hp:=(s.hp ++ Za4 (al.length - k)).take base } = some ⟨f s.sl,(s.hp ++ Za4 (al.length - k)).take base,s.ef,s.bs⟩:=by
     rcases hk0 with rfl | rfl
     ·exact S.free rfl { s with hp:=(s.hp ++ Za4 (al.length - k)).take base } (fun _ _=>rfl)
     ·have:(s.hp ++ Za4 (al.length - 0)).take base=s.hp:=by
       rw [List.take_append_of_le_length (by omega),List.take_of_length_le (by omega)]
      rw [this]
      exact S.read (by rcases hq' with rfl | rfl | rfl <;> trivial) s (fun _ _=>rfl) rfl
    have e0:QA G (Ku call) o { ({ s with hp:=s.hp ++ Za4 (al.length - k) }:Z7) with hp:=({ s with hp:=s.hp ++ Za4 (al.length - k) }:Z7).hp.take base } = some ⟨f s.sl,(s.hp ++ Za4 (al.length - k)).take base,s.ef,s.bs⟩:=hrun
    rw [e0]
    simp only
    rw [st.1,← S.sl,← st.2,← S.bs]
   rcases ho1 with (ho1 | ho1) | ho1
   ·have hq:hkind o.op=some .free:=by
     unfold Z3R at ho1
     split at ho1
     ·assumption
     ·cases ho1
    refine pre .free hq (.inl rfl) ?_ (.inl rfl)
    unfold setSlot
    split <;> first | rfl | (rename_i hop _; rw [hop] at hq; cases hq)
   ·simp only [beq_iff_eq] at ho1
    obtain ⟨q,hq,hq'⟩:=Znc ho1.1
    refine pre q hq hq' ?_ (.inr ho1.2)
    unfold setSlot
    split <;> first | rfl | (rename_i hop _; rw [hop] at hq; cases hq; rcases hq' with h | h | h <;> cases h)
   ·simp only [beq_iff_eq] at ho1
    obtain ⟨ho1,rfl⟩:=ho1
    have hq:hkind o.op=some .set:=by
     unfold Z6h at ho1
     split at ho1
     ·assumption
     ·cases ho1
    have hnp:Zuy o=false:=by unfold Zuy; rw [hq]
    refine go .set hq (Z51 hq h1) ?_
    have e0:∀ x:Z7,({ x with hp:=x.hp ++ Za4 (al.length - al.length) }:Z7)=x:=fun x=>by simp [Za4]
    rw [e0 s,e0 s1]
    unfold Zcx
    cases hc:ZrP al o with
    | any=>exact h1
    | pre=>have:=ZuP hc; rw [hnp] at this; cases this
    | «at» r =>
     simp only
     rw [hal]
     rcases Z5z hc with ⟨e,_⟩ | ⟨_,t,ht,hr⟩
     ·rw [hal] at e; cases e
     ·have hget:=Z0J hr
      have hrl:r < al.length:=(List.getElem?_eq_some_iff.1 hget).1
      obtain ⟨v,hv⟩:∃ v,s.sl[t]? = some v:=by
       cases hv:s.sl[t]? with
       | some v=>exact ⟨v,rfl⟩
       | none =>
        exfalso
        have hnone:opnd G s.sl (.tmp t)=none:=by simp only [opnd,hv]; rfl
        simp only [QA] at h1
        unfold setSlot at ht
        split at ht <;> first | (cases ht; done) | skip
        all_goals
         rename_i hop hgd
         obtain rfl:=Option.some.inj ht
         rw [hgd] at h1
         simp only [TD] at h1
         rw [hop] at h1
         simp only [ZF,hnone] at h1
         cases h1
      have hp:=hs r t v hrl hget hv
      subst hp
      show Zes G call base r o s=some s1
      unfold Zes
      rw [ht]
      simp only
      rw [hv]
      simp only
      rw [if_pos ⟨trivial,hbs⟩]
      exact h1
end
section
variable {P:Program}{G:Nat→Option (List AV)}{call:FuncId→List AV→List Z5→Option (AV×List Z5×Eff)}{E:Entry}{s s':Z7}{Γ:QS}{a:Act}{w:World}{hand:Nat→Bool}{draw:Bool}{o:Oper}{base:Nat}{al:List Nat}
theorem Zwe {ao:AOp}(h:(cOp P hand draw o).getD .bad=ao)(hb:ao≠.bad):cOp P hand draw o=some ao:=by
 cases hc:cOp P hand draw o with
 | none=>rw [hc] at h; exact absurd h.symm hb
 | some x=>rw [hc] at h; exact congrArg some h
theorem Z5V {t:TypeId}{cells:List AV}(h:cOp P hand draw o=some (.mk t cells)):∃ z,o.op=.alloc t∧ZwS P t=some z∧z.cells.all AV.one=true∧cells=z.cells:=by
 unfold cOp at h
 repeat' split at h
 all_goals first
  | (cases h; done)
  | (obtain ⟨_,_,e⟩:=Option.map_eq_some_iff.1 h; cases e; done)
  | (cases h; exact ⟨_,by assumption,by assumption,by assumption,rfl⟩)
theorem Z4A {t:TypeId}{n:Nat}{x:KX}(h:cOp P hand draw o=some (.box t n x)):∃ x',o.op=.box t x'∧V9 P t x'=some x:=by
 unfold cOp at h
 repeat' split at h
 all_goals first
  | (cases h; done)
  | (obtain ⟨_,h1,e⟩:=Option.map_eq_some_iff.1 h; cases e; exact ⟨_,by assumption,h1⟩)
  | (obtain ⟨_,h1,e⟩:=Option.map_eq_some_iff.1 h; cases e; done)
theorem Zyg (hI:Inv E s Γ a w){e:TypeId}{v:AV}{cv:Value}{n:Nat}(hd:s.hp[n]? = some .dead)(hb:s.bs≤n)(hr:Rep Γ w v cv)(hl:v.laid=true)(hn:∀ k r,v=.own k r→r=[]∧cv=.slice none 0 0) :
  Inv E { s with hp:=s.hp.set n (.cells v.cells e) } (Zpq Γ w.heap.size (.own n)) a (w.alloc (.cells cv.cells e))∧Rep (Zpq Γ w.heap.size (.own n)) (w.alloc (.cells cv.cells e)) (.ptr n 0) (.pointer (some ⟨w.heap.size,0,none⟩)):=by
 obtain ⟨a1,a2⟩:=hr.cellsRep hl hn
 have st:=CS hI.rw.fresh (.cells cv.cells e) (.own n)
 refine ⟨hI.fill _ _ hd hb ⟨w.heap.size,cv.cells,OV _ _ _,heap_alloc_new w _,a1,fun i c hc=>?_⟩,.ptr _ _ _ (OV _ _ _)⟩
 obtain ⟨b1,b2,b3⟩:=a2 i c hc
 exact ⟨b1,b2.mono st.fix st.own,.nil b3⟩
theorem Z4T (hG:GOk G E.W0)(hI:Inv E s Γ a w){g:Option (Nat×Bool)}{r:Nat}{u:Z7}(he:Ad G base r ⟨o.dst,(cOp P hand draw o).getD .bad,g⟩ s=some u){K:Act→World→Prop}{Q:Exit→Act→World→Prop}(hK:∀ Γ a w,Inv E u Γ a w→K a w) :
  o.wp P a w K Q:=by
 unfold Ad at he
 split at he <;> first | (cases he; done) | skip
 rename_i hd
 obtain ⟨hd,hbs⟩:=hd
 have hd':s.hp[base + r]? = some .dead:=by
  unfold Z0O at hd
  split at hd
  ·assumption
  ·cases hd
 split at he <;> first | (cases he; done) | skip
 ·rename_i t cells hop
  obtain rfl:=Option.some.inj he
  obtain ⟨z,h1,h2,h3,rfl⟩:=Z5V (Zwe hop (by nofun))
  obtain ⟨i,zv,hi,hzv,hrep⟩:=ZrO h2
  obtain ⟨k1,k2⟩:=hrep Γ w
  obtain ⟨i1,i2⟩:=Zyg hI (e := t) hd' (by omega) k1 (ZkB h3) k2
  have hrun:(execOp a.eval o).run P w=.ok (.value (.pointer (some ⟨w.heap.size,0,none⟩))) (w.alloc (.cells zv.cells t)):=by
   simp only [execOp,h1]
   simp [Instr.alloc,zeroValue,typeInfo,hi,hzv,newVar,newRow]
  unfold Oper.wp
  rw [hrun]
  obtain ⟨Γ2,j2⟩:=i1.put o.dst i2 (.of_ne (by simp))
  exact hK _ _ _ j2
 ·rename_i t n x hop
  split at he <;> first | (cases he; done) | skip
  rename_i v hv
  split at he <;> first | (cases he; done) | skip
  rename_i hl
  obtain rfl:=Option.some.inj he
  obtain ⟨x',h1,h2⟩:=Z4A (Zwe hop (by nofun))
  obtain ⟨k1,k2⟩:=YZ hG hI h2 hv
  obtain ⟨i1,i2⟩:=Zyg hI (e := t) hd' (by omega) k1 hl.2 k2
  have hrun:(execOp a.eval o).run P w=.ok (.value (.pointer (some ⟨w.heap.size,0,none⟩))) (w.alloc (.cells (a.eval x').cells t)):=by
   simp only [execOp,h1]
   simp [Instr.box,newVar,newRow]
  unfold Oper.wp
  rw [hrun]
  obtain ⟨Γ2,j2⟩:=i1.put o.dst i2 (.of_ne (by simp))
  exact hK _ _ _ j2
theorem ZuF (hG:GOk G E.W0)(hS:Uf P E.W0 call){ops:Array Oper}{g:Option (Nat×Bool)}{u:Z7}{K:Act→World→Prop}{Q:Exit→Act→World→Prop}(h2:Zlb ops o.guard=some g)
  (he:QA G call ⟨o.dst,(cOp P hand draw o).getD .bad,g⟩ s=some u) (hI:Inv E s Γ a w) (hK:∀ Γ a w,Inv E u Γ a w→K a w) :
  if Region.wanted o (yielded ops a.tmps)=true then o.wp P a w K Q∨(o.asks P a w∧LetsOut Q) else K (a.put o.dst Go.undef) w:=by
 simp only [QA] at he
 split at he <;> first | (cases he; done) | skip
 ·rename_i hw
  rw [EP hI h2 hw]
  split at he <;> first | (cases he; done) | skip
  rename_i v s2 hev
  obtain rfl:=Option.some.inj he
  simp only [if_true]
  refine .inl (Z3f hG hS hI (CQ hev) hev fun Γ' cv w' i1 r1 o1=>?_)
  obtain ⟨Γ2,i2⟩:=i1.put o.dst r1 o1
  exact hK _ _ _ i2
 ·rename_i hw
  rw [EP hI h2 hw]
  obtain rfl:=Option.some.inj he
  simp only [Bool.false_eq_true,if_false]
  obtain ⟨Γ2,i2⟩:=hI.put o.dst (v := .undef) (cv := Go.undef) .undef (.of_ne (by simp))
  exact hK _ _ _ i2
theorem Z3h (hG:GOk G E.W0)(hS:Uf P E.W0 (Ku call)){ops:Array Oper}{g:Option (Nat×Bool)}{u:Z7}{K:Act→World→Prop}{Q:Exit→Act→World→Prop}(h2:Zlb ops o.guard=some g)
  (he:Zcx G call base al ⟨o.dst,(cOp P hand draw o).getD .bad,g⟩ s=some u) (hI:Inv E s Γ a w) (hK:∀ Γ a w,Inv E u Γ a w→K a w) :
  if Region.wanted o (yielded ops a.tmps)=true then o.wp P a w K Q∨(o.asks P a w∧LetsOut Q) else K (a.put o.dst Go.undef) w:=by
 unfold Zcx at he
 split at he
 ·
  rename_i hc
  obtain ⟨k,hk,hk'⟩:=Znc (ZuP hc)
  refine ZuF (hand := hand) (draw := draw) hG hS h2 ?_ hI hK
  unfold Zna at he
  split at he <;> first | (cases he; done) | skip
  rename_i s1 h1
  obtain rfl:=Option.some.inj he
  show QA G (Ku call) ⟨o.dst,(cOp P hand draw o).getD .bad,g⟩ s=_
  simp only [QA] at h1 ⊢
  have wg:∀ h,TD { s with hp:=h } g=TD s g:=fun h=>by cases g <;> rfl
  rw [wg] at h1
  split at h1 <;> first | (cases h1; done) | skip
  ·rename_i hw
   split at h1 <;> first | (cases h1; done) | skip
   rename_i v s2 hev
   obtain rfl:=Option.some.inj h1
   obtain ⟨e1,e2,e3,e4⟩:=Z6A hk hk' hev (Pfx.take base s.hp)
   have e4':ZF G (Ku call) s ((cOp P hand draw o).getD .bad)=some (v,{ s2 with hp:=s.hp }):=e4
   rw [e4']
   simp only [KQ]
  ·rename_i hw
   obtain rfl:=Option.some.inj h1
   simp only [KQ]
 ·
  split at he
  ·rename_i hal
   have hg:g=none:=by
    unfold Za6 at hal
    split at hal <;> first | (cases hal; done) | assumption
   subst hg
   have hw:Region.wanted o (yielded ops a.tmps)=true:=EP hI h2 (b := true) rfl
   rw [hw]
   simp only [if_true]
   exact .inl (Z4T hG hI he hK)
  ·unfold Zes at he
   split at he <;> first | (cases he; done) | skip
   split at he <;> first | (cases he; done) | skip
   split at he <;> first | (cases he; done) | skip
   exact ZuF hG hS h2 he hI hK
 ·exact ZuF hG hS h2 he hI hK
theorem Z3k (hG:GOk G E.W0)(hS:Uf P E.W0 (Ku call)){ops:Array Oper}{bops:List Jq}{Q:Exit→Act→World→Prop}{sF:Z7}(hc:Zao P hand draw ops ops.toList=some bops)
  (hord:∀ i,i < ops.size→(match ops[i]? with | some o=>o.after.all fun e=>!Region.binds .any e || decide (e.on < i) | none=>false)=true)
  (hpair:∀ i,i < ops.size→∀ j,j < i→(Zzh ops i j || (match bops[j]?,bops[i]? with | some x,some y=>Zzs al x y | _,_=>false))=true) (hQ:∀ Γ a w,Inv E sF Γ a w→Q .normal a w) :
  ∀ (fuel:Nat) {listed:Array Bool} {s:Z7} {Γ:QS} {a:Act} {w:World},listed.size=ops.size→ZbN ops listed→(ND ops.size listed).length=fuel→Zdk G call base al ((ND ops.size listed).map fun i=>bops.getD i ⟨none,.bad,none⟩) s=some sF→Inv E s Γ a w→wpAny P .any ops Q fuel listed a w:=by
 obtain ⟨hlen,hget⟩:=ZaX hc
 intro fuel
 induction fuel with
 | zero =>
  intro listed s Γ a w hsz hcl hl h hI
  have hn:=List.eq_nil_of_length_eq_zero hl
  rw [hn] at h
  obtain rfl:=Option.some.inj (by simpa [Zdk] using h:some s=some sF)
  refine ⟨List.eq_nil_iff_forall_not_mem.2 fun i hi=>?_,hQ _ _ _ hI⟩
  obtain ⟨h1,o,h2,_⟩:=mem_ready.1 hi
  have:i ∈ ND ops.size listed:=LM.2 ⟨(Array.getElem?_eq_some_iff.1 h2).1,h1⟩
  rw [hn] at this
  cases this
 | succ fuel ih =>
  intro listed s Γ a w hsz hcl hl h hI
  have hlisted:∀ j,j < ops.size→listed.getD j true≠false→listed.getD j false=true:=fun j hj h=>by
   have hj':j < listed.size:=by omega
   simp [hj'] at h ⊢; exact h
  refine ⟨fun hr=>?_,fun i hi=>?_⟩
  ·obtain ⟨i,r,hir⟩:∃ i r,ND ops.size listed=i :: r:=by
    cases hx:ND ops.size listed with
    | nil=>rw [hx] at hl; cases hl
    | cons i r=>exact ⟨i,r,rfl⟩
   have him:=LM.1 (show i ∈ ND ops.size listed by rw [hir]; exact List.mem_cons_self ..)
   have hoi:ops[i]? = some ops[i]:=Array.getElem?_eq_getElem him.1
   have hready:i ∈ Region.ready .any ops listed:=by
    refine mem_ready.2 ⟨him.2,_,hoi,fun e he hb=>?_⟩
    have:=hord i him.1
    rw [hoi] at this
    have hlt:=Array.all_eq_true'.1 this e he
    rw [hb] at hlt
    simp only [Bool.not_true,Bool.false_or,decide_eq_true_eq] at hlt
    refine hlisted e.on (by omega) fun hun=>?_
    have hm:=LM.2 ⟨show e.on < ops.size by omega,hun⟩
    rw [hir] at hm
    have hs:=EJ ops.size listed
    rw [hir] at hs
    rcases List.mem_cons.1 hm with he | hm
    ·omega
    ·have:=(List.pairwise_cons.1 hs).1 _ hm
     omega
   rw [hr] at hready
   cases hready
  ·obtain ⟨hun,o,ho,hdeps⟩:=mem_ready.1 hi
   have hin:=(Array.getElem?_eq_some_iff.1 ho).1
   obtain ⟨l1,l2,hsplit⟩:=List.append_of_mem (LM.2 ⟨hin,hun⟩)
   have hs:=EJ ops.size listed
   rw [hsplit] at hs
   obtain ⟨g,hg1,hg2⟩:=hget i o (by simpa using ho)
   have hbi:bops.getD i ⟨none,.bad,none⟩=⟨o.dst,(cOp P hand draw o).getD .bad,g⟩:=by rw [List.getD_eq_getElem?_getD,hg2]; rfl
   have hcomm:∀ x ∈ l1.map (fun i=>bops.getD i ⟨none,.bad,none⟩),Zzs al x ⟨o.dst,(cOp P hand draw o).getD .bad,g⟩=true:=fun x hx=>by
    obtain ⟨j,hj,rfl⟩:=List.mem_map.1 hx
    have hji:j < i:=(List.pairwise_append.1 hs).2.2 j hj i (List.mem_cons_self ..)
    have hjm:=LM.1 (show j ∈ ND ops.size listed by rw [hsplit]; exact List.mem_append_left _ hj)
    have:=hpair i hin j hji
    rw [Bool.or_eq_true] at this
    rcases this with h1 | h1
    ·exfalso
     have h2:=hcl.ready ho hdeps (Zvc h1)
     rw [Znb hjm.2] at h2
     cases h2
    ·rw [hg2] at h1
     split at h1
     ·rename_i x y hx hy
      cases hy
      rw [List.getD_eq_getElem?_getD,hx]
      exact h1
     ·cases h1
   rw [hsplit,List.map_append,List.map_cons,hbi] at h
   obtain ⟨u,hu1,hu2⟩:=Z0j hcomm h
   rw [← List.map_append,← ZeX hsplit (by omega)] at hu2
   have hlen2:(ND ops.size (listed.setIfInBounds i true)).length=fuel:=by
    rw [ZeX hsplit (by omega)]
    rw [hsplit] at hl
    simp at hl ⊢
    omega
   unfold wpOp
   simp only [ho]
   exact Z3h hG hS hg1 hu1 hI fun Γ' a' w' hI'=>ih (by simp [hsz]) (hcl.list ho hdeps) hlen2 hu2 hI'
theorem Inv.keepFree (h:Inv E s Γ a w)(n:Nat):Inv E { s with hp:=s.hp ++ Za4 n } Γ a w:=by
 refine ⟨h.defers,h.slots,⟨fun g o hg=>?_,h.rw.inj,h.rw.fresh,fun b g hb=>?_,h.rw.old,h.rw.oldImm,fun g hg b hb=>?_⟩,h.fr,h.base,h.base2,?_,h.back⟩
 ·rw [List.getElem?_append] at hg
  split at hg
  ·exact h.rw.objs g o hg
  ·have:=List.eq_of_mem_replicate (List.mem_of_getElem? hg)
   subst this
   trivial
 ·have:=h.rw.lt b g hb
  simp only [List.length_append]
  omega
 ·have:=h.rw.lt b g hb
  rw [List.getElem?_append_left this] at hg
  exact h.rw.dead g hg b hb
 ·have:=h.le
  simp only [List.length_append]
  omega
theorem Zy2 (hG:GOk G E.W0)(hS:Uf P E.W0 (Ku call)){ops:Array Oper}{bops:List Jq}{Q:Exit→Act→World→Prop}{sF:Z7}(hc:Zao P hand draw ops ops.toList=some bops)(hd:Zuh ops bops=true)(hQ:∀ Γ a w,Inv E sF Γ a w→Q .normal a w)
  (h:Jj G (Ku call) bops s=some sF) (hI:Inv E s Γ a w):wpAny P .any ops Q ops.size (Array.replicate ops.size false) a w:=by
 simp only [Zuh,Bool.and_eq_true,List.all_eq_true,List.mem_range] at hd
 obtain ⟨⟨⟨⟨hord,_⟩,hok⟩,hnd⟩,hpair⟩:=hd
 have hr:ND ops.size (Array.replicate ops.size false)=List.range ops.size:=by
  unfold ND
  refine List.filter_eq_self.2 fun i hi=>?_
  simp only [List.mem_range] at hi
  simp [hi]
 have hmap:(List.range ops.size).map (fun i=>bops.getD i ⟨none,.bad,none⟩)=bops:=by
  have hl:ops.size=bops.length:=by simpa using (ZaX hc).1
  rw [hl]
  refine List.ext_getElem? fun i=>?_
  rw [List.getElem?_map]
  by_cases hi:i < bops.length
  ·rw [List.getElem?_range hi,Option.map_some,List.getD_eq_getElem?_getD,List.getElem?_eq_getElem hi]; rfl
  ·rw [List.getElem?_eq_none (by simpa using hi),List.getElem?_eq_none (by omega)]; rfl
 have hs:=sim (base := s.hp.length) hnd hok (Nat.zero_le _) h hI.le rfl (fun r t v hr=>absurd hr (Nat.not_lt_zero _))
 exact Z3k hG hS hc hord hpair hQ ops.size (by simp) (.start ops _) (by rw [hr]; simp) (by rw [hr,hmap]; exact hs) (hI.keepFree _)
end
end Go.Proofs.YtlmfmmclnboglaaGreat.Abs
end
section
namespace Go.Proofs.YtlmfmmclnboglaaGreat.Abs
open Go Go.RowKit
section
variable {P:Program}{G:Nat→Option (List AV)}{call:FuncId→List AV→List Z5→Option (AV×List Z5×Eff)}{E:Entry}{s s':Z7}{Γ:QS}{a:Act}{w:World}{hand:Nat→Bool}{draw:Bool}
def Ends (E:Entry)(r:Zg9×Z7)(e:Exit)(a:Act)(w:World):Prop :=
 (match r.1,e with
  | .normal,.normal=>True
  | .exit i,.exit j=>i=j
  | .ret,.ret=>True
  | _,_=>False)∧∃ Γ,Inv E r.2 Γ a w
theorem Ends.normal {s:Z7}{Γ:QS}{a:Act}{w:World}(h:Inv E s Γ a w):Ends E (.normal,s) .normal a w:=⟨trivial,Γ,h⟩
theorem Zxw {c:Code}{f:Z7→Option (Zg9×Z7)}(ih:∀ {s:Z7} {r:Zg9×Z7} {Γ:QS} {a:Act} {w:World},f s=some r→Inv E s Γ a w→c.wp P (Ends E r) a w) :
  ∀ (n:Nat) {s:Z7} {r:Zg9×Z7} {Γ:QS} {a:Act} {w:World},iter f n s=some r→Inv E s Γ a w→Code.rounds P c (Ends E r) n a w
 | 0,_,_,_,_,_,h,_=>by cases h
 | n + 1,s,r,Γ,a,w,h,hI=>by
  rw [rounds_succ]
  simp only [iter] at h
  split at h
  ·rename_i s1 h1
   refine Go.wp_mono (ih h1 hI) fun e a' w' he=>?_
   obtain ⟨k1,Γ',i1⟩:=he
   cases e <;> first | exact k1.elim | skip
   exact Zxw ih n h i1
  ·rename_i hne
   refine Go.wp_mono (ih h hI) fun e a' w' he=>?_
   cases e <;> first | exact he | skip
   obtain ⟨k1,_⟩:=he
   obtain ⟨x,s1⟩:=r
   cases x <;> first | exact k1.elim | skip
   exact absurd h (hne s1)
theorem Z4G (hm:P.follows .mixedOrders=true)(hG:GOk G E.W0)(hS:Uf P E.W0 call)(hB:Uf P E.W0 (Ku call)){takes:FuncId→List Nat}{res:List Nat}(L:Nat):∀ {c:Code} {ac:Zr} {s:Z7} {r:Zg9×Z7} {Γ:QS} {a:Act} {w:World},
  Zi7 P takes res c=some ac→XV G call L ac s=some r→Inv E s Γ a w→c.wp P (Ends E r) a w:=by
 intro c
 induction c with
 | skip =>
  intro ac s r Γ a w hc h hI
  cases hc; cases h
  exact Go.wp_skip (.normal hI)
 | region id ops draw =>
  intro ac s r Γ a w hc h hI
  cases draw with
  | false =>
   simp only [Zi7] at hc
   obtain ⟨aops,h1,rfl⟩:=Option.map_eq_some_iff.1 hc
   simp only [XV] at h
   obtain ⟨s1,h2,rfl⟩:=Option.map_eq_some_iff.1 h
   refine wp_region ?_
   rw [List.range_eq_range']
   have:=Zy4 hG hS (Q := Ends E (.normal,s1)) 0 (l := ops.toList) (by simp) h1 h2 hI fun Γ a w h=>.normal h
   simpa using this
  | true =>
   simp only [Zi7] at hc
   split at hc <;> try (cases hc; done)
   rename_i aops bops h1 h1'
   split at hc
   ·rename_i hq
    simp only [Bool.and_eq_true] at hq
    cases hc
    simp only [XV] at h
    obtain ⟨s1,h2,rfl⟩:=Option.map_eq_some_iff.1 h
    refine wp_region_quiet (C := Behind w) hm hq.1 ⟨rfl,rfl,rfl,Nat.le_refl _,fun _ _=>rfl⟩ ?_
    exact ZqR hG hS h1 hq.2 h2 hI fun Γ a w h=>.normal h
   ·split at hc
    ·rename_i hd
     cases hc
     simp only [XV] at h
     obtain ⟨s1,h2,rfl⟩:=Option.map_eq_some_iff.1 h
     refine wp_region_any hm ?_
     have hb:Behind w { w with drawn:=w.drawn + 1 }:=⟨rfl,rfl,rfl,Nat.le_refl _,fun _ _=>rfl⟩
     have hr:ND ops.size (Array.replicate ops.size false)=List.range ops.size:=by
      unfold ND
      refine List.filter_eq_self.2 fun i hi=>?_
      simp only [List.mem_range] at hi
      simp [hi]
     have hmap:(List.range ops.size).map (fun i=>bops.getD i ⟨none,.bad,none⟩)=bops:=by
      have hl:ops.size=bops.length:=by simpa using (ZaX h1').1
      rw [hl]
      refine List.ext_getElem? fun i=>?_
      rw [List.getElem?_map]
      by_cases hi:i < bops.length
      ·rw [List.getElem?_range hi,Option.map_some,List.getD_eq_getElem?_getD,List.getElem?_eq_getElem hi]; rfl
      ·rw [List.getElem?_eq_none (by simpa using hi),List.getElem?_eq_none (by omega)]; rfl
     exact Z5p hG hS (Q := Ends E (.normal,s1)) h1' hd (fun Γ a w h=>.normal h) ops.size (by simp) (.start ops _) (by rw [hr]; simp) (by rw [hr,hmap]; exact h2) (hb.inv hI)
    ·split at hc
     ·rename_i hd
      cases hc
      simp only [XV] at h
      obtain ⟨s1,h2,rfl⟩:=Option.map_eq_some_iff.1 h
      refine wp_region_any hm ?_
      have hb:Behind w { w with drawn:=w.drawn + 1 }:=⟨rfl,rfl,rfl,Nat.le_refl _,fun _ _=>rfl⟩
      exact Zy2 hG hB (Q := Ends E (.normal,s1)) h1' hd (fun Γ a w h=>.normal h) h2 (hb.inv hI)
     ·cases hc; cases h
 | seq x y ihx ihy =>
  intro ac s r Γ a w hc h hI
  simp only [Zi7] at hc
  split at hc <;> try (cases hc; done)
  rename_i ax ay hx hy
  obtain rfl:=Option.some.inj hc
  simp only [XV] at h
  refine Go.wp_seq ?_
  split at h
  ·rename_i s1 h1
   refine Go.wp_mono (ihx hx h1 hI) fun e a' w' he=>?_
   obtain ⟨k1,Γ',i1⟩:=he
   cases e <;> first | exact k1.elim | skip
   exact ihy hy h i1
  ·rename_i hne
   refine Go.wp_mono (ihx hx h hI) fun e a' w' he=>?_
   cases e <;> first | exact he | skip
   obtain ⟨k1,_⟩:=he
   obtain ⟨q,s1⟩:=r
   cases q <;> first | exact k1.elim | skip
   exact absurd h (hne s1)
 | cond c x y ihx ihy =>
  intro ac s r Γ a w hc h hI
  simp only [Zi7] at hc
  split at hc <;> try (cases hc; done)
  rename_i c' ax ay hcc hx hy
  obtain rfl:=Option.some.inj hc
  simp only [XV] at h
  split at h <;> try (cases h; done)
  ·rename_i hb
   have k:=(YZ hG hI hcc hb).1
   generalize hq:a.eval c=q at k
   cases k
   exact Go.wp_cond_true hq (ihx hx h hI)
  ·rename_i hb
   have k:=(YZ hG hI hcc hb).1
   generalize hq:a.eval c=q at k
   cases k
   exact Go.wp_cond_false hq (ihy hy h hI)
 | block id c ih =>
  intro ac s r Γ a w hc h hI
  simp only [Zi7] at hc
  obtain ⟨ax,hx,rfl⟩:=Option.map_eq_some_iff.1 hc
  simp only [XV] at h
  refine Go.wp_block ?_
  split at h
  ·rename_i i s1 h1
   split at h
   ·rename_i hi
    obtain rfl:=Option.some.inj h
    refine Go.wp_mono (ih hx h1 hI) fun e a' w' he=>?_
    obtain ⟨k1,Γ',i1⟩:=he
    cases e <;> first | exact k1.elim | skip
    rename_i j
    simp only [Exit.inBlock]
    rw [if_pos (by rw [← hi]; exact (show i=j from k1).symm)]
    exact .normal i1
   ·rename_i hi
    obtain rfl:=Option.some.inj h
    refine Go.wp_mono (ih hx h1 hI) fun e a' w' he=>?_
    obtain ⟨k1,Γ',i1⟩:=he
    cases e <;> first | exact k1.elim | skip
    rename_i j
    simp only [Exit.inBlock]
    rw [if_neg (by rw [← (show i=j from k1)]; exact hi)]
    exact ⟨k1,Γ',i1⟩
  ·rename_i hne
   refine Go.wp_mono (ih hx h hI) fun e a' w' he=>?_
   cases e <;> first | exact he | skip
   obtain ⟨k1,_⟩:=he
   obtain ⟨q,s1⟩:=r
   cases q <;> first | exact k1.elim | skip
   exact absurd h (hne _ s1)
 | loop c ih =>
  intro ac s r Γ a w hc h hI
  simp only [Zi7] at hc
  obtain ⟨ax,hx,rfl⟩:=Option.map_eq_some_iff.1 hc
  simp only [XV] at h
  exact wp_loop_rounds L (Zxw (fun h1 h2=>ih hx h1 h2) L h hI)
 | scope c ih =>
  intro ac s r Γ a w hc h hI
  simp only [Zi7] at hc
  obtain ⟨ax,hx,rfl⟩:=Option.map_eq_some_iff.1 hc
  simp only [XV] at h
  refine Go.wp_scope_straight (Go.wp_mono (ih hx h hI) fun e a' w' he=>?_)
  cases e <;> first | exact he | skip
  obtain ⟨k1,_⟩:=he
  obtain ⟨q,s1⟩:=r
  cases q <;> exact k1.elim
 | exit id =>
  intro ac s r Γ a w hc h hI
  cases hc; cases h
  exact Go.wp_exit ⟨rfl,Γ,hI⟩
 | ret =>
  intro ac s r Γ a w hc h hI
  cases hc; cases h
  exact Go.wp_ret ⟨trivial,Γ,hI⟩
 | label l =>
  intro ac s r Γ a w hc h hI
  cases hc; cases h
  exact Go.wp_label (.normal hI)
 | _ =>
  intro ac s r Γ a w hc h
  cases hc; cases h
end
end Go.Proofs.YtlmfmmclnboglaaGreat.Abs
end
section
namespace Go.Proofs.YtlmfmmclnboglaaGreat.Abs
open Go Go.RowKit
section
variable {P:Program}{G:Nat→Option (List AV)}{E:Entry}{s:Z7}{Γ:QS}{a:Act}{w:World}
def Zr5 (tmps:Array Value):ResultVar→Sem Value
 | .tmp t=>pure (tmps.getD t Go.undef)
 | .cell x t=>do loadVar t (← asAddr (tmps.getD x Go.undef))
def packed:List Value→Value
 | [v]=>v
 | vs=>.tuple vs.toArray
theorem Zr6 {fn:Func}{tmps:Array Value}{vs:List Value}(h:(fn.results.toList.mapM (Zr5 tmps)).run P w=.ok vs w):(results fn tmps).run P w=.ok (packed vs) w:=by
 have e0:results fn tmps=(do let vs ← fn.results.mapM (Zr5 tmps); pure (if h:vs.size=1 then vs[0] else .tuple vs)):=by
  unfold results
  congr 1
 rw [e0]
 obtain ⟨l,hl⟩:∃ l,fn.results=⟨l⟩:=⟨fn.results.toList,rfl⟩
 rw [hl] at h ⊢
 have e:((⟨l⟩:Array ResultVar).mapM (Zr5 tmps)).run P w=.ok vs.toArray w:=by
  rw [List.mapM_toArray,map_eq_pure_bind,Sem.run_bind,h]
  rfl
 rw [Sem.run_bind,e]
 simp only [Result.andThen_ok,Sem.run_pure]
 cases vs with
 | nil=>rfl
 | cons v vs=>cases vs <;> rfl
theorem res_one (hI:Inv E s Γ a w){r:ResultVar}{ar:ZwT}{v:AV}(hc:Z7n P r=some ar)(h:ZnX s ar=some v) :
  ∃ cv,(Zr5 a.tmps r).run P w=.ok cv w∧Rep Γ w v cv∧((∃ t,cv=a.tmps.getD t Go.undef∧s.sl[t]? = some v)∨∀ k r,v≠.own k r):=by
 cases r with
 | tmp t =>
  obtain rfl:=Option.some.inj hc
  exact ⟨a.tmps.getD t Go.undef,rfl,hI.slots.rep t v h,.inl ⟨t,rfl,h⟩⟩
 | cell t ty =>
  simp only [Z7n] at hc
  split at hc
  ·rename_i hag
   obtain rfl:=Option.some.inj hc
   simp only [ZnX] at h
   split at h <;> try (cases h; done)
   rename_i x hx
   obtain ⟨b,off,cv,e,hl,hcell,hr,hn⟩:=Z0U hI (hI.slots.rep t x hx) h
   have hu:=Zq6 hag
   obtain ⟨i,hi⟩:=info_of_underlying hu
   have hld:=run_loadCells_list (P := P) w ⟨b,off,none⟩ cv (fun j y hj=>by rw [add_lit]; exact hcell j y hj)
   rw [hl] at hld
   refine ⟨_,?_,hr,.inr hn⟩
   simp only [Zr5,e]
   simp [asAddr,loadVar,ZeR hag hu,Ut hi,hld]
  ·rename_i hag
   split at hc <;> try (cases hc; done)
   rename_i hu
   obtain rfl:=Option.some.inj hc
   simp only [ZnX] at h
   split at h <;> try (cases h; done)
   rename_i x hx
   obtain ⟨b,off,cv,e,hcell,hr,hn⟩:=Z0W hI (hI.slots.rep t x hx) h
   refine ⟨cv,?_,hr,.inr hn⟩
   simp only [Zr5,e]
   simp [asAddr,loadVar,ZeR (by simpa using hag) hu,hcell]
theorem Z1R (hI:Inv E s Γ a w):∀ {rs:List ResultVar} {ars:List ZwT} {vs:List AV},Zvs P rs=some ars→Zis s ars=some vs →
  ∃ cvs:List Value,(rs.mapM (Zr5 a.tmps)).run P w=.ok cvs w∧cvs.length=vs.length∧ars.length=rs.length∧∀ (j:Nat) (x:AV),vs[j]? = some x→∃ u,cvs[j]? = some u∧Rep Γ w x u
 | [],ars,vs,hc,h=>by
  cases hc; cases h
  exact ⟨[],rfl,rfl,rfl,fun j x hx=>by simp at hx⟩
 | r :: rs,ars,vs,hc,h=>by
  simp only [Zvs] at hc
  split at hc <;> try (cases hc; done)
  rename_i ar l h1 h2
  obtain rfl:=Option.some.inj hc
  simp only [Zis] at h
  split at h <;> try (cases h; done)
  rename_i v vs' h3 h4
  obtain rfl:=Option.some.inj h
  obtain ⟨cv,e1,r1,_⟩:=res_one hI h1 h3
  obtain ⟨cvs,e2,e3,e4,e5⟩:=Z1R hI h2 h4
  refine ⟨cv :: cvs,?_,by simp [e3],by simp [e4],fun j x hx=>?_⟩
  ·rw [List.mapM_cons]
   simp only [Sem.run_bind,e1,Result.andThen_ok,e2]
   rfl
  ·cases j with
   | zero=>obtain rfl:=Option.some.inj hx; exact ⟨cv,rfl,r1.nm⟩
   | succ j =>
    obtain ⟨u,hu,hr⟩:=e5 j x (by simpa using hx)
    exact ⟨u,by simpa using hu,hr⟩
theorem Z4r (hI:Inv E s Γ a w){fn:Func}{rs:List ZwT}{v:AV}(hc:Zvs P fn.results.toList=some rs)(h:Zcy s rs=some v) :
  ∃ cv Γ',(results fn a.tmps).run P w=.ok cv w∧RW E.W0 Γ' w s.hp∧Frame E.Γ0 E.w0 Γ' w s.ef∧Rep Γ' w v cv∧OwnAt Γ' w .res v cv∧∀ b g,Γ' b=.own g→g < s.bs→E.Γ0 b=.own g:=by
 have many:∀ vs,Zis s rs=some vs→v=.tup vs→rs.length≠1→∃ cv Γ',(results fn a.tmps).run P w=.ok cv w∧RW E.W0 Γ' w s.hp∧Frame E.Γ0 E.w0 Γ' w s.ef∧Rep Γ' w v cv∧OwnAt Γ' w .res v cv∧∀ b g,Γ' b=.own g→g < s.bs→E.Γ0 b=.own g:=by
  intro vs hvs hv hne
  obtain ⟨cvs,e2,e3,e4,e5⟩:=Z1R hI hc hvs
  have hr:=Zr6 e2
  have hvl:vs.length=rs.length:=by
   clear hc e2 e3 e4 e5 hr hv hne h
   induction rs generalizing vs with
   | nil=>cases hvs; rfl
   | cons r rs ih =>
    simp only [Zis] at hvs
    split at hvs <;> first | (cases hvs; done) | skip
    rename_i h1 h2
    obtain rfl:=Option.some.inj hvs
    simp [ih _ h2]
  subst hv
  refine ⟨.tuple cvs.toArray,Γ,?_,hI.rw,hI.fr,.tup vs _ (by simpa using e3) (fun j x hx=>?_),.of_ne (by simp),hI.back⟩
  ·rw [hr]
   cases cvs with
   | nil=>rfl
   | cons u cvs =>
    cases cvs with
    | nil=>simp at e3; omega
    | cons _ _=>rfl
  ·obtain ⟨u,hu,hr⟩:=e5 j x hx
   rw [Array.getD_eq_getD_getElem?,List.getElem?_toArray,hu]
   exact hr
 cases rs with
 | nil =>
  simp only [Zcy] at h
  obtain ⟨vs,hvs,e⟩:=Option.map_eq_some_iff.1 h
  exact many vs hvs e.symm (by simp)
 | cons r rs =>
  cases rs with
  | cons r' rs =>
   simp only [Zcy] at h
   obtain ⟨vs,hvs,e⟩:=Option.map_eq_some_iff.1 h
   exact many vs hvs e.symm (by simp)
  | nil =>
   simp only [Zcy] at h
   cases hl:fn.results.toList with
   | nil=>rw [hl] at hc; cases hc
   | cons q qs =>
    rw [hl] at hc
    simp only [Zvs] at hc
    split at hc <;> try (cases hc; done)
    rename_i ar l h1 h2
    obtain ⟨rfl,rfl⟩:=List.cons.inj (Option.some.inj hc)
    have hqs:qs=[]:=by
     cases qs with
     | nil=>rfl
     | cons _ _ =>
      simp only [Zvs] at h2
      split at h2 <;> simp at h2
    subst hqs
    obtain ⟨cv,e1,r1,hown⟩:=res_one hI h1 h
    have hrun:=Zr6 (fn := fn) (tmps := a.tmps) (P := P) (w := w) (vs := [cv]) (by
     rw [hl,List.mapM_cons]
     simp only [Sem.run_bind,e1,Result.andThen_ok]
     rfl)
    rcases hown with ⟨t,rfl,ht⟩ | hn
    ·obtain ⟨Γ',i1,r1,o1⟩:=hI.take t ht
     exact ⟨_,Γ',hrun,i1.rw,i1.fr,r1,o1,i1.back⟩
    ·exact ⟨_,Γ,hrun,hI.rw,hI.fr,r1,.of_ne hn,hI.back⟩
end
end Go.Proofs.YtlmfmmclnboglaaGreat.Abs
end
section
namespace Go.Proofs.YtlmfmmclnboglaaGreat.Abs
open Go Go.RowKit
def TA (bs:Nat):Kind→Kind
 | .own g=>if g < bs then .own g else .imm
 | .list n (.cell g i)=>if g < bs then .list n (.cell g i) else .imm
 | k=>k
theorem ZeM {bs o:Nat}{k:Kind}(h:PW o k):PW o (TA bs k):=by
 cases k with
 | imm=>trivial
 | own g=>exact h.elim
 | list m l =>
  cases l <;> simp only [TA] <;> first | exact h | skip
  split
  ·exact h
  ·trivial
theorem Nz {bs g:Nat}{k:Kind}(h:TA bs k=.own g):k=.own g∧g < bs:=by
 cases k with
 | imm=>cases h
 | own g' =>
  simp only [TA] at h
  split at h
  ·rename_i hl; cases h; exact ⟨rfl,hl⟩
  ·cases h
 | list m l =>
  cases l <;> simp only [TA] at h <;> try (cases h; done)
  split at h <;> cases h
theorem ZlW {α β:Type}{f:α→Option β}:∀ {l:List α} {r:List β},l.mapM f=some r→r.length=l.length∧∀ (j:Nat) (y:β),r[j]? = some y→∃ x,l[j]? = some x∧f x=some y
 | [],r,h=>by
  simp only [List.mapM_nil] at h
  obtain rfl:=Option.some.inj h
  exact ⟨rfl,fun j y hy=>by simp at hy⟩
 | x :: l,r,h=>by
  rw [List.mapM_cons] at h
  cases hx:f x with
  | none=>rw [hx] at h; cases h
  | some y =>
   cases hl:l.mapM f with
   | none=>rw [hx,hl] at h; cases h
   | some ys =>
    rw [hx,hl] at h
    obtain rfl:=Option.some.inj h
    obtain ⟨e1,e2⟩:=ZlW hl
    refine ⟨by simp [e1],fun j z hz=>?_⟩
    cases j with
    | zero=>obtain rfl:=Option.some.inj hz; exact ⟨x,rfl,hx⟩
    | succ j =>
     obtain ⟨x',h1,h2⟩:=e2 j z (by simpa using hz)
     exact ⟨x',by simpa using h1,h2⟩
section
variable {W0 w:World}{Γ Γ':QS}{hp:List Z5}{bs:Nat}
theorem Z1h {x:AV}{v:Value}(hf:U1 Γ w Γ' w)(h:Rep Γ w x v)(hn:x.noId1=true):Rep Γ' w x.ro v:=(h.noId hf hn).ro
theorem OwnAt.fix {w':World}{l l':Loc}{x:AV}{v:Value}(hf:U1 Γ w Γ' w')(hb:∀ b n,Γ b=.list n l→Γ' b=.list n l'∧w'.heap[b]? = w.heap[b]?)(h:OwnAt Γ w l x v):OwnAt Γ' w' l' x v:=by
 intro k rows e
 rcases h k rows e with h | ⟨b,cap,e,cur,hv,hg,hh,h1,h2,h3,h4,h5⟩
 ·exact .inl h
 ·obtain ⟨g1,g2⟩:=hb b _ hg
  exact .inr ⟨b,cap,e,cur,hv,g1,g2.trans hh,h1,h2,h3,h4,fun i j r c a1 a2=>⟨(h5 i j r c a1 a2).1,(h5 i j r c a1 a2).2.noId hf (h5 i j r c a1 a2).1⟩⟩
theorem Zuv (hr:RW W0 Γ w hp):∀ (d:Nat) {v v':AV} {cv:Value},Zyk bs hp d v=some v'→Rep Γ w v cv→Rep (fun b=>TA bs (Γ b)) w v' cv∧(∀ k r,v'≠.own k r)∧(v.one=true→v'.one=true):=by
 have hf:U1 Γ w (fun b=>TA bs (Γ b)) w:=fun _ _ _ h1 h2=>⟨ZeM h1,h2⟩
 have hown:∀ b g,Γ b=.own g→g < bs→TA bs (Γ b)=.own g:=fun b g h hg=>by simp [h,TA,hg]
 intro d
 induction d with
 | zero =>
  intro v v' cv h hv
  cases v <;> simp only [Zyk] at h
  case arr g off len k =>
   split at h <;> try (cases h; done)
   rename_i hg
   obtain rfl:=Option.some.inj h
   cases hv with
   | arr _ _ _ _ cap b hb hc=>exact ⟨.arr _ _ _ _ cap b (hown b g hb hg) hc,by simp,fun h=>h⟩
  case ptr g o =>
   split at h <;> try (cases h; done)
   rename_i hg
   obtain rfl:=Option.some.inj h
   cases hv with
   | ptr _ _ b hb=>exact ⟨.ptr _ _ b (hown b g hb hg),by simp,fun h=>h⟩
  case map g =>
   split at h <;> try (cases h; done)
   rename_i hg
   obtain rfl:=Option.some.inj h
   cases hv with
   | map _ b hb=>exact ⟨.map _ b (hown b g hb hg),by simp,fun h=>h⟩
  case agg=>cases h
  case tup=>cases h
  case fn f a cs =>
   split at h <;> try (cases h; done)
   rename_i hg
   obtain rfl:=Option.some.inj h
   refine ⟨?_,by simp,fun h=>h⟩
   have:=hv.noId hf (by simpa [AV.noId1] using hg)
   obtain ⟨rfl,rfl⟩:a=[]∧cs=[]:=by simpa using hg
   exact this
  case undef=>cases h; cases hv; exact ⟨.undef,by simp [AV.ro],fun h=>h⟩
  all_goals
   obtain rfl:=Option.some.inj h
   exact ⟨Z1h hf hv rfl,fun _ _=>FB,fun h=>by rw [Zwh]; exact h⟩
 | succ d ih =>
  intro v v' cv h hv
  cases v <;> simp only [Zyk] at h
  case arr g off len k =>
   split at h
   ·rename_i hg
    obtain rfl:=Option.some.inj h
    cases hv with
    | arr _ _ _ _ cap b hb hc=>exact ⟨.arr _ _ _ _ cap b (hown b g hb hg) hc,by simp,fun h=>h⟩
   ·rename_i hg
    split at h <;> try (cases h; done)
    rename_i cs t hobj
    split at h <;> try (cases h; done)
    rename_i hfit
    obtain ⟨cs',h1,h2⟩:=Option.bind_eq_some_iff.1 h
    split at h2 <;> first | (cases h2; done) | skip
    rename_i hid
    obtain rfl:=Option.some.inj h2
    obtain ⟨m1,m2⟩:=ZlW h1
    cases hv with
    | arr _ _ _ _ cap b hb hc =>
     obtain ⟨b',C,o1,o2,o3,o4⟩:=hr.objs g _ hobj
     obtain rfl:=hr.inj b b' g hb o1
     have hlen:cs'.length=len * k:=by rw [m1]; simp; omega
     have hrow:∀ (i:Nat) (r:List AV),(chunk k len cs')[i]? = some r→i < len∧r.length=k∧∀ (j:Nat) (c:AV),r[j]? = some c→j < k∧cs'[i * k + j]? = some c:=by
      intro i r hi
      have hil:=YV hi
      rw [CG] at hil
      have he:=ZpL k len _ i r hi
      have hle:(i + 1) * k≤len * k:=Nat.mul_le_mul_right k hil
      rw [Nat.add_mul,Nat.one_mul] at hle
      refine ⟨hil,by rw [he]; simp; omega,fun j c hj=>?_⟩
      rw [he,List.getElem?_take] at hj
      split at hj
      ·rename_i hjk
       refine ⟨hjk,?_⟩
       rw [List.getElem?_drop] at hj
       exact hj
      ·cases hj
     have hcell:∀ (p:Nat) (c:AV),cs'[p]? = some c→off + p < C.size∧Rep (fun b=>TA bs (Γ b)) w c (C.getD (off + p) Go.undef)∧c.noId1=true:=by
      intro p c hp
      obtain ⟨x,x1,x2⟩:=m2 p c hp
      have hpl:=YV hp
      rw [List.getElem?_take,if_pos (by omega),List.getElem?_drop] at x1
      obtain ⟨_,q2,_⟩:=o4 _ x x1
      exact ⟨by omega,(ih x2 q2).1,List.all_eq_true.1 hid c (List.mem_of_getElem? hp)⟩
     refine ⟨?_,by simp,fun _=>rfl⟩
     have hl:(chunk k len cs').length=len:=CG k len cs'
     have key:=Rep.lst (Γ := fun b=>TA bs (Γ b)) (w := w) k (chunk k len cs') b off cap (fun i j=>C.getD (off + (i * k + j)) Go.undef) (by rw [hl]; exact hc) (fun r hr=>?_) (fun i j r c hi hj=>?_) (fun i j r c hi hj=>?_)
     ·rw [hl] at key; exact key
     ·obtain ⟨i,hi⟩:=List.mem_iff_getElem?.1 hr
      exact (hrow i r hi).2.1
     ·obtain ⟨_,_,h3⟩:=hrow i r hi
      obtain ⟨_,h4⟩:=h3 j c hj
      obtain ⟨q1,q2,q3⟩:=hcell _ c h4
      refine ⟨?_,?_,q3⟩
      ·rw [cell_of_row w b _ C t (0,0) o2]
       exact Ob q1
      ·show PW _ (TA bs (Γ b))
       rw [hb]
       simp only [TA,if_neg hg]
       trivial
     ·obtain ⟨_,_,h3⟩:=hrow i r hi
      obtain ⟨_,h4⟩:=h3 j c hj
      exact (hcell _ c h4).2.1
  case ptr g o =>
   split at h <;> try (cases h; done)
   rename_i hg
   obtain rfl:=Option.some.inj h
   cases hv with
   | ptr _ _ b hb=>exact ⟨.ptr _ _ b (hown b g hb hg),by simp,fun h=>h⟩
  case map g =>
   split at h <;> try (cases h; done)
   rename_i hg
   obtain rfl:=Option.some.inj h
   cases hv with
   | map _ b hb=>exact ⟨.map _ b (hown b g hb hg),by simp,fun h=>h⟩
  case agg=>cases h
  case tup=>cases h
  case fn f a cs =>
   split at h <;> try (cases h; done)
   rename_i hg
   obtain rfl:=Option.some.inj h
   refine ⟨?_,by simp,fun h=>h⟩
   have:=hv.noId hf (by simpa [AV.noId1] using hg)
   obtain ⟨rfl,rfl⟩:a=[]∧cs=[]:=by simpa using hg
   exact this
  case undef=>cases h; cases hv; exact ⟨.undef,by simp [AV.ro],fun h=>h⟩
  all_goals
   obtain rfl:=Option.some.inj h
   exact ⟨Z1h hf hv rfl,fun _ _=>FB,fun h=>by rw [Zwh]; exact h⟩
theorem Zxr (hr:RW W0 Γ w hp){v v':AV}{cv:Value}(h:ZhZ bs hp v=some v')(hv:Rep Γ w v cv):Rep (fun b=>TA bs (Γ b)) w v' cv∧∀ k r,v'≠.own k r:=by
 unfold ZhZ at h
 split at h
 ·rename_i cs
  obtain ⟨cs',h1,rfl⟩:=Option.map_eq_some_iff.1 h
  obtain ⟨m1,m2⟩:=ZlW h1
  cases hv with
  | agg _ u hs k1 kn kr =>
   refine ⟨.agg cs' u (by rw [hs,m1]) (fun j c hc=>?_) (fun j k r hc=>?_) (fun j c hc=>?_),by simp⟩
   ·obtain ⟨x,x1,x2⟩:=m2 j c hc
    exact (Zuv hr 4 x2 (kr j x x1)).2.2 (k1 j x x1)
   ·obtain ⟨x,x1,x2⟩:=m2 j _ hc
    exact absurd rfl ((Zuv hr 4 x2 (kr j x x1)).2.1 k r)
   ·obtain ⟨x,x1,x2⟩:=m2 j c hc
    exact (Zuv hr 4 x2 (kr j x x1)).1
 ·obtain ⟨h1,h2,_⟩:=Zuv hr 4 h hv
  exact ⟨h1,h2⟩
theorem Z3I (hr:RW W0 Γ w hp){v v':AV}{cv:Value}(h:frz bs hp v=some v')(hv:Rep Γ w v cv)(ho:OwnAt Γ w .res v cv):Rep (fun b=>TA bs (Γ b)) w v' cv∧OwnAt (fun b=>TA bs (Γ b)) w .res v' cv:=by
 have hf:U1 Γ w (fun b=>TA bs (Γ b)) w:=fun _ _ _ h1 h2=>⟨ZeM h1,h2⟩
 unfold frz at h
 split at h
 ·rename_i vs
  obtain ⟨vs',h1,rfl⟩:=Option.map_eq_some_iff.1 h
  obtain ⟨m1,m2⟩:=ZlW h1
  cases hv with
  | tup _ u hs kr =>
   refine ⟨.tup vs' u (by rw [hs,m1]) fun j c hc=>?_,.of_ne (by simp)⟩
   obtain ⟨x,x1,x2⟩:=m2 j c hc
   exact (Zxr hr x2 (kr j x x1)).1
 ·obtain rfl:=Option.some.inj h
  exact ⟨hv.noId hf rfl,ho.fix hf fun b n hb=>⟨by simp [hb,TA],rfl⟩⟩
 ·obtain ⟨h1,h2⟩:=Zxr hr h hv
  exact ⟨h1,.of_ne h2⟩
theorem ZrL {x:AV}{cv:Value}(hx:x.under1 bs=true)(hv:Rep Γ w x cv):Rep (fun b=>TA bs (Γ b)) w x cv:=by
 have hf:U1 Γ w (fun b=>TA bs (Γ b)) w:=fun _ _ _ h1 h2=>⟨ZeM h1,h2⟩
 have hown:∀ b g,Γ b=.own g→g < bs→TA bs (Γ b)=.own g:=fun b g h hg=>by simp [h,TA,hg]
 unfold AV.under1 at hx
 split at hx
 ·cases hv with
  | arr _ _ _ _ cap b hb hc=>exact .arr _ _ _ _ cap b (hown b _ hb (by simpa using hx)) hc
 ·cases hv with
  | ptr _ _ b hb=>exact .ptr _ _ b (hown b _ hb (by simpa using hx))
 ·cases hv with
  | map _ b hb=>exact .map _ b (hown b _ hb (by simpa using hx))
 ·exact hv.noId hf hx
theorem Z3A {x:AV}{cv:Value}(hx:x.under bs=true)(hv:Rep Γ w x cv):Rep (fun b=>TA bs (Γ b)) w x cv:=by
 unfold AV.under at hx
 split at hx
 ·simp only [Bool.and_eq_true,List.all_eq_true] at hx
  cases hv with
  | fn f a cs u v hs1 hr1 hs hr=>exact .fn _ _ _ u v hs1 (fun j c hc=>ZrL (hx.1 c (List.mem_of_getElem? hc)) (hr1 j c hc)) hs (fun j c hc=>ZrL (hx.2 c (List.mem_of_getElem? hc)) (hr j c hc))
 ·exact ZrL hx hv
theorem Zq0 {s:Z7}{Γ0:QS}{w0:World}{hp0:List Z5}{v:AV}{cv:Value}{v':AV}{hp':List Z5}{e':Eff}(h0:RW W0 Γ0 w0 hp0)(hbs:s.bs=hp0.length)(hle:s.bs≤s.hp.length)(base:∀ b n g i,Γ0 b=.list n (.cell g i)→g < s.bs)
  (hr:RW W0 Γ w s.hp) (hfr:Frame Γ0 w0 Γ w s.ef) (hbk:∀ b g,Γ b=.own g→g < s.bs→Γ0 b=.own g) (hv:Rep Γ w v cv) (ho:OwnAt Γ w .res v cv) {keep:Bool} (h:(if keep then (v.nm,s.hp,s.ef) else finish v s hp0)=(v',hp',e')) :
  ∃ Γ',RW W0 Γ' w hp'∧Rep Γ' w v' cv∧OwnAt Γ' w .res v' cv∧Frame Γ0 w0 Γ' w e'∧hp0.length≤hp'.length∧∀ b g,Γ' b=.own g→g < hp0.length→Γ0 b=.own g:=by
 have hf:U1 Γ w (fun b=>TA s.bs (Γ b)) w:=fun _ _ _ h1 h2=>⟨ZeM h1,h2⟩
 have asis:(v.nm,s.hp,s.ef)=(v',hp',e')→∃ Γ',RW W0 Γ' w hp'∧Rep Γ' w v' cv∧OwnAt Γ' w .res v' cv∧Frame Γ0 w0 Γ' w e'∧hp0.length≤hp'.length∧∀ b g,Γ' b=.own g→g < hp0.length→Γ0 b=.own g:=by
  intro e
  cases e
  exact ⟨Γ,hr,hv.nm,.of_ne fun _ _=>ZeV,hfr,by omega,fun b g hb hl=>hbk b g hb (by omega)⟩
 have base1:∀ b g,Γ0 b=.own g→g < s.bs:=fun b g hb=>by rw [hbs]; exact h0.lt b g hb
 have same0:∀ b,b < w0.heap.size→Kept s.ef (Γ0 b)→TA s.bs (Γ b)=Γ0 b∧w.heap[b]? = w0.heap[b]?:=fun b hb hk=>by
  obtain ⟨e1,e2⟩:=hfr.keep b hb hk
  refine ⟨?_,e2⟩
  rw [e1]
  cases hg:Γ0 b with
  | imm=>rfl
  | own g=>simp [TA,base1 b g hg]
  | list n l =>
   cases l with
   | cell g i=>simp [TA,base b n g i hg]
   | _=>rfl
 have fr:Frame Γ0 w0 (fun b=>TA s.bs (Γ b)) w s.ef :=
  ⟨hfr.os,hfr.tape,hfr.output,hfr.size,hfr.fix.trans hf,fun b g hb=>by simp [hfr.own b g hb,TA,base1 b g hb],same0⟩
 have inj':∀ b b' g,TA s.bs (Γ b)=.own g→TA s.bs (Γ b')=.own g→b=b':=fun b b' g h1 h2=>hr.inj b b' g (Nz h1).1 (Nz h2).1
 have imm':∀ b,Γ b=.imm→TA s.bs (Γ b)=.imm:=fun b hb=>by rw [hb]; rfl
 split at h
 ·exact asis h
 unfold finish at h
 split at h
 case h_2=>exact asis h
 rename_i u hu
 obtain ⟨r1,r2⟩:=Z3I hr hu hv ho
 split at h
 ·rename_i he
  cases h
  rw [he] at fr
  refine ⟨_,⟨fun g o hg=>?_,inj',fun b hb=>imm' b (hr.fresh b hb),fun b g hb=>by rw [← hbs]; exact (Nz hb).2,hr.old,fun b hb=>imm' b (hr.oldImm b hb),fun g hg b hb=>h0.dead g hg b (hbk b g (Nz hb).1 (Nz hb).2)⟩,r1,r2,fr,Nat.le_refl _,fun b g hb hl=>hbk b g (Nz hb).1 (Nz hb).2⟩
  refine (h0.objs g o hg).step (X := fun b=>¬ Kept none (Γ0 b)) ⟨fr.os,fr.tape,fr.output,fr.size,fun b hb hx=>fr.keep b hb (Classical.not_not.1 hx),fr.fix,fr.own⟩ h0.fresh (fun b hx e=>hx ?_) (fun b n i hx e=>hx ?_)
  ·rw [e]; exact fun _ _ e=>by cases e
  ·rw [e]; exact fun _ _ e=>by cases e
 ·rename_i e he
  split at h
  ·rename_i hall
   cases h
   rw [he] at fr
   have hlen:(s.hp.take s.bs).length=s.bs:=by simp; omega
   refine ⟨_,⟨fun g o hg=>?_,inj',fun b hb=>imm' b (hr.fresh b hb),fun b g hb=>by rw [hlen]; exact (Nz hb).2,hr.old,fun b hb=>imm' b (hr.oldImm b hb),fun g hg b hb=>hr.dead g (by have hgl:=YV hg; rw [hlen] at hgl; rw [List.getElem?_take,if_pos hgl] at hg; exact hg) b (Nz hb).1⟩,r1,r2,fr,by omega,fun b g hb hl=>hbk b g (Nz hb).1 (Nz hb).2⟩
   have hgl:=YV hg
   rw [hlen] at hgl
   have hund:=List.all_eq_true.1 hall o (List.mem_of_getElem? hg)
   rw [List.getElem?_take,if_pos hgl] at hg
   have:=hr.objs g o hg
   cases o with
   | dead=>trivial
   | cells cs t =>
    obtain ⟨b,C,h1,h2,h3,h4⟩:=this
    refine ⟨b,C,by simp [h1,TA,hgl],h2,h3,fun i c hc=>?_⟩
    obtain ⟨a1,a2,a3⟩:=h4 i c hc
    exact ⟨a1,Z3A (List.all_eq_true.1 hund c (List.mem_of_getElem? hc)) a2,a3.fix hf fun b n hb=>⟨by simp [hb,TA,hgl],rfl⟩⟩
   | map es =>
    obtain ⟨b,ms,clk,h1,h2,h3,h4⟩:=this
    exact ⟨b,ms,clk,by simp [h1,TA,hgl],h2,h3,h4⟩
   | iter l pos =>
    obtain ⟨b,h1,h2⟩:=this
    exact ⟨b,by simp [h1,TA,hgl],h2⟩
  ·exact asis h
end
end Go.Proofs.YtlmfmmclnboglaaGreat.Abs
end
section
namespace Go.Proofs.YtlmfmmclnboglaaGreat.Abs
open Go Go.RowKit
def Zcp (call:FuncId→List AV→List Z5→Option (AV×List Z5×Eff))(f:FuncId)(args:List AV)(hp:List Z5):Option (AV×List Z5×Eff) :=
 match call f args hp with
 | some (v,hp',none)=>match frz hp.length hp' v with
  | some v'=>some (v',hp,none)
  | none=>none
 | _=>none
theorem Z0o {call:FuncId→List AV→List Z5→Option (AV×List Z5×Eff)}:∀ f args hp v hp' e,Zcp call f args hp=some (v,hp',e)→hp'=hp∧e=none:=by
 intro f args hp v hp' e h
 unfold Zcp at h
 split at h <;> try (cases h; done)
 split at h <;> try (cases h; done)
 cases h
 exact ⟨rfl,rfl⟩
theorem ZpK {P:Program}{W0:World}{call:FuncId→List AV→List Z5→Option (AV×List Z5×Eff)}(hS:Uf P W0 call):Uf P W0 (Zcp call):=by
 intro f args hp v hp' e h Γ w xs hr ht hs hx
 unfold Zcp at h
 split at h <;> try (cases h; done)
 rename_i v0 hp0 hc
 split at h <;> try (cases h; done)
 rename_i v1 hf
 cases h
 refine (hS f args hp v0 hp0 none hc Γ w xs hr ht hs hx).mono fun cv w' ⟨Γ',r1,r2,r3,r4,r5⟩=>?_
 exact Zq0 (s := ⟨[],hp0,none,hp.length⟩) hr rfl r5.1 (fun b n g i hb=>ht.cell b n g i hb) r1 r4 r5.2 r2 r3 (keep := false) (by simp only [finish,hf]; rfl)
def Zam:Kind→Kind
 | .own _=>.list 0 .outer
 | .list n (.cell _ _)=>.list n .outer
 | k=>k
def ZaI:Kind→Bool
 | .own _=>true
 | .list _ (.cell _ _)=>true
 | _=>false
theorem Zvl {k:Kind}{o:Nat}(h:PW o k):PW o (Zam k):=by
 cases k with
 | imm=>trivial
 | own g=>exact h.elim
 | list n l=>cases l <;> exact h
theorem Zvm {k:Kind}{g:Nat}:Zam k≠.own g:=by
 cases k with
 | imm=>simp [Zam]
 | own g=>simp [Zam]
 | list n l=>cases l <;> simp [Zam]
theorem Zzm {k:Kind}(h:ZaI k=false):Zam k=k:=by
 cases k with
 | imm=>rfl
 | own g=>cases h
 | list n l=>cases l <;> first | rfl | cases h
theorem Zzl {k:Kind}(h:ZaI k=true):Kept none (Zam k):=by
 cases k with
 | imm=>cases h
 | own g=>trivial
 | list n l=>cases l <;> first | trivial | cases h
theorem ZwX {k:Kind}{o:Nat}(h:ZaI k=true)(hf:PW o (Zam k)):PW o k:=by
 cases k with
 | imm=>cases h
 | own g=>exact absurd hf (Nat.not_lt_zero _)
 | list n l=>cases l <;> first | exact hf | cases h
theorem Rep.bare {Γ Γ':QS}{w:World}{x:AV}{v:Value}(hf:U1 Γ w Γ' w)(h:Rep Γ w x v)(hb:x.bare=true):Rep Γ' w x v:=by
 cases h with
 | agg cells cv hs h1 hn hr =>
  refine .agg cells cv hs h1 hn fun j c hc=>(hr j c hc).noId hf ?_
  exact List.all_eq_true.1 hb c (List.mem_of_getElem? hc)
 | _=>exact Rep.noId hf (by constructor <;> assumption) hb
theorem Zvn {P:Program}{W0:World}{call:FuncId→List AV→List Z5→Option (AV×List Z5×Eff)}(hS:Uf P W0 call):Uf P W0 (Ku call):=by
 intro f args hp v hp' e h Γ w xs hr ht hs hx
 have hc:args.all AV.bare=true∧Zcp call f args []=some (v,[],none)∧hp'=hp∧e=none:=by
  unfold Ku at h
  split at h <;> try (cases h; done)
  rename_i hb
  split at h <;> try (cases h; done)
  rename_i v0 hp0 hc
  split at h <;> try (cases h; done)
  rename_i v1 hf
  cases h
  refine ⟨hb,?_,rfl,rfl⟩
  unfold Zcp
  rw [hc]
  simp only [List.length_nil]
  rw [hf]
 obtain ⟨hb,hc,rfl,rfl⟩:=hc
 have f1:U1 Γ w (fun b=>Zam (Γ b)) w:=fun _ _ _ h1 h2=>⟨Zvl h1,h2⟩
 have hr1:RW W0 (fun b=>Zam (Γ b)) w []:=⟨fun g o hg=>by simp at hg,fun b b' g hb=>absurd hb Zvm,fun b hb=>by simp [hr.fresh b hb,Zam],fun b g hb=>absurd hb Zvm,hr.old,fun b hb=>by simp [hr.oldImm b hb,Zam],fun g hg=>by simp at hg⟩
 have ht1:Tidy (fun b=>Zam (Γ b)) 0:=by
  refine ⟨fun b m h=>?_,fun b m j h=>?_,fun b m g i h=>?_⟩
  ·have:=ht.res b m
   cases hg:Γ b with
   | imm=>simp [hg,Zam] at h
   | own g=>simp [hg,Zam] at h
   | list n l=>cases l <;> simp [hg,Zam] at h this <;> omega
  ·have:=ht.arg b m j
   cases hg:Γ b with
   | imm=>simp [hg,Zam] at h
   | own g=>simp [hg,Zam] at h
   | list n l=>cases l <;> simp [hg,Zam] at h this <;> omega
  ·cases hg:Γ b with
   | imm=>simp [hg,Zam] at h
   | own g=>simp [hg,Zam] at h
   | list n l=>cases l <;> simp [hg,Zam] at h
 refine (ZpK hS f args [] v [] none hc (fun b=>Zam (Γ b)) w xs hr1 ht1 hs fun j x hj=>?_).mono fun cv w' ⟨Γ',r1,r2,r3,r4,r5⟩=>?_
 ·obtain ⟨q1,q2⟩:=hx j x hj
  have hbx:=List.all_eq_true.1 hb x (List.mem_of_getElem? hj)
  refine ⟨q1.bare f1 hbx,fun k rows e=>?_⟩
  rcases q2 k rows e with h | ⟨b,cap,e,cur,h1,h2,h3,h4,h5,h6,h7,h8⟩
  ·exact .inl h
  ·exact .inr ⟨b,cap,e,cur,h1,by simp [h2,Zam],h3,h4,h5,h6,h7,fun i j r c hi hj=>⟨(h8 i j r c hi hj).1,(h8 i j r c hi hj).2.noId f1 (h8 i j r c hi hj).1⟩⟩
 ·have lt:∀ b,Γ b≠.imm→b < w.heap.size:=fun b hb=>by
   rcases Nat.lt_or_ge b w.heap.size with h' | h'
   ·exact h'
   ·exact absurd (hr.fresh b h') hb
  have lost:∀ b,ZaI (Γ b)=true→Γ' b=Zam (Γ b)∧w'.heap[b]? = w.heap[b]?:=fun b hb=>r4.keep b (lt b fun e=>by rw [e] at hb; cases hb) (Zzl hb)
  let Γ2:QS:=fun b=>if ZaI (Γ b)=true then Γ b else Γ' b
  have g1:∀ b,ZaI (Γ b)=true→Γ2 b=Γ b:=fun b hb=>if_pos hb
  have g2:∀ b,¬ ZaI (Γ b)=true→Γ2 b=Γ' b:=fun b hb=>if_neg hb
  have fix:U1 Γ w Γ2 w':=fun b o y h1 h2=>by
   obtain ⟨k1,k2⟩:=r4.fix b o y (Zvl h1) h2
   refine ⟨?_,k2⟩
   unfold Zgs
   by_cases hb:ZaI (Γ b)=true
   ·rw [g1 b hb]; exact h1
   ·rw [g2 b hb]; exact k1
  have own:GU Γ Γ2:=fun b g hb=>by rw [g1 b (by rw [hb]; rfl)]; exact hb
  have ownI:∀ b g,Γ2 b=.own g→Γ b=.own g:=fun b g hb=>by
   by_cases hl:ZaI (Γ b)=true
   ·rw [g1 b hl] at hb; exact hb
   ·rw [g2 b hl] at hb; exact absurd (r1.lt b g hb) (Nat.not_lt_zero _)
  have fix2:U1 Γ' w' Γ2 w':=fun b o y h1 h2=>by
   refine ⟨?_,h2⟩
   unfold Zgs at h1 ⊢
   by_cases hb:ZaI (Γ b)=true
   ·rw [g1 b hb]
    rw [(lost b hb).1] at h1
    exact ZwX hb h1
   ·rw [g2 b hb]; exact h1
  have own2:GU Γ' Γ2:=fun b g hb=>absurd (r1.lt b g hb) (Nat.not_lt_zero _)
  have keepL:∀ b,ZaI (Γ b)=true→Γ2 b=Γ b∧w'.heap[b]? = w.heap[b]?:=fun b hb=>⟨g1 b hb,(lost b hb).2⟩
  have imm2:∀ b,Γ' b=.imm→ZaI (Γ b)=false→Γ2 b=.imm:=fun b h1 h2=>by rw [g2 b (by rw [h2]; simp)]; exact h1
  refine ⟨Γ2,⟨fun g o hg=>?_,fun b b' g h1 h2=>hr.inj b b' g (ownI b g h1) (ownI b' g h2),fun b hb=>?_,fun b g hb=>hr.lt b g (ownI b g hb),r1.old,fun b hb=>?_,fun g hg b hb=>hr.dead g hg b (ownI b g hb)⟩,r2.mono fix2 own2,r3.mono fix2 own2 fun b n hb=>⟨?_,rfl⟩,
   ⟨r4.os,r4.tape,r4.output,r4.size,fix,own,fun b hb hk=>?_⟩,Nat.le_refl _,fun b g hb _=>ownI b g hb⟩
  ·have hold:=hr.objs g o hg
   cases o with
   | dead=>trivial
   | cells cs t =>
    obtain ⟨b,C,h1,h2,h3,h4⟩:=hold
    obtain ⟨k1,k2⟩:=keepL b (by rw [h1]; rfl)
    refine ⟨b,C,k1.trans h1,k2.trans h2,h3,fun i c hc=>?_⟩
    obtain ⟨a1,a2,a3⟩:=h4 i c hc
    refine ⟨a1,a2.mono fix own,a3.mono fix own fun b n hb=>?_⟩
    obtain ⟨k1,k2⟩:=keepL b (by rw [hb]; rfl)
    exact ⟨k1.trans hb,k2⟩
   | map es =>
    obtain ⟨b,ms,clk,h1,h2,h3,h4⟩:=hold
    obtain ⟨k1,k2⟩:=keepL b (by rw [h1]; rfl)
    exact ⟨b,ms,clk,k1.trans h1,k2.trans h2,h3,h4⟩
   | iter l pos =>
    obtain ⟨b,h1,h2⟩:=hold
    obtain ⟨k1,k2⟩:=keepL b (by rw [h1]; rfl)
    exact ⟨b,k1.trans h1,k2.trans h2⟩
  ·refine imm2 b (r1.fresh b hb) ?_
   rw [hr.fresh b (Nat.le_trans r4.size hb)]; rfl
  ·refine imm2 b (r1.oldImm b hb) ?_
   rw [hr.oldImm b hb]; rfl
  ·by_cases hl:ZaI (Γ b)=true
   ·have:=(lost b hl).1
    rw [hb] at this
    cases hg:Γ b with
    | imm=>simp [hg,Zam] at this
    | own g=>simp [hg,Zam] at this
    | list n l=>cases l <;> simp [hg,Zam] at this <;> (rw [hg] at hl; cases hl)
   ·rw [g2 b hl]; exact hb
  ·by_cases hl:ZaI (Γ b)=true
   ·exact keepL b hl
   ·have hsame:=Zzm (by simpa using hl:ZaI (Γ b)=false)
    obtain ⟨k1,k2⟩:=r4.keep b hb (by show Kept none (Zam (Γ b)); rw [hsame]; exact hk)
    exact ⟨by rw [g2 b hl,k1]; exact hsame,k2⟩
def Z6b:AV→Bool
 | .own _ r=>r.all fun l=>l.all AV.flat1
 | v=>v.flat
def Zxs (call:FuncId→List AV→List Z5→Option (AV×List Z5×Eff))(f:FuncId)(args:List AV)(hp:List Z5):Option (AV×List Z5×Eff) :=
 match args.mapM (frz 0 hp) with
 | some as=>match call f as [] with
  | some (v,hp',none)=>match frz 0 hp' v with
   | some v'=>if Z6b v' then some (v',hp,none) else none
   | none=>none
  | _=>none
 | none=>none
theorem Ztt {k:Kind}{g:Nat}:TA 0 k≠.own g:=fun h=>absurd (Nz h).2 (Nat.not_lt_zero _)
theorem ZpZ {k:Kind}(h:ZaI k=false):TA 0 k=k:=by
 cases k with
 | imm=>rfl
 | own g=>cases h
 | list n l=>cases l <;> first | rfl | cases h
theorem Zk2 {k:Kind}(h:ZaI k=true):TA 0 k=.imm:=by
 cases k with
 | imm=>cases h
 | own g=>rfl
 | list n l=>cases l <;> first | rfl | cases h
theorem Z2G {P:Program}{W0:World}{call:FuncId→List AV→List Z5→Option (AV×List Z5×Eff)}(hS:Uf P W0 call):Uf P W0 (Zxs call):=by
 intro f args hp v hp' e h Γ w xs hr ht hs hx
 unfold Zxs at h
 split at h <;> try (cases h; done)
 rename_i as hm
 have hc:Zcp call f as []=some (v,[],none)∧Z6b v=true∧hp'=hp∧e=none:=by
  split at h <;> try (cases h; done)
  rename_i v0 hp0 hc
  split at h <;> try (cases h; done)
  rename_i v1 hf
  split at h <;> try (cases h; done)
  rename_i hfree
  cases h
  refine ⟨?_,hfree,rfl,rfl⟩
  unfold Zcp
  rw [hc]
  simp only [List.length_nil]
  rw [hf]
 clear h
 obtain ⟨hc,hfree,rfl,rfl⟩:=hc
 obtain ⟨m1,m2⟩:=ZlW hm
 have f1:U1 Γ w (fun b=>TA 0 (Γ b)) w:=fun _ _ _ h1 h2=>⟨ZeM h1,h2⟩
 have hr1:RW W0 (fun b=>TA 0 (Γ b)) w []:=⟨fun g o hg=>by simp at hg,fun b b' g hb=>absurd hb Ztt,fun b hb=>by simp [hr.fresh b hb,TA],fun b g hb=>absurd hb Ztt,hr.old,fun b hb=>by simp [hr.oldImm b hb,TA],fun g hg=>by simp at hg⟩
 have keepL:∀ k m l,TA 0 k=.list m l→k=.list m l:=fun k m l h=>by
  cases hl:ZaI k with
  | true=>rw [Zk2 hl] at h; cases h
  | false=>rw [ZpZ hl] at h; exact h
 have ht1:Tidy (fun b=>TA 0 (Γ b)) 0:=by
  refine ⟨fun b m h=>ht.res b m (keepL _ _ _ h),fun b m j h=>ht.arg b m j (keepL _ _ _ h),fun b m g i h=>?_⟩
  have:=keepL _ _ _ h
  rw [this] at h
  cases h
 refine (ZpK hS f as [] v [] none hc (fun b=>TA 0 (Γ b)) w xs hr1 ht1 (by rw [hs,m1]) fun j x hj=>?_).mono fun cv w' ⟨Γ',r1,r2,r3,r4,r5⟩=>?_
 ·obtain ⟨y,y1,y2⟩:=m2 j x hj
  obtain ⟨q1,q2⟩:=hx j y y1
  have other:ZhZ 0 hp' y=some x→Rep (fun b=>TA 0 (Γ b)) w x (xs.getD j Go.undef)∧OwnAt (fun b=>TA 0 (Γ b)) w (.slot j) x (xs.getD j Go.undef):=fun h=>by
   obtain ⟨h1,h2⟩:=Zxr hr h q1
   exact ⟨h1,.of_ne h2⟩
  cases y with
  | own k r =>
   have:x=.own k r:=(Option.some.inj y2).symm
   subst this
   exact ⟨q1.noId f1 rfl,q2.fix f1 fun b n hb=>⟨by simp [hb,TA],rfl⟩⟩
  | tup vs =>
   obtain ⟨h1,h2⟩:=Z3I hr y2 q1 (.of_ne (by simp))
   obtain ⟨vs',_,e⟩:=Option.map_eq_some_iff.1 (show (vs.mapM (ZhZ 0 hp')).map AV.tup=some x from y2)
   subst e
   exact ⟨h1,.of_ne (by simp)⟩
  | _=>exact other y2
 ·have lt:∀ b,Γ b≠.imm→b < w.heap.size:=fun b hb=>by
   rcases Nat.lt_or_ge b w.heap.size with h' | h'
   ·exact h'
   ·exact absurd (hr.fresh b h') hb
  have lost:∀ b,ZaI (Γ b)=true→Γ' b=.imm∧w'.heap[b]? = w.heap[b]?:=fun b hb=>by
   obtain ⟨k1,k2⟩:=r4.keep b (lt b fun e=>by rw [e] at hb; cases hb) (by show Kept none (TA 0 (Γ b)); rw [Zk2 hb]; trivial)
   exact ⟨k1.trans (Zk2 hb),k2⟩
  let Γ2:QS:=fun b=>if ZaI (Γ b)=true then Γ b else Γ' b
  have g1:∀ b,ZaI (Γ b)=true→Γ2 b=Γ b:=fun b hb=>if_pos hb
  have g2:∀ b,¬ ZaI (Γ b)=true→Γ2 b=Γ' b:=fun b hb=>if_neg hb
  have fix:U1 Γ w Γ2 w':=fun b o y h1 h2=>by
   obtain ⟨k1,k2⟩:=r4.fix b o y (ZeM h1) h2
   refine ⟨?_,k2⟩
   unfold Zgs
   by_cases hb:ZaI (Γ b)=true
   ·rw [g1 b hb]; exact h1
   ·rw [g2 b hb]; exact k1
  have own:GU Γ Γ2:=fun b g hb=>by rw [g1 b (by rw [hb]; rfl)]; exact hb
  have ownI:∀ b g,Γ2 b=.own g→Γ b=.own g:=fun b g hb=>by
   by_cases hl:ZaI (Γ b)=true
   ·rw [g1 b hl] at hb; exact hb
   ·rw [g2 b hl] at hb; exact absurd (r1.lt b g hb) (Nat.not_lt_zero _)
  have keepO:∀ b,ZaI (Γ b)=true→Γ2 b=Γ b∧w'.heap[b]? = w.heap[b]?:=fun b hb=>⟨g1 b hb,(lost b hb).2⟩
  have imm2:∀ b,Γ' b=.imm→ZaI (Γ b)=false→Γ2 b=.imm:=fun b h1 h2=>by rw [g2 b (by rw [h2]; simp)]; exact h1
  have resOwn:OwnAt Γ2 w' .res v cv:=fun k rows e=>by
   subst e
   rcases r3 k rows rfl with h | ⟨b,cap,e,cur,h1,h2,h3,h4,h5,h6,h7,h8⟩
   ·exact .inl h
   ·refine .inr ⟨b,cap,e,cur,h1,?_,h3,h4,h5,h6,h7,fun i j r c hi hj=>⟨(h8 i j r c hi hj).1,ZlS (h8 i j r c hi hj).2 ?_⟩⟩
    ·rw [g2 b fun hl=>by rw [(lost b hl).1] at h2; cases h2]; exact h2
    ·have:=List.all_eq_true.1 (show (rows.all fun l=>l.all AV.flat1)=true from hfree) r (List.mem_of_getElem? hi)
     exact List.all_eq_true.1 this c (List.mem_of_getElem? hj)
  have resRep:Rep Γ2 w' v cv:=by
   cases v with
   | own k rows=>exact resOwn.rep
   | _=>exact Zyj r2 hfree
  refine ⟨Γ2,⟨fun g o hg=>?_,fun b b' g h1 h2=>hr.inj b b' g (ownI b g h1) (ownI b' g h2),fun b hb=>?_,fun b g hb=>hr.lt b g (ownI b g hb),r1.old,fun b hb=>?_,fun g hg b hb=>hr.dead g hg b (ownI b g hb)⟩,resRep,resOwn,
   ⟨r4.os,r4.tape,r4.output,r4.size,fix,own,fun b hb hk=>?_⟩,Nat.le_refl _,fun b g hb _=>ownI b g hb⟩
  ·have hold:=hr.objs g o hg
   cases o with
   | dead=>trivial
   | cells cs t =>
    obtain ⟨b,C,h1,h2,h3,h4⟩:=hold
    obtain ⟨k1,k2⟩:=keepO b (by rw [h1]; rfl)
    refine ⟨b,C,k1.trans h1,k2.trans h2,h3,fun i c hc=>?_⟩
    obtain ⟨a1,a2,a3⟩:=h4 i c hc
    refine ⟨a1,a2.mono fix own,a3.mono fix own fun b n hb=>?_⟩
    obtain ⟨k1,k2⟩:=keepO b (by rw [hb]; rfl)
    exact ⟨k1.trans hb,k2⟩
   | map es =>
    obtain ⟨b,ms,clk,h1,h2,h3,h4⟩:=hold
    obtain ⟨k1,k2⟩:=keepO b (by rw [h1]; rfl)
    exact ⟨b,ms,clk,k1.trans h1,k2.trans h2,h3,h4⟩
   | iter l pos =>
    obtain ⟨b,h1,h2⟩:=hold
    obtain ⟨k1,k2⟩:=keepO b (by rw [h1]; rfl)
    exact ⟨b,k1.trans h1,k2.trans h2⟩
  ·refine imm2 b (r1.fresh b hb) ?_
   rw [hr.fresh b (Nat.le_trans r4.size hb)]; rfl
  ·refine imm2 b (r1.oldImm b hb) ?_
   rw [hr.oldImm b hb]; rfl
  ·by_cases hl:ZaI (Γ b)=true
   ·exact keepO b hl
   ·have hsame:=ZpZ (by simpa using hl:ZaI (Γ b)=false)
    obtain ⟨k1,k2⟩:=r4.keep b hb (by show Kept none (TA 0 (Γ b)); rw [hsame]; exact hk)
    exact ⟨by rw [g2 b hl,k1]; exact hsame,k2⟩
def Zxy (S:List Nat)(call:FuncId→List AV→List Z5→Option (AV×List Z5×Eff))(f:FuncId)(args:List AV)(hp:List Z5):Option (AV×List Z5×Eff) :=
 match S.elem f with
 | true=>Zxs call f args hp
 | false=>call f args hp
theorem Z2R {P:Program}{W0:World}{call:FuncId→List AV→List Z5→Option (AV×List Z5×Eff)}(S:List Nat)(hS:Uf P W0 call):Uf P W0 (Zxy S call):=by
 intro f args hp v hp' e h
 unfold Zxy at h
 split at h
 ·exact Z2G hS f args hp v hp' e h
 ·exact hS f args hp v hp' e h
end Go.Proofs.YtlmfmmclnboglaaGreat.Abs
end
section
namespace Go.Proofs.YtlmfmmclnboglaaGreat.Abs
open Go Go.RowKit
section
variable {G:Nat→Option (List AV)}{call:FuncId→List AV→List Z5→Option (AV×List Z5×Eff)}
theorem Z08 {s s':Z7}{ao:AOp}{v:AV}(h:ZF G call s ao=some (v,s')):s'.bs=s.bs:=by
 cases ao <;> simp only [ZF] at h <;> (repeat' split at h) <;> first
  | (cases h; done)
  | (obtain ⟨_,rfl⟩:=IK h; rfl)
  | (cases h; rfl)
  | (obtain ⟨x,_,e⟩:=Option.map_eq_some_iff.1 h; cases e; rfl)
theorem Z4k (s:Z7)(d:Option Nat)(v:AV):(s.put d v).bs=s.bs:=by cases d <;> rfl
theorem Zbp:∀ {l:List Jq} {s s':Z7},Jj G call l s=some s'→s'.bs=s.bs
 | [],s,s',h=>by cases h; rfl
 | o :: l,s,s',h=>by
  simp only [Jj] at h
  split at h <;> try (cases h; done)
  rename_i s1 h1
  rw [Zbp h]
  simp only [QA] at h1
  split at h1 <;> first | (cases h1; done) | skip
  ·split at h1 <;> first | (cases h1; done) | skip
   rename_i v s2 h2
   obtain rfl:=Option.some.inj h1
   rw [Z4k,Z08 h2]
  ·obtain rfl:=Option.some.inj h1
   rw [Z4k]
theorem Zxv {f:Z7→Option (Zg9×Z7)}(hf:∀ {s:Z7} {r:Zg9×Z7},f s=some r→r.2.bs=s.bs):∀ (n:Nat) {s:Z7} {r:Zg9×Z7},iter f n s=some r→r.2.bs=s.bs
 | 0,_,_,h=>by cases h
 | n + 1,s,r,h=>by
  simp only [iter] at h
  split at h
  ·rename_i s1 h1
   rw [Zxv hf n h]
   exact hf h1
  ·exact hf h
theorem Zxo (L:Nat):∀ {c:Zr} {s:Z7} {r:Zg9×Z7},XV G call L c s=some r→r.2.bs=s.bs:=by
 intro c
 induction c with
 | skip=>intro s r h; cases h; rfl
 | region draw ops =>
  intro s r h
  cases draw with
  | false =>
   simp only [XV] at h
   obtain ⟨s1,h1,rfl⟩:=Option.map_eq_some_iff.1 h
   exact Zbp h1
  | true =>
   simp only [XV] at h
   obtain ⟨s1,h1,rfl⟩:=Option.map_eq_some_iff.1 h
   exact Zbp h1
 | regionB ops =>
  intro s r h
  simp only [XV] at h
  obtain ⟨s1,h1,rfl⟩:=Option.map_eq_some_iff.1 h
  exact Zbp h1
 | seq x y ihx ihy =>
  intro s r h
  simp only [XV] at h
  split at h
  ·rename_i s1 h1
   rw [ihy h]; exact ihx h1
  ·exact ihx h
 | cond c x y ihx ihy =>
  intro s r h
  simp only [XV] at h
  split at h <;> try (cases h; done)
  ·exact ihx h
  ·exact ihy h
 | block id c ih =>
  intro s r h
  simp only [XV] at h
  split at h
  ·rename_i i s1 h1
   have:=ih h1
   split at h <;> (obtain rfl:=Option.some.inj h; exact this)
  ·exact ih h
 | loop c ih =>
  intro s r h
  simp only [XV] at h
  exact Zxv ih L h
 | scope c ih=>intro s r h; simp only [XV] at h; exact ih h
 | exit id=>intro s r h; cases h; rfl
 | ret=>intro s r h; cases h; rfl
 | bad=>intro s r h; cases h
end
structure Zzi (P:Program)(W0:World)(C:Cfg):Prop where
 mixed:P.follows .mixedOrders=true
 globals:GOk C.G W0
 table:∀ f af,C.T f=some af→∃ fn takes,P.funcs[f]? = some fn∧(fn.name == "runtime.NumGoroutine")=false∧cFn P takes fn=some af
 oracle:Uf P W0 C.O
theorem ZlP {P:Program}{f:FuncId}{fn:Func}{c:Code}(hf:P.funcs[f]? = some fn)(hn:(fn.name == "runtime.NumGoroutine")=false)(hb:fn.body=some c)(xs:Array Value)(w:World):(callFunc f xs).run P w=.ok (.enter f xs) w:=by
 have hn':¬ fn.name = "runtime.NumGoroutine" := by simpa using hn
 simp [callFunc,program,hf,hn',hb,Sem.run]
theorem Zqu {P:Program}{W0:World}{C:Cfg}(h:Zzi P W0 C):∀ n,Uf P W0 (Za C n):=by
 intro n
 induction n with
 | zero=>intro f args hp v hp' e hc; cases hc
 | succ n ih =>
  intro f args hp v hp' e hc Γ w xs hr ht hs hx
  simp only [Za] at hc
  split at hc
  case h_2=>exact h.oracle f args hp v hp' e hc Γ w xs hr ht hs hx
  rename_i af haf
  obtain ⟨fn,takes,hf,hname,hcf⟩:=h.table f af haf
  unfold cFn at hcf
  split at hcf <;> first | (cases hcf; done) | skip
  rename_i c rs hb hrs
  obtain ⟨ac,hac,rfl⟩:=Option.map_eq_some_iff.1 hcf
  split at hc
  ·cases hc
  ·rename_i x s hne hev
   split at hc <;> try (cases hc; done)
   rename_i u hu
   have hfin:=Option.some.inj hc
   refine ⟨ZlP hf hname hb xs w,?_⟩
   have hbs:s.bs=hp.length:=Zxo C.L hev
   have hI:Inv ⟨W0,Γ,w⟩ ⟨args ++ List.replicate (fn.ntmps - args.length) .undef,hp,none,hp.length⟩ Γ { tmps := xs ++ Array.replicate (fn.ntmps - xs.size) Go.undef,defers := [] } w:=by
    have get:∀ (t:Nat) (y:AV),(args ++ List.replicate (fn.ntmps - args.length) AV.undef)[t]? = some y→(args[t]? = some y∧(xs ++ Array.replicate (fn.ntmps - xs.size) Go.undef).getD t Go.undef=xs.getD t Go.undef)∨(y=.undef∧(xs ++ Array.replicate (fn.ntmps - xs.size) Go.undef).getD t Go.undef=Go.undef):=by
     intro t y hy
     rw [List.getElem?_append] at hy
     split at hy
     ·rename_i hlt
      refine .inl ⟨hy,?_⟩
      rw [Array.getD_eq_getD_getElem?,Array.getD_eq_getD_getElem?,Array.getElem?_append_left (by omega)]
     ·rename_i hge
      have hm:=List.mem_of_getElem? hy
      have:=List.eq_of_mem_replicate hm
      refine .inr ⟨this,?_⟩
      have hlt:=YV hy
      simp only [List.length_replicate] at hlt
      rw [Array.getD_eq_getD_getElem?,Array.getElem?_append_right (by omega),Array.getElem?_replicate,if_pos (by omega)]
      rfl
    refine ⟨rfl,⟨by simp [hs],fun t y hy=>?_,fun t y hy=>?_⟩,hr,.refl _ _ _,fun b g hb=>hr.lt b g hb,fun b m g i hb=>ht.cell b m g i hb,Nat.le_refl _,fun _ _ hb _=>hb⟩
    ·rcases get t y hy with ⟨h1,h2⟩ | ⟨rfl,h2⟩
     ·rw [h2]; exact (hx t y h1).1
     ·rw [h2]; exact .undef
    ·rcases get t y hy with ⟨h1,h2⟩ | ⟨rfl,h2⟩
     ·rw [h2]; exact (hx t y h1).2
     ·exact .of_ne (by simp)
   have hw:=Z4G h.mixed h.globals ih (Zvn ih) C.L hac hev hI
   refine calls_of_wp hf hb (Go.wp_mono hw fun en a' w' he=>?_)
   obtain ⟨k1,Γ',i1⟩:=he
   have fin:a'.defers=[]∧∃ cv,(results fn a'.tmps).run P w'=.ok cv w'∧∃ v',Ending.returned cv=.returned v'∧∃ Γ',RW W0 Γ' w' hp'∧Rep Γ' w' v v'∧OwnAt Γ' w' .res v v'∧Frame Γ w Γ' w' e∧hp.length≤hp'.length∧∀ b g,Γ' b=.own g→g < hp.length→Γ b=.own g:=by
    obtain ⟨cv,Γ2,q1,q2,q3,q4,q5,q6⟩:=Z4r i1 hrs hu
    obtain ⟨Γ3,p1,p2,p3,p4,p5⟩:=Zq0 hr hbs (by rw [hbs]; have:=i1.le; simpa [hbs] using this) (fun b m g i hb=>by rw [hbs]; exact ht.cell b m g i hb) q2 q3 q6 q4 q5 hfin
    exact ⟨i1.defers,cv,q1,cv,rfl,Γ3,p1,p2,p3,p4,p5⟩
   cases x with
   | exit i=>exact (hne i rfl).elim
   | normal=>cases en <;> first | exact k1.elim | exact fin
   | ret=>cases en <;> first | exact k1.elim | exact fin
  ·cases hc
end Go.Proofs.YtlmfmmclnboglaaGreat.Abs
end
section
namespace Go.Proofs.YtlmfmmclnboglaaGreat.Abs
open Go Go.RowKit
def still:QS:=fun _=>.imm
theorem Zzc (W:World):RW W still W [] :=
 ⟨fun g o hg=>by simp at hg,fun b b' g h=>(by cases h),fun _ _=>rfl,fun b g h=>(by cases h),⟨rfl,rfl,rfl,Nat.le_refl _,fun _ _=>rfl⟩,fun _ _=>rfl,fun g hg=>by simp at hg⟩
theorem ZtS:Tidy still 0:=⟨fun _ _ h=>(by cases h),fun _ _ _ h=>(by cases h),fun _ _ _ _ h=>(by cases h)⟩
theorem Z6o {P:Program}{W:World}{C:Cfg}(h:Zzi P W C){n:Nat}{f:FuncId}{avs:List AV}{hp:List Z5}{e:Eff}(hev:Za C n f avs []=some (.bool true,hp,e)){args:Array Value}
  (hs:args.size=avs.length) (hr:∀ (j:Nat) (x:AV),avs[j]? = some x→Rep still W x (args.getD j Go.undef)∧∀ k r,x≠.own k r) :
  Calls P f args W fun e W'=>e=.returned (.bool true)∧Below W.heap.size W W':=by
 obtain ⟨_,hw⟩:=Zqu h n f avs [] _ _ _ hev still W args (Zzc W) ZtS hs fun j x hx=>⟨(hr j x hx).1,.of_ne (hr j x hx).2⟩
 refine hw.mono fun en W' ⟨cv,hv,Γ',r1,r2,_,r4,_⟩=>?_
 subst hv
 cases r2
 exact ⟨rfl,r4.os,r4.tape,r4.output,r4.size,fun b hb=>(r4.keep b hb trivial).2⟩
end Go.Proofs.YtlmfmmclnboglaaGreat.Abs
end
section
namespace Go.Proofs.YtlmfmmclnboglaaGreat.Abs
open Go Go.RowKit
def ZxQ (P:Program)(W0:World)(f:FuncId)(args:List AV)(v:AV):Prop :=
 (∀ k r,v≠.own k r)∧∀ (Γ:QS) (w:World) (xs:Array Value),Below W0.heap.size W0 w→(∀ b,w.heap.size≤b→Γ b=.imm)→xs.size=args.length→(∀ (j:Nat) (x:AV),args[j]? = some x→Rep Γ w x (xs.getD j Go.undef)) →
  Z45 P f xs w fun cv w'=>Below w.heap.size w w'∧Rep Γ w' v cv
theorem ZrB {P:Program}{W0:World}{O:FuncId→List AV→Option AV}(h:∀ f args v,O f args=some v→ZxQ P W0 f args v) :
  Uf P W0 fun f args hp=>(O f args).map fun v=>(v,hp,none):=by
 intro f args hp v hp' e ho Γ w xs hr _ hs hx
 obtain ⟨u,hu,e1⟩:=Option.map_eq_some_iff.1 ho
 cases e1
 obtain ⟨hown,hrun⟩:=h f args v hu
 refine (hrun Γ w xs hr.old hr.fresh hs fun j x hj=>(hx j x hj).1).mono fun cv w' ⟨hb,hv⟩=>?_
 have st:Step Γ w Γ w' fun _=>False:=⟨hb.os,hb.tape,hb.output,hb.size,fun b hbl _=>⟨rfl,hb.block b hbl⟩,fun b o v h1 h2=>⟨h1,(ZeF (hb.block b (lt_of_cell h2))).trans h2⟩,.refl _⟩
 obtain ⟨o1,o2⟩:=Ze3 hr.old hr.oldImm st fun _ hx=>hx.elim
 refine ⟨Γ,⟨fun g o hg=>(hr.objs g o hg).step st hr.fresh (fun _ hx=>hx.elim) (fun _ _ _ hx=>hx.elim),hr.inj,fun b hbl=>hr.fresh b (Nat.le_trans hb.size hbl),hr.lt,o1,o2,hr.dead⟩,hv,.of_ne hown,⟨hb.os,hb.tape,hb.output,hb.size,st.fix,.refl _,fun b hbl _=>⟨rfl,hb.block b hbl⟩⟩,Nat.le_refl _,fun _ _ hb _=>hb⟩
theorem Zvd {P:Program}{f:FuncId}{fn:Func}{c:Code}{xs:Array Value}{w:World}{R:Value→World→Prop}(hf:P.funcs[f]? = some fn)(hn:(fn.name == "runtime.NumGoroutine")=false)(hb:fn.body=some c)
  (h:Calls P f xs w fun e w'=>∃ v,e=.returned v∧R v w'):Z45 P f xs w R:=⟨ZlP hf hn hb xs w,h⟩
end Go.Proofs.YtlmfmmclnboglaaGreat.Abs
end
section
namespace Go.Proofs.YtlmfmmclnboglaaGreat.Abs
open Go
inductive KV where
 | raw (v:AV)
 | cln (v:AV)
def KV.val:KV→AV
 | .raw v=>v
 | .cln v=>v
def KV.rd:KV→AV
 | .raw v=>v.ro
 | .cln v=>v
abbrev Zi6 {α:Type}(b:Bool)(x y:α):α :=
 match b with
 | true=>x
 | false=>y
abbrev Env:=Nat→KV
def Env.set (e:Env)(t:Nat)(v:KV):Env:=fun u=>Zi6 (Nat.beq u t) v (e u)
def Env.put (e:Env)(d:Option Nat)(v:KV):Env :=
 match d with
 | some d=>e.set d v
 | none=>e
abbrev KR:=Option (AV×List Z5×Eff)
abbrev IE:=Env→List Z5→Eff→KR
abbrev rdK {α:Type}(x:Option α)(k:α→KR):KR :=
 match x with
 | some v=>k v
 | none=>none
def Zd {α:Type}(x:Option α)(k:α→KR):KR :=
 match x with
 | some v=>k v
 | none=>none
def TF {α β:Type}(x:Option (α×β))(k:α→β→KR):KR :=
 match x with
 | some (a,b)=>k a b
 | none=>none
def QV {α β γ:Type}(x:Option (α×β×γ))(k:α→β→γ→KR):KR :=
 match x with
 | some (a,b,c)=>k a b c
 | none=>none
def ifK (v:AV)(a b:KR):KR :=
 match v with
 | .bool true=>a
 | .bool false=>b
 | _=>none
def ZjE (want:Bool):AV→Option Bool
 | .bool b=>some (b == want)
 | .undef=>some false
 | _=>none
def ZjF (g:Option Bool)(x:KR)(hp:List Z5)(ef:Eff)(k:AV→List Z5→Eff→KR):KR :=
 match g with
 | some true=>QV x k
 | some false=>k .undef hp ef
 | none=>none
def Z3P (g:Option Bool)(a b:KR):KR :=
 match g with
 | some true=>a
 | some false=>b
 | none=>none
def VT (c:AV)(want:Bool)(x:KR)(other:Option AV)(hp:List Z5)(ef:Eff)(k:AV→List Z5→Eff→KR):KR :=
 match c with
 | .bool b=>match b == want with
  | true=>QV x k
  | false=>Zd other fun v=>k v hp ef
 | _=>none
def UK {α:Type}(x:α)(k:α→KR):KR:=k x
def Zd1 (bs:Nat)(ef:Eff)(g v:Nat):Eff:=if g < bs then Eff.or ef (some (g,v)) else ef
def Zf (bs:Nat)(ef:Eff):Eff→Eff
 | some (a,b)=>if a < bs then Eff.or ef (some (a,b)) else ef
 | none=>ef
def ZsQ (c a b:AV):Option AV :=
 match c with
 | .bool true=>some a
 | .bool false=>some b
 | _=>none
def MN (n:Nat)(v:AV):Option (List AV):=if v.cells.length=n∧v.laid=true then some v.cells else none
def ZoA (e:TypeId)(k:Nat)(vs:List AV)(hp:List Z5):Option (AV×List Z5) :=
 if vs.all (fun v=>v.cells.length == k && v.cells.all AV.noId1) then some (.own k (vs.map fun v=>v.cells.map AV.ro),hp)
 else if vs.all (fun v=>v.cells.length == k && v.laid) then some (.arr hp.length 0 vs.length k,hp ++ [.cells (vs.map AV.cells).flatten e]) else none
def Z6r (e:TypeId)(k:Nat)(vs:List AV)(hp:List Z5):Option (AV×List Z5) :=
 if vs.all (fun v=>v.cells.length == k && v.laid) then some (.arr hp.length 0 vs.length k,hp ++ [.cells (vs.map AV.cells).flatten e]) else none
def Z2N (bs:Nat)(p:AV)(hp:List Z5)(ef:Eff):Option (AV×List Z5×Eff) :=
 match p with
 | .ptr g o=>match hp[g]? with
  | some (.cells cs t)=>match cs[o]? with
   | some v=>some (v.up,hp.set g (.cells (cs.set o v.ro) t),Zd1 bs ef g 0)
   | none=>none
  | _=>none
 | _=>none
def stV (bs n:Nat)(p v:AV)(hp:List Z5)(ef:Eff):Option (List Z5×Eff) :=
 match p with
 | .ptr g o=>match hp[g]? with
  | some (.cells cs t)=>if v.cells.length=n∧o + n≤cs.length∧v.laid=true then some (hp.set g (.cells (splice cs o v.cells) t),Zd1 bs ef g 0) else none
  | _=>none
 | _=>none
def Zph (bs:Nat)(p v:AV)(hp:List Z5)(ef:Eff):Option (List Z5×Eff) :=
 match p with
 | .ptr g o=>match hp[g]? with
  | some (.cells cs t)=>if v.one=true∧o < cs.length then some (hp.set g (.cells (cs.set o v) t),Zd1 bs ef g 0) else none
  | _=>none
 | _=>none
def Zu2:AV→Option AV
 | .ref c=>some (.ref c)
 | .ptr g o=>some (.ptr g o)
 | .fn f a c=>some (.fn f a c)
 | _=>none
def Z2S (e:TypeId)(zero:List AV)(n:AV)(hp:List Z5):Option (AV×List Z5) :=
 match n with
 | .int _ n=>if 0≤n∧n≤4294967296 then some (.arr hp.length 0 n.toNat zero.length,hp ++ [.cells (List.flatten (List.replicate n.toNat zero)) e]) else none
 | _=>none
def Zwc (bs:Nat)(sh:KSh)(m k v:AV)(hp:List Z5)(ef:Eff):Option (List Z5×Eff) :=
 match m with
 | .map g=>match hp[g]? with
  | some (.map es)=>if Zdm sh k && v.flat1 then match update sh k v es with
    | some es'=>some (hp.set g (.map es'),Zd1 bs ef g 0)
    | none=>none
   else none
  | _=>none
 | _=>none
def Z4q (x:AV)(hp:List Z5):Option (AV×List Z5) :=
 match x with
 | .str b=>some (.ptr hp.length 0,hp ++ [.iter b 0])
 | _=>none
def Z6u (bs:Nat)(x:AV)(hp:List Z5)(ef:Eff):Option (AV×List Z5×Eff) :=
 match x with
 | .ptr g 0=>match hp[g]? with
  | some (.iter b pos)=>if pos < b.length then
    some (.tup [.bool true,.int .i64 pos,.int .i32 (Utf8.decode ⟨b.toArray⟩ pos).1],hp.set g (.iter b (pos + (Utf8.decode ⟨b.toArray⟩ pos).2)),Zd1 bs ef g 0)
   else some (.tup [.bool false],hp,ef)
  | _=>none
 | _=>none
def Dt (x:AV)(i:Nat):Option AV :=
 match x with
 | .tup vs=>(vs[i]?).map AV.ro
 | _=>none
def Z0b (k bytes:Nat)(s x:AV)(hp:List Z5):Option AV :=
 match s with
 | .own k' r=>match rowsOf hp x with
  | some (k'',r')=>if k=k'∧k=k''∧r'.all (·.all AV.noId1)∧(r.length + r'.length) * bytes≤140737488355328 then some (.own k (r ++ r')) else none
  | none=>none
 | _=>none
def Z5L (bytes:Nat)(s x:AV):Option AV :=
 match s,x with
 | .own k r,.str l=>if k=1∧(r.length + l.length) * bytes≤140737488355328 then some (.own 1 (r ++ l.map byteRow)) else none
 | _,_=>none
def Z5K (k bytes:Nat)(x:AV)(hp:List Z5):Option AV :=
 match rowsOf hp x with
 | some (k'',r')=>if k=k''∧r'.all (·.all AV.noId1)∧r'.length * bytes≤140737488355328 then some (.own k r') else none
 | none=>none
def copyV (bs k:Nat)(d x:AV)(hp:List Z5)(ef:Eff):Option (AV×List Z5×Eff) :=
 match d with
 | .arr g off len k''=>match rowsOf hp x,hp[g]? with
  | some (k',r),some (.cells cs t)=>if k=k'∧k=k''∧off + Nat.min r.length len * k≤cs.length∧((r.take (Nat.min r.length len)).flatten.map AV.ro).all AV.one=true then
    some (.int .i64 (Nat.min r.length len:Nat),hp.set g (.cells (splice cs off ((r.take (Nat.min r.length len)).flatten.map AV.ro)) t),Zd1 bs ef g 0) else none
  | _,_=>none
 | .lst _ []=>match rowsOf hp x with
  | some (k',_)=>if k=k' then some (.int .i64 0,hp,ef) else none
  | none=>none
 | _=>none
def Z6t:List AV→Option AV
 | .int .i64 n :: l=>(minL n l).map fun n=>.int .i64 n
 | _=>none
def Z3V:List AV→Option AV
 | .int .i64 n :: l=>(maxL n l).map fun n=>.int .i64 n
 | _=>none
def Uo (K:FuncId→List AV→List Z5→KR)(f:AV)(vs:List AV)(hp:List Z5):KR :=
 match f with
 | .fn f first caps=>K f (first.map AV.nm ++ vs ++ caps.map AV.nm) hp
 | _=>none
def ZaJ:List Nat→Nat→Bool
 | [],_=>true
 | u :: l,t=>Zi6 (Nat.beq u t) false (ZaJ l t)
def rm (d:Nat):List Nat→List Nat
 | []=>[]
 | u :: l=>Zi6 (Nat.beq u d) (rm d l) (u :: rm d l)
def rmO (d:Option Nat)(P:List Nat):List Nat :=
 match d with
 | some d=>rm d P
 | none=>P
def EL:AOp→Bool
 | .take _ | .stt .. | .app .. | .apps .. => true
 | .call _ args=>args.any fun
  | .inl _=>true
  | .inr _=>false
 | _=>false
def Px (N t:Nat)(want:Bool)(P:List Nat):List Nat→List Jq→Nat
 | _,[]=>0
 | ds,o :: l=>match o.guard,o.dst with
  | some (u,w),some d =>
   Zi6 (((Nat.beq u t && (w == want)) || !ZaJ ds u) && !Nat.beq d t && !ZaJ P d && !EL o.op && Nat.blt d N) (Px N t want P (d :: ds) l + 1) 0
  | _,_=>0
def inA (t:Nat)(w:Bool):List (Nat×Bool)→Bool
 | []=>false
 | (u,v) :: l=>Zi6 (Nat.beq u t && (v == w)) true (inA t w l)
section
variable (G:Nat→Option (List AV))(N bs:Nat)(P:List Nat)
def LP (e:Env):KX→Option AV
 | .tmp t=>Zi6 ((Nat.blt t N && ZaJ P t)) (some (e t).rd) (none)
 | .const v=>some v
 | .glob g=>(G g).map .ref
def ZjH (e:Env):List KX→Option (List AV)
 | []=>some []
 | x :: l=>match LP G N P e x with
  | some v=>match ZjH e l with
   | some vs=>some (v :: vs)
   | none=>none
  | none=>none
def Zpm (e:Env):Option KX→Option (Option AV)
 | none=>some none
 | some x=>match LP G N P e x with
  | some v=>some (some v)
  | none=>none
def mvK (e:Env)(x:KX)(k:KV→KR):KR :=
 match x with
 | .tmp t=>Zi6 ((Nat.blt t N && ZaJ P t)) (k (.cln (e t).rd)) none
 | .const v=>k (.raw v)
 | .glob g=>Zd (G g) fun c=>k (.cln (.ref c))
def ZtW:Env→List (Nat ⊕ KX)→Option (List AV×Env)
 | e,[]=>some ([],e)
 | e,.inl t :: l=>Zi6 ((Nat.blt t N && ZaJ P t)) (match ZtW (e.set t (.cln (e t).rd)) l with
  | some (vs,e')=>some ((e t).val :: vs,e')
  | none=>none) none
 | e,.inr x :: l=>match LP G N P e x with
  | some v=>match ZtW e l with
   | some (vs,e')=>some (v :: vs,e')
   | none=>none
  | none=>none
variable (K:FuncId→List AV→List Z5→KR)
def opK (e:Env)(hp:List Z5)(ef:Eff)(op:AOp)(k:KV→Env→List Z5→Eff→KR):KR :=
 match op with
 | .bad=>none
 | .mv x=>mvK G N P e x fun v=>k v e hp ef
 | .take t=>Zi6 ((Nat.blt t N && ZaJ P t)) (k (e t) (e.set t (.cln (e t).rd)) hp ef) none
 | .pick c a b=>rdK (LP G N P e c) fun c=>rdK (LP G N P e a) fun a=>rdK (LP G N P e b) fun b=>Zd (ZsQ c a b) fun v=>k (.raw v) e hp ef
 | .mk t cells=>k (.cln (.ptr hp.length 0)) e (hp ++ [.cells cells t]) ef
 | .box t n x=>rdK (LP G N P e x) fun v=>Zd (MN n v) fun cs=>k (.cln (.ptr hp.length 0)) e (hp ++ [.cells cs t]) ef
 | .build zero parts=>rdK (ZjH G N P e (parts.map (·.2.2))) fun vs=>Zd (fill zero ((parts.zip vs).map fun (p,v)=>(p.1,p.2.1,v.nm))) fun cs=>k (.cln (.agg cs)) e hp ef
 | .lit t n parts=>rdK (ZjH G N P e parts) fun vs=>TF (ZoA t n vs hp) fun v hp'=>k (.raw v) e hp' ef
 | .lita t n parts=>rdK (ZjH G N P e parts) fun vs=>TF (Z6r t n vs hp) fun v hp'=>k (.raw v) e hp' ef
 | .ldc p=>rdK (LP G N P e p) fun p=>Zd (Qn hp p) fun v=>k (.cln v) e hp ef
 | .lda n p=>rdK (LP G N P e p) fun p=>Zd (Zt hp n p) fun v=>k (.cln v) e hp ef
 | .ldt p=>rdK (LP G N P e p) fun p=>QV (Z2N bs p hp ef) fun v hp' ef'=>k (.raw v) e hp' ef'
 | .st n p x=>rdK (LP G N P e p) fun p=>rdK (LP G N P e x) fun v=>TF (stV bs n p v hp ef) fun hp' ef'=>k (.cln .undef) e hp' ef'
 | .stt p t=>rdK (LP G N P e p) fun p=>Zi6 ((Nat.blt t N && ZaJ P t)) (TF (Zph bs p (e t).val hp ef) (fun hp' ef'=>k (.cln .undef) (e.set t (.cln (e t).rd)) hp' ef')) none
 | .nilchk x=>rdK (LP G N P e x) fun x=>Zd (Zu2 x) fun v=>k (.cln v) e hp ef
 | .bin op sh x y=>rdK (LP G N P e x) fun a=>rdK (LP G N P e y) fun b=>Zd (Zc op sh a b) fun v=>k (.cln v) e hp ef
 | .un op x=>rdK (LP G N P e x) fun a=>Zd (Jy op a) fun v=>k (.cln v) e hp ef
 | .conv c x=>rdK (LP G N P e x) fun a=>Zd (Zau hp c a) fun v=>k (.cln v) e hp ef
 | .mkfn f first caps=>rdK (ZjH G N P e first) fun us=>rdK (ZjH G N P e caps) fun vs=>k (.cln (.fn f us vs)) e hp ef
 | .mkmap=>k (.cln (.map hp.length)) e (hp ++ [.map []]) ef
 | .mksl t zero n=>rdK (LP G N P e n) fun n=>TF (Z2S t zero n hp) fun v hp'=>k (.cln v) e hp' ef
 | .slice sh x lo hi=>rdK (LP G N P e x) fun x=>rdK (Zpm G N P e lo) fun lo=>rdK (Zpm G N P e hi) fun hi=>Zd (Zi1 sh x lo hi) fun v=>k (.cln v) e hp ef
 | .fa off x=>rdK (LP G N P e x) fun x=>Zd (Ir off x) fun v=>k (.cln v) e hp ef
 | .fld off n agg x=>rdK (LP G N P e x) fun x=>Zd (Zt2 off n agg x) fun v=>k (.cln v) e hp ef
 | .ia sh x i=>rdK (LP G N P e x) fun x=>rdK (LP G N P e i) fun i=>Zd (Y4 sh x i) fun v=>k (.cln v) e hp ef
 | .idx x i=>rdK (LP G N P e x) fun x=>rdK (LP G N P e i) fun i=>Zd (ZeQ x i) fun v=>k (.cln v) e hp ef
 | .look sh zero x i ok=>rdK (LP G N P e x) fun x=>rdK (LP G N P e i) fun i=>Zd (Zet hp sh zero x i ok) fun v=>k (.raw v) e hp ef
 | .mupd sh m i v=>rdK (LP G N P e m) fun m=>rdK (LP G N P e i) fun i=>rdK (LP G N P e v) fun v=>TF (Zwc bs sh m i v hp ef) fun hp' ef'=>k (.cln .undef) e hp' ef'
 | .range x=>rdK (LP G N P e x) fun x=>TF (Z4q x hp) fun v hp'=>k (.cln v) e hp' ef
 | .next x=>rdK (LP G N P e x) fun x=>QV (Z6u bs x hp ef) fun v hp' ef'=>k (.cln v) e hp' ef'
 | .extract x i=>rdK (LP G N P e x) fun x=>Zd (Dt x i) fun v=>k (.cln v) e hp ef
 | .len sh x=>rdK (LP G N P e x) fun x=>Zd (ZO hp sh x) fun v=>k (.cln v) e hp ef
 | .app n bytes t x=>Zi6 ((Nat.blt t N && ZaJ P t)) (rdK (LP G N P e x) (fun x=>Zd (Z0b n bytes (e t).val x hp) fun v=>k (.raw v) (e.set t (.cln (e t).rd)) hp ef)) none
 | .apps bytes t x=>Zi6 ((Nat.blt t N && ZaJ P t)) (rdK (LP G N P e x) (fun x=>Zd (Z5L bytes (e t).val x) fun v=>k (.raw v) (e.set t (.cln (e t).rd)) hp ef)) none
 | .appn n bytes x=>rdK (LP G N P e x) fun x=>Zd (Z5K n bytes x hp) fun v=>k (.raw v) e hp ef
 | .copy n d x=>rdK (LP G N P e d) fun d=>rdK (LP G N P e x) fun x=>QV (copyV bs n d x hp ef) fun v hp' ef'=>k (.cln v) e hp' ef'
 | .min xs=>rdK (ZjH G N P e xs) fun vs=>Zd (Z6t vs) fun v=>k (.cln v) e hp ef
 | .max xs=>rdK (ZjH G N P e xs) fun vs=>Zd (Z3V vs) fun v=>k (.cln v) e hp ef
 | .call f args=>rdK (LP G N P e f) fun f=>rdK (ZtW G N P e args) fun p=>QV (Uo K f p.1 hp) fun v hp' ef'=>k (.raw v) p.2 hp' (Zf bs ef ef')
def Z5n (A:List (Nat×Bool))(o:Jq)(e:Env)(hp:List Z5)(ef:Eff)(k:IE):KR :=
 match o.guard with
 | none=>opK G N bs P K e hp ef o.op fun v e' hp' ef'=>k (e'.put o.dst v) hp' ef'
 | some (t,want)=>Zi6 (inA t want A) (opK G N bs P K e hp ef o.op fun v e' hp' ef'=>k (e'.put o.dst v) hp' ef') (Zi6 (Nat.blt t N && ZaJ P t)
   (Zi6 (EL o.op)
    (Z3P (ZjE want (e t).val) (opK G N bs P K e hp ef o.op fun v e' hp' ef'=>k (e'.put o.dst v) hp' ef') (k (e.put o.dst (.cln .undef)) hp ef))
    (ZjF (ZjE want (e t).val) (opK G N bs P K e hp ef o.op fun v _ hp' ef'=>some (v.val,hp',ef')) hp ef fun v hp' ef'=>k (e.put o.dst (.raw v)) hp' ef'))
   none)
end
section
variable (G:Nat→Option (List AV))(N bs:Nat)(K:FuncId→List AV→List Z5→KR)
def Z0L (A:List (Nat×Bool))(P:List Nat)(ops:List Jq):Option (Nat×Bool×Nat×Option Nat×KX×KX×List Jq) :=
 match ops with
 | []=>none
 | o :: l=>match o.guard with
  | none=>none
  | some (t,want)=>Zi6 (inA t want A) none
   (match (o :: l).drop (Px N t want P [] (o :: l)) with
   | ⟨d,.pick (.tmp u) a b,none⟩ :: rest=>Zi6 (Nat.beq u t && Nat.blt t N && ZaJ P t && Nat.blt 0 (Px N t want P [] (o :: l))) (some (t,want,Px N t want P [] (o :: l),d,a,b,rest)) none
   | ⟨d,.pick (.tmp u) a b,some (gt,gw)⟩ :: rest=>Zi6 (inA gt gw A && Nat.beq u t && Nat.blt t N && ZaJ P t && Nat.blt 0 (Px N t want P [] (o :: l))) (some (t,want,Px N t want P [] (o :: l),d,a,b,rest)) none
   | _=>none)
def Z0C:Nat→List (Nat×Bool)→List Nat→List Jq→List Nat
 | 0,_,P,_=>P
 | _ + 1,_,P,[]=>P
 | n + 1,A,P,o :: l=>match Z0L N A P (o :: l) with
  | some (_,_,_,d,_,_,rest)=>Z0C n A (rmO d P) rest
  | none=>Z0C n A (rmO o.dst P) l
def Zy3:Nat→List (Nat×Bool)→List Nat→List Jq→IE→IE
 | _,_,_,[],k=>k
 | 0,_,_,_ :: _,_=>fun _ _ _=>none
 | n + 1,A,P,o :: l,k=>match Z0L N A P (o :: l) with
  | some (t,want,m,d,a,b,rest)=>fun e hp ef=>VT (e t).val want
    (Zy3 n ((t,want) :: A) P ((o :: l).take m) (fun e' hp' ef'=>rdK (LP G N (Z0C N n ((t,want) :: A) P ((o :: l).take m)) e' (Zi6 want a b)) fun v=>some (v,hp',ef')) e hp ef)
    (LP G N P e (Zi6 want b a)) hp ef fun v hp' ef'=>Zy3 n A (rmO d P) rest k (e.put d (.raw v)) hp' ef'
  | none=>fun e hp ef=>Z5n G N bs P K A o e hp ef (Zy3 n A (rmO o.dst P) l k)
def Z2Q (id:Nat):List (Nat×IE)→IE
 | []=>fun _ _ _=>none
 | (i,k) :: l=>Zi6 (Nat.beq i id) (k) (Z2Q id l)
def ZqA (F:IE→IE):Nat→IE
 | 0=>fun _ _ _=>none
 | n + 1=>F (ZqA F n)
variable (P:List Nat)(L:Nat)
def Yh:Zr→IE→IE→List (Nat×IE)→IE
 | .skip,n,_,_=>n
 | .region false ops,n,_,_=>Zy3 G N bs K ops.length [] P ops n
 | .region true ops,n,_,_=>Zy3 G N bs (Ub K) ops.length [] P ops n
 | .regionB ops,n,_,_=>Zy3 G N bs (Ku K) ops.length [] P ops n
 | .seq a b,n,r,xs=>Yh a (Yh b n r xs) r xs
 | .cond c a b,n,r,xs=>fun e hp ef=>rdK (LP G N P e c) fun v=>ifK v (Yh a n r xs e hp ef) (Yh b n r xs e hp ef)
 | .block id c,n,r,xs=>Yh c n r ((id,n) :: xs)
 | .loop c,_,r,xs=>ZqA (fun n'=>Yh c n' r xs) L
 | .scope c,n,r,xs=>Yh c n r xs
 | .exit id,_,_,xs=>Z2Q id xs
 | .ret,_,r,_=>r
 | .bad,_,_,_=>fun _ _ _=>none
end
def Z7g (e:Env)(N:Nat)(P:List Nat)(hp:List Z5):ZwT→Option AV
 | .tmp t=>Zi6 ((Nat.blt t N && ZaJ P t)) (some (e t).val) (none)
 | .one t=>Zi6 ((Nat.blt t N && ZaJ P t)) (Qn hp (e t).val) (none)
 | .agg t n=>Zi6 ((Nat.blt t N && ZaJ P t)) (Zt hp n (e t).val) (none)
def Z31 (e:Env)(N:Nat)(P:List Nat)(hp:List Z5):List ZwT→(List AV→KR)→KR
 | [],k=>k []
 | r :: l,k=>rdK (Z7g e N P hp r) fun v=>Z31 e N P hp l fun vs=>k (v.nm :: vs)
def ZxK (e:Env)(N:Nat)(P:List Nat)(hp:List Z5):List ZwT→(AV→KR)→KR
 | [r],k=>rdK (Z7g e N P hp r) k
 | rs,k=>Z31 e N P hp rs fun vs=>k (.tup vs)
def Vm (keep:Bool)(hp0:List Z5)(v:AV)(hp:List Z5)(ef:Eff):AV×List Z5×Eff :=
 bif keep then (v.nm,hp,ef) else finish v ⟨[],hp,ef,hp0.length⟩ hp0
def Wi (P:List Nat)(fn:AFn)(hp0:List Z5):IE:=fun e hp ef=>ZxK e fn.ntmps P hp fn.results fun v=>some (Vm fn.keep hp0 v hp ef)
def EW:List AV→Env
 | []=>fun _=>.raw .undef
 | v :: l=>fun t=>match t with
  | 0=>.raw v
  | t + 1=>EW l t
def fnK (G:Nat→Option (List AV))(K:FuncId→List AV→List Z5→KR)(P:List Nat)(L:Nat)(fn:AFn)(args:List AV)(hp:List Z5):KR :=
 Yh G fn.ntmps hp.length K P L fn.code (Wi P fn hp) (Wi P fn hp) [] (EW args) hp none
end Go.Proofs.YtlmfmmclnboglaaGreat.Abs
end
section
namespace Go.Proofs.YtlmfmmclnboglaaGreat.Abs
open Go
theorem U8 {α:Type}{x:Option α}{k:α→KR}{r:AV×List Z5×Eff}(h:Zd x k=some r):∃ v,x=some v∧k v=some r:=by
 cases x with
 | none=>cases h
 | some v=>exact ⟨v,rfl,h⟩
theorem Zdq {α β:Type}{x:Option (α×β)}{k:α→β→KR}{r:AV×List Z5×Eff}(h:TF x k=some r):∃ a b,x=some (a,b)∧k a b=some r:=by
 cases x with
 | none=>cases h
 | some v=>exact ⟨v.1,v.2,rfl,h⟩
theorem Zif {α β γ:Type}{x:Option (α×β×γ)}{k:α→β→γ→KR}{r:AV×List Z5×Eff}(h:QV x k=some r):∃ a b c,x=some (a,b,c)∧k a b c=some r:=by
 cases x with
 | none=>cases h
 | some v=>exact ⟨v.1,v.2.1,v.2.2,rfl,h⟩
theorem ZkZ {α:Type}(x y:α):Zi6 true x y=x:=rfl
theorem Ziy {α:Type}(x y:α):Zi6 false x y=y:=rfl
theorem QK {α:Type}{x:Option α}{k:α→KR}{r:AV×List Z5×Eff}(h:rdK x k=some r):∃ v,x=some v∧k v=some r:=by
 cases x with
 | none=>cases h
 | some v=>exact ⟨v,rfl,h⟩
theorem Zan {α:Type}{b:Bool}{x:Option α}{r:α}(h:Zi6 b x none=some r):b=true∧x=some r:=by
 cases b with
 | false=>cases h
 | true=>exact ⟨rfl,h⟩
def ZwU (v:KV):Prop:=v.val.ro=v.rd
theorem Zia (v:AV):ZwU (.raw v):=rfl
theorem Zdn {v:AV}(h:v.ro=v):ZwU (.cln v):=h
theorem ZwC (v:AV):v.ro.ro=v.ro:=by cases v <;> rfl
theorem Z6i {v:KV}(h:ZwU v):ZwU (.cln v.rd):=by
 show v.rd.ro=v.rd
 rw [← h,ZwC]
theorem Zdp:∀ {P:List Nat} {t:Nat},ZaJ P t=true↔t ∉ P
 | [],t=>by simp [ZaJ]
 | u :: l,t=>by
  simp only [ZaJ,List.mem_cons,not_or]
  cases hb:Nat.beq u t with
  | true =>
   have:=Nat.eq_of_beq_eq_true hb
   subst this
   simp
  | false =>
   have:t≠u:=fun h=>by subst h; rw [Nat.beq_refl] at hb; cases hb
   simp [this,← Zdp]
theorem Zyt:∀ {P:List Nat} {d t:Nat},t ∈ rm d P↔t ∈ P∧t≠d
 | [],d,t=>by simp [rm]
 | u :: l,d,t=>by
  simp only [rm]
  cases hb:Nat.beq u d with
  | true =>
   have:=Nat.eq_of_beq_eq_true hb
   subst this
   simp only [Zyt,List.mem_cons]
   constructor
   ·rintro ⟨a,b⟩; exact ⟨.inr a,b⟩
   ·rintro ⟨a | a,b⟩
    ·exact absurd a b
    ·exact ⟨a,b⟩
  | false =>
   have:u≠d:=fun h=>by subst h; rw [Nat.beq_refl] at hb; cases hb
   simp only [List.mem_cons,Zyt]
   constructor
   ·rintro (a | ⟨a,b⟩)
    ·subst a; exact ⟨.inl rfl,this⟩
    ·exact ⟨.inr a,b⟩
   ·rintro ⟨a | a,b⟩
    ·exact .inl a
    ·exact .inr ⟨a,b⟩
structure TR (N:Nat)(P:List Nat)(e:Env)(sl:List AV):Prop where
 len:sl.length=N
 val:∀ t,t < N→t ∉ P→sl[t]? = some (e t).val
 ok:∀ t,ZwU (e t)
theorem TR.mono {N:Nat}{P P':List Nat}{e:Env}{sl:List AV}(h:TR N P e sl)(hp:∀ t,t ∈ P→t ∈ P'):TR N P' e sl:=⟨h.len,fun t ht hn=>h.val t ht fun hm=>hn (hp t hm),h.ok⟩
theorem TR.set {N:Nat}{P:List Nat}{e:Env}{sl:List AV}(h:TR N P e sl)(d:Nat){v:KV}(hv:ZwU v):TR N (rm d P) (e.set d v) (sl.set d v.val):=by
 refine ⟨by rw [List.length_set]; exact h.len,fun t ht hn=>?_,fun t=>?_⟩
 ·rw [List.getElem?_set]
  by_cases e1:d=t
  ·subst e1
   simp [Env.set,h.len,ht]
  ·have:Nat.beq t d=false:=by cases hb:Nat.beq t d with | false=>rfl | true=>exact absurd (Nat.eq_of_beq_eq_true hb).symm e1
   simp [e1,Env.set,this,h.val t ht fun hm=>hn (Zyt.2 ⟨hm,fun h=>e1 h.symm⟩)]
 ·show ZwU (Zi6 (Nat.beq t d) v (e t))
  cases Nat.beq t d
  ·exact h.ok t
  ·exact hv
theorem TR.put {N:Nat}{P:List Nat}{e:Env}{sl:List AV}(h:TR N P e sl)(d:Option Nat){v:KV}(hv:ZwU v){hp:List Z5}{ef:Eff}{bs:Nat}:TR N (rmO d P) (e.put d v) (Z7.put ⟨sl,hp,ef,bs⟩ d v.val).sl:=by
 cases d with
 | none=>exact h
 | some d=>exact h.set d hv
theorem TR.let_ {N:Nat}{P:List Nat}{e:Env}{sl:List AV}(h:TR N P e sl)(t:Nat):TR N P (e.set t (.cln (e t).rd)) (sl.modify t AV.ro):=by
 refine ⟨by rw [List.length_modify]; exact h.len,fun u hu hn=>?_,fun u=>?_⟩
 ·rw [List.getElem?_modify]
  by_cases e1:t=u
  ·subst e1
   simp only [if_true,h.val t hu hn,Env.set,Nat.beq_refl,KV.val]
   have:=h.ok t
   simp only [ZwU] at this
   simp only [KV.val] at this
   rw [Option.map_eq_map,Option.map_some,← this]
  ·have:Nat.beq u t=false:=by cases hb:Nat.beq u t with | false=>rfl | true=>exact absurd (Nat.eq_of_beq_eq_true hb).symm e1
   simp [e1,Env.set,this,h.val u hu hn]
 ·show ZwU (Zi6 (Nat.beq u t) (.cln (e t).rd) (e u))
  cases Nat.beq u t
  ·exact h.ok u
  ·exact Z6i (h.ok t)
section
variable {G:Nat→Option (List AV)}{N:Nat}{P:List Nat}{e:Env}{sl:List AV}
theorem Zwa {t N:Nat}{P:List Nat}(h:(Nat.blt t N && ZaJ P t)=true):t < N∧t ∉ P:=by
 rw [Bool.and_eq_true] at h
 exact ⟨Nat.le_of_ble_eq_true h.1,Zdp.1 h.2⟩
theorem TR.get (h:TR N P e sl){t:Nat}(ht:(Nat.blt t N && ZaJ P t)=true):sl[t]? = some (e t).val:=h.val t (Zwa ht).1 (Zwa ht).2
theorem TR.read (h:TR N P e sl){t:Nat}(ht:(Nat.blt t N && ZaJ P t)=true):(sl[t]?).map AV.ro=some (e t).rd:=by
 rw [h.get ht,Option.map_some,h.ok t]
theorem TR.opnd (h:TR N P e sl){x:KX}{v:AV}(hx:LP G N P e x=some v):Abs.opnd G sl x=some v:=by
 cases x with
 | tmp t =>
  obtain ⟨h1,h2⟩:=Zan (show Zi6 (Nat.blt t N && ZaJ P t) (some (e t).rd) none=some v from hx)
  cases h2
  exact h.read h1
 | const v=>exact hx
 | glob g=>exact hx
theorem TR.opnds (h:TR N P e sl):∀ {xs:List KX} {vs:List AV},ZjH G N P e xs=some vs→Abs.opnds G sl xs=some vs
 | [],vs,hx=>hx
 | x :: l,vs,hx=>by
  simp only [ZjH] at hx
  split at hx
  ·rename_i v hv
   split at hx
   ·rename_i us hus
    cases hx
    simp only [Abs.opnds,h.opnd hv,h.opnds hus,Option.map_some]
   ·cases hx
  ·cases hx
theorem TR.optOpnd (h:TR N P e sl){x:Option KX}{v:Option AV}(hx:Zpm G N P e x=some v):Abs.optOpnd G sl x=some v:=by
 cases x with
 | none=>exact hx
 | some x =>
  simp only [Zpm] at hx
  split at hx
  ·rename_i u hu
   cases hx
   simp only [Abs.optOpnd,h.opnd hu,Option.map_some]
  ·cases hx
theorem TR.mvK (h:TR N P e sl){x:KX}{k:KV→KR}{r:AV×List Z5×Eff}(hx:mvK G N P e x k=some r):∃ v,Abs.opnd G sl x=some v.val∧ZwU v∧k v=some r:=by
 cases x with
 | tmp t =>
  obtain ⟨h1,h2⟩:=Zan (show Zi6 (Nat.blt t N && ZaJ P t) (k (KV.cln (e t).rd)) none=some r from hx)
  exact ⟨KV.cln (e t).rd,h.read h1,Z6i (h.ok t),h2⟩
 | const v=>exact ⟨_,rfl,Zia v,hx⟩
 | glob g =>
  obtain ⟨c,h1,h2⟩:=U8 (show Zd (G g) (fun c=>k (.cln (.ref c)))=some r from hx)
  exact ⟨KV.cln (.ref c),by simp only [Abs.opnd,h1,Option.map_some]; rfl,rfl,h2⟩
theorem TR.args:∀ {as:List (Nat ⊕ KX)} {e e':Env} {sl:List AV} {vs:List AV},TR N P e sl→ZtW G N P e as=some (vs,e')→∃ sl',D7 G sl as=some (vs,sl')∧TR N P e' sl'
 | [],e,e',sl,vs,h,ha=>by
  cases ha
  exact ⟨sl,rfl,h⟩
 | .inl t :: l,e,e',sl,vs,h,ha=>by
  simp only [ZtW] at ha
  obtain ⟨h1,h2⟩:=Zan ha
  split at h2
  ·rename_i us e1 hus
   cases h2
   obtain ⟨sl',a1,a2⟩:=TR.args (h.let_ t) hus
   refine ⟨sl',?_,a2⟩
   simp only [D7,h.get h1,a1,Option.map_some]
  ·cases h2
 | .inr x :: l,e,e',sl,vs,h,ha=>by
  simp only [ZtW] at ha
  split at ha
  ·rename_i v hv
   split at ha
   ·rename_i us e1 hus
    cases ha
    obtain ⟨sl',a1,a2⟩:=TR.args h hus
    refine ⟨sl',?_,a2⟩
    simp only [D7,h.opnd hv,a1,Option.map_some]
   ·cases ha
  ·cases ha
end
theorem Z33 {op:BinOp}{x y:List UInt8}{v:AV}(h:ZwJ op x y=some v):v.ro=v:=by
 cases op <;> simp only [ZwJ] at h <;> first | (cases h; done) | (cases h; rfl) | (split at h <;> cases h; rfl)
theorem Z1U {op:BinOp}{k:IntKind}{x y:Int}{v:AV}(h:ZdM op k x y=some v):v.ro=v:=by
 cases op <;> simp only [ZdM] at h <;> first | (cases h; done) | (cases h; rfl) | (split at h <;> cases h; rfl)
theorem ZxL {op:BinOp}{k:IntKind}{x y:Int}{v:AV}(h:Zmm op k x y=some v):v.ro=v:=by
 simp only [Zmm] at h
 split at h
 ·cases h
 ·cases op <;> simp only at h <;> first | (cases h; done) | (cases h; rfl)
theorem Z1S {op:BinOp}{sh:Z2n}{x y v:AV}(h:Zc op sh x y=some v):v.ro=v:=by
 unfold Zc at h
 split at h
 ·split at h
  ·split at h
   ·exact ZxL h
   ·split at h
    ·exact Z1U h
    ·cases h
  ·exact Z33 h
  ·cases h
 ·split at h
  ·obtain ⟨b,_,rfl⟩:=Option.map_eq_some_iff.1 h; rfl
  ·obtain ⟨b,_,rfl⟩:=Option.map_eq_some_iff.1 h; rfl
  ·cases h
theorem Z34 {op:UnOp}{x v:AV}(h:Jy op x=some v):v.ro=v:=by
 unfold Jy at h
 split at h <;> cases h <;> rfl
theorem ZzR {hp:List Z5}{c:Conv}{x v:AV}(h:Zau hp c x=some v):v.ro=v:=by
 unfold Zau at h
 split at h
 ·cases h; rfl
 ·cases h; rfl
 ·cases h; rfl
 ·split at h
  ·obtain ⟨b,_,rfl⟩:=Option.map_eq_some_iff.1 h; rfl
  ·cases h
 ·cases h
theorem Z6L {hp:List Z5}{x v:AV}(h:Qn hp x=some v):v.ro=v:=by
 unfold Qn at h
 split at h
 ·cases h; exact ZwC _
 ·split at h
  ·obtain ⟨b,_,rfl⟩:=Option.map_eq_some_iff.1 h; exact ZwC _
  ·cases h
 ·cases h
theorem Z6K {hp:List Z5}{n:Nat}{x v:AV}(h:Zt hp n x=some v):v.ro=v:=by
 unfold Zt at h
 split at h
 ·split at h <;> cases h; rfl
 ·split at h
  ·split at h <;> cases h; rfl
  ·cases h
 ·cases h
theorem Z1V {x v:AV}(h:Zu2 x=some v):v.ro=v:=by
 unfold Zu2 at h
 split at h <;> cases h <;> rfl
theorem Z32 {sh:Shape}{x v:AV}{lo hi:Option AV}(h:Zi1 sh x lo hi=some v):v.ro=v:=by
 unfold Zi1 at h
 split at h
 ·split at h
  ·split at h <;> cases h; rfl
  ·cases h
 ·split at h
  ·split at h
   ·split at h <;> cases h; rfl
   ·cases h
  ·cases h
 ·split at h
  ·split at h
   ·split at h
    ·split at h <;> cases h <;> rfl
    ·cases h
   ·cases h
  ·cases h
 ·split at h
  ·split at h
   ·split at h <;> cases h <;> rfl
   ·cases h
  ·cases h
 ·cases h
theorem Z74 {off:Nat}{x v:AV}(h:Ir off x=some v):v.ro=v:=by
 unfold Ir at h
 split at h <;> cases h <;> rfl
theorem Z6H {off n:Nat}{a:Bool}{x v:AV}(h:Zt2 off n a x=some v):v.ro=v:=by
 unfold Zt2 at h
 split at h
 ·split at h
  ·split at h
   ·cases h; rfl
   ·obtain ⟨b,_,rfl⟩:=Option.map_eq_some_iff.1 h; exact ZwC _
  ·cases h
 ·cases h
theorem Z75 {sh:Shape}{x i v:AV}(h:Y4 sh x i=some v):v.ro=v:=by
 unfold Y4 at h
 split at h
 ·split at h
  ·obtain ⟨b,_,rfl⟩:=Option.map_eq_some_iff.1 h; rfl
  ·cases h
 all_goals first | (cases h; done) | (split at h <;> cases h; rfl)
theorem Z6J {x i v:AV}(h:ZeQ x i=some v):v.ro=v:=by
 unfold ZeQ at h
 split at h
 ·split at h
  ·obtain ⟨b,_,rfl⟩:=Option.map_eq_some_iff.1 h; rfl
  ·cases h
 ·cases h
theorem ZzS {x:AV}{i:Nat}{v:AV}(h:Dt x i=some v):v.ro=v:=by
 unfold Dt at h
 split at h
 ·obtain ⟨b,_,rfl⟩:=Option.map_eq_some_iff.1 h; exact ZwC _
 ·cases h
theorem Z6M {hp:List Z5}{sh:Z0d}{x v:AV}(h:ZO hp sh x=some v):v.ro=v:=by
 unfold ZO at h
 split at h
 ·cases h; rfl
 ·cases h; rfl
 ·cases h; rfl
 ·cases h; rfl
 ·split at h <;> cases h; rfl
 ·cases h
theorem Z6O {xs:List AV}{v:AV}(h:Z6t xs=some v):v.ro=v:=by
 unfold Z6t at h
 split at h
 ·obtain ⟨b,_,rfl⟩:=Option.map_eq_some_iff.1 h; rfl
 ·cases h
theorem Z6N {xs:List AV}{v:AV}(h:Z3V xs=some v):v.ro=v:=by
 unfold Z3V at h
 split at h
 ·obtain ⟨b,_,rfl⟩:=Option.map_eq_some_iff.1 h; rfl
 ·cases h
end Go.Proofs.YtlmfmmclnboglaaGreat.Abs
end
section
namespace Go.Proofs.YtlmfmmclnboglaaGreat.Abs
open Go
section
variable {G:Nat→Option (List AV)}{N bs:Nat}{P:List Nat}{K:FuncId→List AV→List Z5→KR}
def Z5J (G:Nat→Option (List AV))(N bs:Nat)(P:List Nat)(K:FuncId→List AV→List Z5→KR)(sl:List AV)(hp:List Z5)(ef:Eff)(op:AOp)(k:KV→Env→List Z5→Eff→KR)(r:AV×List Z5×Eff):Prop :=
 ∃ (v:KV) (e':Env) (sl':List AV) (hp':List Z5) (ef':Eff),ZF G K ⟨sl,hp,ef,bs⟩ op=some (v.val,⟨sl',hp',ef',bs⟩)∧TR N P e' sl'∧ZwU v∧k v e' hp' ef'=some r
theorem Zno (sl:List AV)(hp:List Z5)(ef:Eff)(bs g v:Nat):Z7.note ⟨sl,hp,ef,bs⟩ g v=Zd1 bs ef g v:=rfl
theorem Z2s (sl:List AV)(hp:List Z5)(ef:Eff)(bs:Nat)(e:Eff):Z7.after ⟨sl,hp,ef,bs⟩ e=Zf bs ef e:=by
 cases e with
 | none=>rfl
 | some p=>rfl
theorem Z68 {e:Env}{sl:List AV}(he:TR N P e sl){hp:List Z5}{ef:Eff}{op:AOp}{k:KV→Env→List Z5→Eff→KR}{r:AV×List Z5×Eff}(h:opK G N bs P K e hp ef op k=some r):Z5J G N bs P K sl hp ef op k r:=by
 cases op <;> simp only [opK] at h
 case bad=>cases h
 case mv x =>
  obtain ⟨v,a1,a2,h2⟩:=he.mvK h
  exact ⟨v,e,sl,hp,ef,by simp only [ZF,a1,Option.map_some],he,a2,h2⟩
 case take t =>
  obtain ⟨h1,h2⟩:=Zan h
  refine ⟨e t,_,sl.modify t AV.ro,hp,ef,?_,he.let_ t,he.ok t,h2⟩
  simp only [ZF,he.get h1,Z7.let_]
 case pick c a b =>
  obtain ⟨c',h1,h⟩:=QK h
  obtain ⟨a',h2,h⟩:=QK h
  obtain ⟨b',h3,h⟩:=QK h
  obtain ⟨v,h4,h⟩:=U8 h
  refine ⟨_,e,sl,hp,ef,?_,he,Zia _,h⟩
  unfold ZsQ at h4
  split at h4 <;> cases h4
  ·simp only [ZF,he.opnd h1,he.opnd h2,Option.map_some,KV.val]
  ·simp only [ZF,he.opnd h1,he.opnd h3,Option.map_some,KV.val]
 case mk t cells=>exact ⟨_,e,sl,_,ef,rfl,he,(by rfl),h⟩
 case box t n x =>
  obtain ⟨v,h1,h⟩:=QK h
  obtain ⟨cs,h2,h⟩:=U8 h
  unfold MN at h2
  split at h2 <;> cases h2
  rename_i hc
  refine ⟨_,e,sl,_,ef,?_,he,(by rfl),h⟩
  simp only [ZF,he.opnd h1,hc,and_self,if_true,KV.val]
 case build zero parts =>
  obtain ⟨vs,h1,h⟩:=QK h
  obtain ⟨cs,h2,h⟩:=U8 h
  refine ⟨_,e,sl,hp,ef,?_,he,(by rfl),h⟩
  simp only [ZF,he.opnds h1,h2,Option.map_some,KV.val]
 case lit t n parts =>
  obtain ⟨vs,h1,h⟩:=QK h
  obtain ⟨v,hp',h2,h⟩:=Zdq h
  refine ⟨_,e,sl,hp',ef,?_,he,Zia _,h⟩
  unfold ZoA at h2
  split at h2
  ·rename_i hc
   cases h2
   simp only [ZF,he.opnds h1,hc,if_true,KV.val]
  ·rename_i hc
   split at h2
   ·rename_i hc'
    cases h2
    simp only [ZF,he.opnds h1,hc,hc',if_true,KV.val]
    rfl
   ·cases h2
 case lita t n parts =>
  obtain ⟨vs,h1,h⟩:=QK h
  obtain ⟨v,hp',h2,h⟩:=Zdq h
  refine ⟨_,e,sl,hp',ef,?_,he,Zia _,h⟩
  unfold Z6r at h2
  split at h2
  ·rename_i hc
   cases h2
   simp only [ZF,he.opnds h1,hc,if_true,KV.val]
  ·cases h2
 case ldc p =>
  obtain ⟨v,h1,h⟩:=QK h
  obtain ⟨u,h2,h⟩:=U8 h
  exact ⟨_,e,sl,hp,ef,by simp only [ZF,he.opnd h1,h2,Option.map_some,KV.val],he,Zdn (Z6L h2),h⟩
 case lda n p =>
  obtain ⟨v,h1,h⟩:=QK h
  obtain ⟨u,h2,h⟩:=U8 h
  exact ⟨_,e,sl,hp,ef,by simp only [ZF,he.opnd h1,h2,Option.map_some,KV.val],he,Zdn (Z6K h2),h⟩
 case ldt p =>
  obtain ⟨v,h1,h⟩:=QK h
  obtain ⟨u,hp',ef',h2,h⟩:=Zif h
  refine ⟨_,e,sl,hp',ef',?_,he,Zia _,h⟩
  unfold Z2N at h2
  split at h2
  ·split at h2
   ·rename_i hg
    split at h2
    ·rename_i hc
     cases h2
     simp only [ZF,he.opnd h1,hg,hc,Zno,KV.val]
    ·cases h2
   ·cases h2
  ·cases h2
 case st n p x =>
  obtain ⟨v,h1,h⟩:=QK h
  obtain ⟨u,h2,h⟩:=QK h
  obtain ⟨hp',ef',h3,h⟩:=Zdq h
  refine ⟨_,e,sl,hp',ef',?_,he,(by rfl),h⟩
  unfold stV at h3
  split at h3
  ·split at h3
   ·rename_i hg
    split at h3
    ·rename_i hc
     cases h3
     simp only [ZF,he.opnd h1,he.opnd h2,hg,hc,Zno,KV.val,and_self,if_true]
    ·cases h3
   ·cases h3
  ·cases h3
 case stt p t =>
  obtain ⟨v,h1,h⟩:=QK h
  obtain ⟨h2,h⟩:=Zan h
  obtain ⟨hp',ef',h3,h⟩:=Zdq h
  refine ⟨_,_,sl.modify t AV.ro,hp',ef',?_,he.let_ t,(by rfl),h⟩
  unfold Zph at h3
  split at h3
  ·split at h3
   ·rename_i hg
    split at h3
    ·rename_i hc
     cases h3
     simp only [ZF,he.opnd h1,he.get h2,hg,Zno,Z7.let_]
     rw [if_pos hc]
     rfl
    ·cases h3
   ·cases h3
  ·cases h3
 case nilchk x =>
  obtain ⟨v,h1,h⟩:=QK h
  obtain ⟨u,h2,h⟩:=U8 h
  refine ⟨_,e,sl,hp,ef,?_,he,Zdn (Z1V h2),h⟩
  unfold Zu2 at h2
  split at h2 <;> cases h2 <;> simp only [ZF,he.opnd h1,KV.val]
 case bin op sh x y =>
  obtain ⟨v,h1,h⟩:=QK h
  obtain ⟨u,h2,h⟩:=QK h
  obtain ⟨w,h3,h⟩:=U8 h
  exact ⟨_,e,sl,hp,ef,by simp only [ZF,he.opnd h1,he.opnd h2,h3,Option.map_some,KV.val],he,Zdn (Z1S h3),h⟩
 case un op x =>
  obtain ⟨v,h1,h⟩:=QK h
  obtain ⟨u,h2,h⟩:=U8 h
  exact ⟨_,e,sl,hp,ef,by simp only [ZF,he.opnd h1,h2,Option.map_some,KV.val],he,Zdn (Z34 h2),h⟩
 case conv c x =>
  obtain ⟨v,h1,h⟩:=QK h
  obtain ⟨u,h2,h⟩:=U8 h
  exact ⟨_,e,sl,hp,ef,by simp only [ZF,he.opnd h1,h2,Option.map_some,KV.val],he,Zdn (ZzR h2),h⟩
 case mkfn f first caps =>
  obtain ⟨v,h1,h⟩:=QK h
  obtain ⟨u,h2,h⟩:=QK h
  exact ⟨_,e,sl,hp,ef,by simp only [ZF,he.opnds h1,he.opnds h2,KV.val],he,(by rfl),h⟩
 case mkmap=>exact ⟨_,e,sl,_,ef,rfl,he,(by rfl),h⟩
 case mksl t zero n =>
  obtain ⟨v,h1,h⟩:=QK h
  obtain ⟨u,hp',h2,h⟩:=Zdq h
  unfold Z2S at h2
  split at h2
  ·split at h2
   ·rename_i hc
    cases h2
    exact ⟨_,e,sl,_,ef,by simp only [ZF,he.opnd h1,hc,and_self,if_true,KV.val],he,(by rfl),h⟩
   ·cases h2
  ·cases h2
 case slice sh x lo hi =>
  obtain ⟨v,h1,h⟩:=QK h
  obtain ⟨u1,h2,h⟩:=QK h
  obtain ⟨u2,h3,h⟩:=QK h
  obtain ⟨u,h4,h⟩:=U8 h
  exact ⟨_,e,sl,hp,ef,by simp only [ZF,he.opnd h1,he.optOpnd h2,he.optOpnd h3,h4,Option.map_some,KV.val],he,Zdn (Z32 h4),h⟩
 case fa off x =>
  obtain ⟨v,h1,h⟩:=QK h
  obtain ⟨u,h2,h⟩:=U8 h
  exact ⟨_,e,sl,hp,ef,by simp only [ZF,he.opnd h1,h2,Option.map_some,KV.val],he,Zdn (Z74 h2),h⟩
 case fld off n agg x =>
  obtain ⟨v,h1,h⟩:=QK h
  obtain ⟨u,h2,h⟩:=U8 h
  exact ⟨_,e,sl,hp,ef,by simp only [ZF,he.opnd h1,h2,Option.map_some,KV.val],he,Zdn (Z6H h2),h⟩
 case ia sh x i =>
  obtain ⟨v,h1,h⟩:=QK h
  obtain ⟨u,h2,h⟩:=QK h
  obtain ⟨w,h3,h⟩:=U8 h
  exact ⟨_,e,sl,hp,ef,by simp only [ZF,he.opnd h1,he.opnd h2,h3,Option.map_some,KV.val],he,Zdn (Z75 h3),h⟩
 case idx x i =>
  obtain ⟨v,h1,h⟩:=QK h
  obtain ⟨u,h2,h⟩:=QK h
  obtain ⟨w,h3,h⟩:=U8 h
  exact ⟨_,e,sl,hp,ef,by simp only [ZF,he.opnd h1,he.opnd h2,h3,Option.map_some,KV.val],he,Zdn (Z6J h3),h⟩
 case look sh zero x i ok =>
  obtain ⟨v,h1,h⟩:=QK h
  obtain ⟨u,h2,h⟩:=QK h
  obtain ⟨w,h3,h⟩:=U8 h
  exact ⟨_,e,sl,hp,ef,by simp only [ZF,he.opnd h1,he.opnd h2,h3,Option.map_some,KV.val],he,Zia _,h⟩
 case mupd sh m i x =>
  obtain ⟨v,h1,h⟩:=QK h
  obtain ⟨u,h2,h⟩:=QK h
  obtain ⟨w,h3,h⟩:=QK h
  obtain ⟨hp',ef',h4,h⟩:=Zdq h
  refine ⟨_,e,sl,hp',ef',?_,he,(by rfl),h⟩
  unfold Zwc at h4
  split at h4
  ·split at h4
   ·rename_i hg
    split at h4
    ·rename_i hc
     split at h4
     ·rename_i hu
      cases h4
      simp only [ZF,he.opnd h1,he.opnd h2,he.opnd h3,hg,hc,hu,Zno,KV.val,if_true]
     ·cases h4
    ·cases h4
   ·cases h4
  ·cases h4
 case range x =>
  obtain ⟨v,h1,h⟩:=QK h
  obtain ⟨u,hp',h2,h⟩:=Zdq h
  unfold Z4q at h2
  split at h2 <;> cases h2
  exact ⟨_,e,sl,_,ef,by simp only [ZF,he.opnd h1,KV.val],he,(by rfl),h⟩
 case next x =>
  obtain ⟨v,h1,h⟩:=QK h
  obtain ⟨u,hp',ef',h2,h⟩:=Zif h
  unfold Z6u at h2
  split at h2
  ·split at h2
   ·rename_i hg
    split at h2
    ·rename_i hc
     cases h2
     exact ⟨_,e,sl,_,_,by simp only [ZF,he.opnd h1,hg,hc,if_true,Zno,KV.val],he,(by rfl),h⟩
    ·rename_i hc
     cases h2
     exact ⟨_,e,sl,_,_,by simp only [ZF,he.opnd h1,hg,hc,if_false,KV.val],he,(by rfl),h⟩
   ·cases h2
  ·cases h2
 case extract x i =>
  obtain ⟨v,h1,h⟩:=QK h
  obtain ⟨u,h2,h⟩:=U8 h
  refine ⟨_,e,sl,hp,ef,?_,he,Zdn (ZzS h2),h⟩
  unfold Dt at h2
  split at h2
  ·rename_i vs
   obtain ⟨b,hb,rfl⟩:=Option.map_eq_some_iff.1 h2
   simp only [ZF,he.opnd h1,hb,Option.map_some,KV.val]
  ·cases h2
 case len sh x =>
  obtain ⟨v,h1,h⟩:=QK h
  obtain ⟨u,h2,h⟩:=U8 h
  exact ⟨_,e,sl,hp,ef,by simp only [ZF,he.opnd h1,h2,Option.map_some,KV.val],he,Zdn (Z6M h2),h⟩
 case app n bytes t x =>
  obtain ⟨h1,h⟩:=Zan h
  obtain ⟨v,h2,h⟩:=QK h
  obtain ⟨u,h3,h⟩:=U8 h
  refine ⟨_,_,sl.modify t AV.ro,hp,ef,?_,he.let_ t,Zia _,h⟩
  have hv:=he.get h1
  unfold Z0b at h3
  split at h3
  ·rename_i k' r0 hs
   split at h3
   ·rename_i k'' r' hr
    split at h3
    ·rename_i hc
     cases h3
     rw [hs] at hv
     simp only [ZF,hv,he.opnd h2,hr,KV.val,Z7.let_]
     rw [if_pos hc]
    ·cases h3
   ·cases h3
  ·cases h3
 case apps bytes t x =>
  obtain ⟨h1,h⟩:=Zan h
  obtain ⟨v,h2,h⟩:=QK h
  obtain ⟨u,h3,h⟩:=U8 h
  refine ⟨_,_,sl.modify t AV.ro,hp,ef,?_,he.let_ t,Zia _,h⟩
  have hv:=he.get h1
  unfold Z5L at h3
  split at h3
  ·rename_i k' r0 l hs
   split at h3
   ·rename_i hc
    cases h3
    rw [hs] at hv
    simp only [ZF,hv,he.opnd h2,KV.val,Z7.let_]
    rw [if_pos hc]
   ·cases h3
  ·cases h3
 case appn n bytes x =>
  obtain ⟨v,h2,h⟩:=QK h
  obtain ⟨u,h3,h⟩:=U8 h
  refine ⟨_,_,sl,hp,ef,?_,he,Zia _,h⟩
  unfold Z5K at h3
  split at h3
  ·rename_i k'' r' hr
   split at h3
   ·rename_i hc
    cases h3
    simp only [ZF,he.opnd h2,hr,KV.val]
    rw [if_pos hc]
   ·cases h3
  ·cases h3
 case copy n d x =>
  obtain ⟨v,h1,h⟩:=QK h
  obtain ⟨u,h2,h⟩:=QK h
  obtain ⟨w,hp',ef',h3,h⟩:=Zif h
  refine ⟨_,e,sl,hp',ef',?_,he,?_,h⟩
  ·unfold copyV at h3
   split at h3
   ·split at h3
    ·rename_i hr hg
     split at h3
     ·rename_i hc
      cases h3
      simp only [ZF,he.opnd h1,he.opnd h2,hr,hg,Zno,KV.val]
      rw [if_pos hc]
     ·cases h3
    ·cases h3
   ·split at h3
    ·rename_i hr
     split at h3
     ·rename_i hc
      cases h3
      simp only [ZF,he.opnd h1,he.opnd h2,hr,KV.val]
      rw [if_pos hc]
     ·cases h3
    ·cases h3
   ·cases h3
  ·unfold copyV at h3
   split at h3
   ·split at h3
    ·split at h3 <;> cases h3; rfl
    ·cases h3
   ·split at h3
    ·split at h3 <;> cases h3; rfl
    ·cases h3
   ·cases h3
 case min xs =>
  obtain ⟨v,h1,h⟩:=QK h
  obtain ⟨u,h2,h⟩:=U8 h
  refine ⟨_,e,sl,hp,ef,?_,he,Zdn (Z6O h2),h⟩
  unfold Z6t at h2
  split at h2
  ·obtain ⟨b,hb,rfl⟩:=Option.map_eq_some_iff.1 h2
   simp only [ZF,he.opnds h1,hb,Option.map_some,KV.val]
  ·cases h2
 case max xs =>
  obtain ⟨v,h1,h⟩:=QK h
  obtain ⟨u,h2,h⟩:=U8 h
  refine ⟨_,e,sl,hp,ef,?_,he,Zdn (Z6N h2),h⟩
  unfold Z3V at h2
  split at h2
  ·obtain ⟨b,hb,rfl⟩:=Option.map_eq_some_iff.1 h2
   simp only [ZF,he.opnds h1,hb,Option.map_some,KV.val]
  ·cases h2
 case call f args =>
  obtain ⟨fv,h1,h⟩:=QK h
  obtain ⟨⟨vs,e'⟩,h2,h⟩:=QK h
  obtain ⟨v,hp',ef',h3,h4⟩:=Zif h
  obtain ⟨sl',a1,a2⟩:=he.args h2
  clear h
  unfold Uo at h3
  split at h3
  ·refine ⟨_,e',sl',hp',_,?_,a2,Zia _,h4⟩
   simp only [ZF,he.opnd h1,a1,h3,Z2s,KV.val]
  ·cases h3
theorem Zq3 {want:Bool}{v:AV}{sl:List AV}{t:Nat}{s:Z7}(hs:s.sl=sl)(h:sl[t]? = some v):TD s (some (t,want))=ZjE want v:=by
 simp only [TD,hs,h]
 cases v <;> rfl
def Z2r (N bs:Nat)(P:List Nat)(x:Option Z7)(k:IE)(r:AV×List Z5×Eff):Prop :=
 ∃ (e':Env) (sl':List AV) (hp':List Z5) (ef':Eff),x=some ⟨sl',hp',ef',bs⟩∧TR N P e' sl'∧k e' hp' ef'=some r
theorem put_eq (sl:List AV)(hp:List Z5)(ef:Eff)(bs:Nat)(d:Option Nat)(v:AV):Z7.put ⟨sl,hp,ef,bs⟩ d v=⟨(Z7.put ⟨sl,hp,ef,bs⟩ d v).sl,hp,ef,bs⟩:=by cases d <;> rfl
theorem Z1z {e:Env}{hp:List Z5}{ef:Eff}{op:AOp}(hq:EL op=false){k:KV→Env→List Z5→Eff→KR} :
  opK G N bs P K e hp ef op k=opK G N bs P K e hp ef op fun v _ hp' ef'=>k v e hp' ef':=by
 cases op <;> first | rfl | (cases hq; done) | skip
 case call f args =>
  have:∀ (as:List (Nat ⊕ KX)) (e:Env) (vs:List AV) (e':Env),(as.any fun | .inl _=>true | .inr _=>false)=false→ZtW G N P e as=some (vs,e')→e'=e:=by
   intro as
   induction as with
   | nil=>intro e vs e' _ h; cases h; rfl
   | cons a l ih =>
    intro e vs e' hn h
    cases a with
    | inl t=>simp at hn
    | inr x =>
     simp only [ZtW] at h
     split at h
     ·split at h
      ·rename_i us e1 hus
       cases h
       exact ih e us e' (by simpa using hn) hus
      ·cases h
     ·cases h
  simp only [opK]
  congr 1
  funext f
  cases ha:ZtW G N P e args with
  | none=>rfl
  | some p =>
   obtain ⟨vs,e'⟩:=p
   cases this args e vs e' hq ha
   rfl
theorem Zth:∀ {as:List (Nat ⊕ KX)} {sl sl':List AV} {vs:List AV},(as.any fun | .inl _=>true | .inr _=>false)=false→D7 G sl as=some (vs,sl')→sl'=sl
 | [],sl,sl',vs,_,h=>by cases h; rfl
 | .inl t :: l,sl,sl',vs,hn,h=>by simp at hn
 | .inr x :: l,sl,sl',vs,hn,h=>by
  simp only [D7] at h
  split at h
  ·obtain ⟨p,hp,e⟩:=Option.map_eq_some_iff.1 h
   cases e
   exact Zth (by simpa using hn) hp
  ·cases h
theorem Z6s {α:Type}{s s':Z7}{x:Option α}{f:α→AV}{v:AV}(h:x.map (fun a=>(f a,s))=some (v,s')):s'.sl=s.sl:=by
 obtain ⟨w,_,e⟩:=Option.map_eq_some_iff.1 h
 exact (congrArg (fun p=>p.2.sl) e).symm
theorem Z53 {s s':Z7}{v w:AV}(h:some (w,s)=some (v,s')):s'.sl=s.sl:=(congrArg (fun p=>p.2.sl) (Option.some.inj h)).symm
theorem Z37 {s s' s1:Z7}{v w:AV}(h:some (w,s1)=some (v,s'))(h1:s1.sl=s.sl):s'.sl=s.sl:=by
 rw [← h1]; exact (congrArg (fun p=>p.2.sl) (Option.some.inj h)).symm
theorem Z4U {s s':Z7}{v:AV}(h:(none:Option (AV×Z7))=some (v,s')):s'.sl=s.sl:=nomatch h
theorem ZvO {call:FuncId→List AV→List Z5→KR}{s s':Z7}{op:AOp}{v:AV}(hq:EL op=false)(h:ZF G call s op=some (v,s')):s'.sl=s.sl:=by
 cases op
 case take t=>cases hq
 case stt p t=>cases hq
 case app k b t x=>cases hq
 case apps b t x=>cases hq
 case call f args =>
  simp only [ZF] at h
  split at h
  ·rename_i hf ha
   split at h
   ·have:=Z53 h
    rw [this]
    exact Zth hq ha
   ·exact absurd h (by simp)
  ·exact absurd h (by simp)
 all_goals
  simp only [ZF] at h
  repeat'
   first
   | exact Z6s h
   | exact Z4U h
   | exact Z37 h rfl
   | split at h
theorem Zwi {α:Type}(x:Option α)(f:α→KR)(k:AV→List Z5→Eff→KR):QV (Zd x f) k=Zd x fun a=>QV (f a) k:=by cases x <;> rfl
theorem Z3l {α:Type}(x:Option α)(f:α→KR)(k:AV→List Z5→Eff→KR):QV (rdK x f) k=rdK x fun a=>QV (f a) k:=by cases x <;> rfl
theorem Z1t {α β:Type}(x:Option (α×β))(f:α→β→KR)(k:AV→List Z5→Eff→KR):QV (TF x f) k=TF x fun a b=>QV (f a b) k:=by cases x <;> rfl
theorem Z1u {α β γ:Type}(x:Option (α×β×γ))(f:α→β→γ→KR)(k:AV→List Z5→Eff→KR):QV (QV x f) k=QV x fun a b c=>QV (f a b c) k:=by cases x <;> rfl
theorem Zy5 (b:Bool)(x y:KR)(k:AV→List Z5→Eff→KR):QV (Zi6 b x y) k=Zi6 b (QV x k) (QV y k):=by cases b <;> rfl
theorem ZtC (v:AV)(hp:List Z5)(ef:Eff)(k:AV→List Z5→Eff→KR):QV (some (v,hp,ef)) k=k v hp ef:=rfl
theorem ZtB (k:AV→List Z5→Eff→KR):QV none k=none:=rfl
theorem Z1p {e:Env}{hp:List Z5}{ef:Eff}{op:AOp}{k:KV→Env→List Z5→Eff→KR} :
  QV (opK G N bs P K e hp ef op fun v _ hp' ef'=>some (v.val,hp',ef')) (fun v hp' ef'=>k (.raw v) e hp' ef')=opK G N bs P K e hp ef op (fun v _ hp' ef'=>k (.raw v.val) e hp' ef'):=by
 cases op
 case mv x=>cases x <;> simp only [opK,mvK,Zwi,Zy5,ZtC,ZtB]
 all_goals simp only [opK,Zwi,Z3l,Z1t,Z1u,Zy5,ZtC,ZtB]
def Held (A:List (Nat×Bool))(sl:List AV):Prop:=∀ p ∈ A,sl[p.1]? = some (.bool p.2)
def Calm (A:List (Nat×Bool))(ops:List Jq):Prop:=A≠[]→∀ o ∈ ops,EL o.op=false∧∀ p ∈ A,o.dst≠some p.1
theorem Zxu:∀ {A:List (Nat×Bool)} {t:Nat} {w:Bool},inA t w A=true→(t,w) ∈ A
 | [],t,w,h=>by cases h
 | (u,v) :: l,t,w,h=>by
  simp only [inA] at h
  cases hb:(Nat.beq u t && (v == w)) with
  | true =>
   rw [Bool.and_eq_true] at hb
   have:=Nat.eq_of_beq_eq_true hb.1
   have hv:v=w:=by simpa using hb.2
   subst this; subst hv
   exact .head _
  | false=>rw [hb] at h; exact .tail _ (Zxu h)
theorem Held.put {A:List (Nat×Bool)}{sl:List AV}(h:Held A sl){hp:List Z5}{ef:Eff}{bs:Nat}{d:Option Nat}(hd:∀ p ∈ A,d≠some p.1)(v:AV):Held A (Z7.put ⟨sl,hp,ef,bs⟩ d v).sl:=by
 cases d with
 | none=>exact h
 | some d =>
  intro p hp
  show (sl.set d v)[p.1]? = _
  rw [List.getElem?_set,if_neg (fun e=>hd p hp (by rw [e]))]
  exact h p hp
theorem Z3g {A:List (Nat×Bool)}{o:Jq}{e:Env}{sl:List AV}(he:TR N P e sl)(hA:Held A sl)(hc:Calm A [o]){hp:List Z5}{ef:Eff}{k:IE}{r:AV×List Z5×Eff}(h:Z5n G N bs P K A o e hp ef k=some r) :
  ∃ (e':Env) (sl':List AV) (hp':List Z5) (ef':Eff),QA G K o ⟨sl,hp,ef,bs⟩=some ⟨sl',hp',ef',bs⟩∧TR N (rmO o.dst P) e' sl'∧Held A sl'∧k e' hp' ef'=some r:=by
 unfold Z5n at h
 have run:∀ {k':KV→Env→List Z5→Eff→KR} (hk:∀ v e' hp' ef',k' v e' hp' ef'=some r→∃ v',v'.val=v.val∧(ZwU v→ZwU v')∧k (e'.put o.dst v') hp' ef'=some r) (_:opK G N bs P K e hp ef o.op k'=some r) (_:TD ⟨sl,hp,ef,bs⟩ o.guard=some true),
   ∃ (e':Env) (sl':List AV) (hp':List Z5) (ef':Eff),QA G K o ⟨sl,hp,ef,bs⟩=some ⟨sl',hp',ef',bs⟩∧TR N (rmO o.dst P) e' sl'∧Held A sl'∧k e' hp' ef'=some r:=by
  intro k' hk h hw
  obtain ⟨v,e',sl',hp',ef',h1,h2,h3,h4⟩:=Z68 he h
  obtain ⟨v',a1,a2,a3⟩:=hk _ _ _ _ h4
  refine ⟨e'.put o.dst v',(Z7.put ⟨sl',hp',ef',bs⟩ o.dst v'.val).sl,hp',ef',?_,h2.put o.dst (a2 h3),?_,a3⟩
  ·simp only [QA,hw,h1,a1]
   rw [put_eq]
  ·by_cases hn:A=[]
   ·subst hn; intro p hp; cases hp
   ·obtain ⟨c1,c2⟩:=hc hn o (.head _)
    have:sl'=sl:=ZvO (s := ⟨sl,hp,ef,bs⟩) (s':=⟨sl',hp',ef',bs⟩) c1 h1
    subst this
    exact hA.put c2 _
 have skip:∀ (v:KV) (_:ZwU v) (_:v.val=.undef) (_:k (e.put o.dst v) hp ef=some r) (_:TD ⟨sl,hp,ef,bs⟩ o.guard=some false),
   ∃ (e':Env) (sl':List AV) (hp':List Z5) (ef':Eff),QA G K o ⟨sl,hp,ef,bs⟩=some ⟨sl',hp',ef',bs⟩∧TR N (rmO o.dst P) e' sl'∧Held A sl'∧k e' hp' ef'=some r:=by
  intro v hv hu h hw
  refine ⟨e.put o.dst v,(Z7.put ⟨sl,hp,ef,bs⟩ o.dst v.val).sl,hp,ef,?_,he.put o.dst hv,?_,h⟩
  ·simp only [QA,hw,hu]
   rw [put_eq]
  ·by_cases hn:A=[]
   ·subst hn; intro p hp; cases hp
   ·exact hA.put (hc hn o (.head _)).2 _
 split at h
 ·rename_i hg
  exact run (fun v e' hp' ef' hk=>⟨v,rfl,fun a=>a,hk⟩) h (by rw [hg]; rfl)
 ·rename_i t want hg
  cases hi:inA t want A with
  | true =>
   rw [hi,ZkZ] at h
   refine run (fun v e' hp' ef' hk=>⟨v,rfl,fun a=>a,hk⟩) h ?_
   rw [hg,Zq3 rfl (hA _ (Zxu hi))]
   simp [ZjE]
  | false =>
   rw [hi,Ziy] at h
   obtain ⟨h1,h⟩:=Zan h
   have hw:TD ⟨sl,hp,ef,bs⟩ o.guard=ZjE want (e t).val:=by rw [hg]; exact Zq3 rfl (he.get h1)
   cases ht:EL o.op with
   | true =>
    rw [ht,ZkZ] at h
    unfold Z3P at h
    split at h
    ·rename_i hb
     exact run (fun v e' hp' ef' hk=>⟨v,rfl,fun a=>a,hk⟩) h (hw.trans hb)
    ·rename_i hb
     exact skip (.cln .undef) rfl rfl h (hw.trans hb)
    ·cases h
   | false =>
    rw [ht,Ziy] at h
    unfold ZjF at h
    split at h
    ·rename_i hb
     have h':=Z1p (k := fun v e' hp' ef'=>k (e'.put o.dst v) hp' ef') ▸ h
     rw [← Z1z ht (k := fun v e' hp' ef'=>k (e'.put o.dst (.raw v.val)) hp' ef')] at h'
     exact run (fun v e' hp' ef' hk=>⟨.raw v.val,rfl,fun _=>rfl,hk⟩) h' (hw.trans hb)
    ·rename_i hb
     exact skip (.raw .undef) rfl rfl h (hw.trans hb)
    ·cases h
theorem ZjD {call:FuncId→List AV→List Z5→KR}:∀ (a b:List Jq) (s:Z7),Jj G call (a ++ b) s=(Jj G call a s).bind (Jj G call b)
 | [],b,s=>rfl
 | o :: l,b,s=>by
  simp only [List.cons_append,Jj]
  cases QA G call o s with
  | none=>rfl
  | some s'=>exact ZjD l b s'
theorem ZvW {call:FuncId→List AV→List Z5→KR}{t:Nat}{want:Bool}{P:List Nat}:∀ (ops:List Jq) (ds:List Nat) (sl:List AV) (hp:List Z5) (ef:Eff),sl[t]? = some (.bool (!want))→(∀ d ∈ ds,sl[d]? = some .undef)→sl.length=N →
  ∃ sl',Jj G call (ops.take (Px N t want P ds ops)) ⟨sl,hp,ef,bs⟩=some ⟨sl',hp,ef,bs⟩∧sl'.length=sl.length∧∀ j,j ∉ P→sl'[j]? = sl[j]?
 | [],ds,sl,hp,ef,_,_,_=>⟨sl,rfl,rfl,fun _ _=>rfl⟩
 | o :: l,ds,sl,hp,ef,h1,h2,h3=>by
  have stay:Px N t want P ds (o :: l)=0→∃ sl',Jj G call ((o :: l).take (Px N t want P ds (o :: l))) ⟨sl,hp,ef,bs⟩=some ⟨sl',hp,ef,bs⟩∧sl'.length=sl.length∧∀ j,j ∉ P→sl'[j]? = sl[j]?:=by
   intro h0
   rw [h0]
   exact ⟨sl,rfl,rfl,fun _ _=>rfl⟩
  cases hg:o.guard with
  | none=>exact stay (by simp only [Px,hg])
  | some uw =>
   obtain ⟨u,w⟩:=uw
   cases hd:o.dst with
   | none=>exact stay (by simp only [Px,hg,hd])
   | some d =>
    cases hb:(((Nat.beq u t && (w == want)) || !ZaJ ds u) && !Nat.beq d t && !ZaJ P d && !EL o.op && Nat.blt d N) with
    | false=>exact stay (by simp only [Px,hg,hd,hb])
    | true =>
     have hl:Px N t want P ds (o :: l)=Px N t want P (d :: ds) l + 1:=by simp only [Px,hg,hd,hb]
     rw [hl,List.take_succ_cons]
     simp only [Bool.and_eq_true,Bool.or_eq_true,Bool.not_eq_true'] at hb
     obtain ⟨⟨⟨⟨b1,b2⟩,b3⟩,b4⟩,b5⟩:=hb
     have hdt:d≠t:=fun e=>by subst e; rw [Nat.beq_refl] at b2; cases b2
     have hdP:d ∈ P:=Classical.byContradiction fun hn=>by rw [Zdp.2 hn] at b3; cases b3
     have hw:TD ⟨sl,hp,ef,bs⟩ (some (u,w))=some false:=by
      rcases b1 with ⟨c1,c2⟩ | c1
      ·have:=Nat.eq_of_beq_eq_true c1
       have hw:w=want:=by simpa using c2
       subst this; subst hw
       simp [TD,h1]
      ·have:u ∈ ds:=Classical.byContradiction fun hn=>by rw [Zdp.2 hn] at c1; cases c1
       simp [TD,h2 u this]
     obtain ⟨sl',a1,a2,a3⟩:=ZvW l (d :: ds) (sl.set d .undef) hp ef (by rw [List.getElem?_set,if_neg hdt]; exact h1)
      (fun x hx=>by
       rw [List.getElem?_set]
       by_cases e:d=x
       ·subst e; simp [h3,show d < N from Nat.le_of_ble_eq_true b5]
       ·rw [if_neg e]
        rcases List.mem_cons.1 hx with e' | hx
        ·exact absurd e'.symm e
        ·exact h2 x hx)
      (by rw [List.length_set]; exact h3)
     refine ⟨sl',?_,by rw [a2,List.length_set],fun j hj=>?_⟩
     ·simp only [Jj,QA,hg,hw,hd]
      exact a1
     ·rw [a3 j hj,List.getElem?_set,if_neg (fun (e:d=j)=>hj (e ▸ hdP))]
theorem Zt4 {t:Nat}{want:Bool}{P:List Nat}:∀ (ops:List Jq) (ds:List Nat),∀ o ∈ ops.take (Px N t want P ds ops),EL o.op=false∧o.dst≠some t∧∀ d,o.dst=some d→d ∈ P
 | [],ds,o,ho=>by cases ho
 | o :: l,ds,o',ho=>by
  cases hg:o.guard with
  | none=>rw [show Px N t want P ds (o :: l)=0 by simp only [Px,hg]] at ho; cases ho
  | some uw =>
   obtain ⟨u,w⟩:=uw
   cases hd:o.dst with
   | none=>rw [show Px N t want P ds (o :: l)=0 by simp only [Px,hg,hd]] at ho; cases ho
   | some d =>
    cases hb:(((Nat.beq u t && (w == want)) || !ZaJ ds u) && !Nat.beq d t && !ZaJ P d && !EL o.op && Nat.blt d N) with
    | false=>rw [show Px N t want P ds (o :: l)=0 by simp only [Px,hg,hd,hb]] at ho; cases ho
    | true =>
     rw [show Px N t want P ds (o :: l)=Px N t want P (d :: ds) l + 1 by simp only [Px,hg,hd,hb],List.take_succ_cons] at ho
     simp only [Bool.and_eq_true,Bool.or_eq_true,Bool.not_eq_true'] at hb
     obtain ⟨⟨⟨⟨b1,b2⟩,b3⟩,b4⟩,b5⟩:=hb
     rcases List.mem_cons.1 ho with e | ho
     ·subst e
      refine ⟨b4,fun e=>?_,fun x hx=>?_⟩
      ·rw [hd] at e; cases e; rw [Nat.beq_refl] at b2; cases b2
      ·rw [hd] at hx; cases hx
       exact Classical.byContradiction fun hn=>by rw [Zdp.2 hn] at b3; cases b3
     ·exact Zt4 l (d :: ds) o' ho
theorem Zx9 {call:FuncId→List AV→List Z5→KR}{P:List Nat}:∀ (ops:List Jq) (s s':Z7),(∀ o ∈ ops,EL o.op=false∧∀ d,o.dst=some d→d ∈ P)→Jj G call ops s=some s'→s'.sl.length=s.sl.length∧∀ j,j ∉ P→s'.sl[j]? = s.sl[j]?
 | [],s,s',_,h=>by cases h; exact ⟨rfl,fun _ _=>rfl⟩
 | o :: l,s,s',hc,h=>by
  simp only [Jj] at h
  split at h
  ·rename_i s1 h1
   obtain ⟨a1,a2⟩:=Zx9 l s1 s' (fun o ho=>hc o (.tail _ ho)) h
   have one:s1.sl.length=s.sl.length∧∀ j,j ∉ P→s1.sl[j]? = s.sl[j]?:=by
    obtain ⟨c1,c2⟩:=hc o (.head _)
    have putOff:∀ (s2:Z7) (v:AV),s2.sl=s.sl→(s2.put o.dst v).sl.length=s.sl.length∧∀ j,j ∉ P→(s2.put o.dst v).sl[j]? = s.sl[j]?:=by
     intro s2 v h2
     cases hd:o.dst with
     | none=>exact ⟨congrArg _ h2,fun _ _=>by show s2.sl[_]? = _; rw [h2]⟩
     | some d=>exact ⟨by show (s2.sl.set d v).length=_; rw [List.length_set,h2],fun j hj=>by show (s2.sl.set d v)[j]? = _; rw [List.getElem?_set,if_neg (fun (e:d=j)=>hj (e ▸ c2 d hd)),h2]⟩
    unfold QA at h1
    split at h1
    ·split at h1
     ·rename_i hev
      have e1:=ZvO c1 hev
      cases h1
      exact putOff _ _ e1
     ·cases h1
    ·cases h1
     exact putOff s _ rfl
    ·cases h1
   exact ⟨a1.trans one.1,fun j hj=>(a2 j hj).trans (one.2 j hj)⟩
  ·cases h
theorem Z2F {A:List (Nat×Bool)}{P:List Nat}{ops:List Jq}{t:Nat}{want:Bool}{m:Nat}{d:Option Nat}{a b:KX}{rest:List Jq}(h:Z0L N A P ops=some (t,want,m,d,a,b,rest)) :
  m=Px N t want P [] ops∧t < N∧t ∉ P∧∃ g,ops.drop m=⟨d,.pick (.tmp t) a b,g⟩ :: rest∧(g=none∨∃ p ∈ A,g=some p):=by
 unfold Z0L at h
 split at h
 ·cases h
 ·rename_i o l
  split at h
  ·cases h
  ·rename_i t' want' hg
   cases hi:inA t' want' A with
   | true=>rw [hi,ZkZ] at h; cases h
   | false =>
    rw [hi,Ziy] at h
    split at h
    ·rename_i d' u a' b' rest' hd
     obtain ⟨h1,h2⟩:=Zan h
     simp only [Bool.and_eq_true] at h1
     obtain ⟨⟨⟨c1,c2⟩,c3⟩,c4⟩:=h1
     cases h2
     have:=Nat.eq_of_beq_eq_true c1
     subst this
     exact ⟨rfl,Nat.le_of_ble_eq_true c2,Zdp.1 c3,none,hd,.inl rfl⟩
    ·rename_i d' u a' b' gt gw rest' hd
     obtain ⟨h1,h2⟩:=Zan h
     simp only [Bool.and_eq_true] at h1
     obtain ⟨⟨⟨⟨c0,c1⟩,c2⟩,c3⟩,c4⟩:=h1
     cases h2
     have:=Nat.eq_of_beq_eq_true c1
     subst this
     exact ⟨rfl,Nat.le_of_ble_eq_true c2,Zdp.1 c3,some (gt,gw),hd,.inr ⟨_,Zxu c0,rfl⟩⟩
    ·cases h
theorem Z48:∀ (c w:Bool),(c == w)=false→c=!w:=by decide
theorem Zu8:∀ (n:Nat) {A:List (Nat×Bool)} {P:List Nat} {ops:List Jq} {e:Env} {sl:List AV} (_:TR N P e sl) (_:Held A sl) (_:Calm A ops) {hp:List Z5} {ef:Eff} {k:IE} {r:AV×List Z5×Eff},Zy3 G N bs K n A P ops k e hp ef=some r →
  ∃ (e':Env) (sl':List AV) (hp':List Z5) (ef':Eff),Jj G K ops ⟨sl,hp,ef,bs⟩=some ⟨sl',hp',ef',bs⟩∧TR N (Z0C N n A P ops) e' sl'∧Held A sl'∧k e' hp' ef'=some r
 | 0,A,P,[],e,sl,he,hA,_,hp,ef,k,r,h=>⟨e,sl,hp,ef,rfl,he,hA,by simpa [Zy3] using h⟩
 | n + 1,A,P,[],e,sl,he,hA,_,hp,ef,k,r,h=>⟨e,sl,hp,ef,rfl,he,hA,by simpa [Zy3] using h⟩
 | 0,A,P,o :: l,e,sl,he,hA,_,hp,ef,k,r,h=>by simp [Zy3] at h
 | n + 1,A,P,o :: l,e,sl,he,hA,hc,hp,ef,k,r,h=>by
  cases hg:Z0L N A P (o :: l) with
  | some gg =>
   obtain ⟨t,want,m,d,a,b,rest⟩:=gg
   simp only [Zy3,hg] at h
   simp only [Z0C,hg]
   obtain ⟨hm,htN,htP,g,hdrop,hgd⟩:=Z2F hg
   have hsplit:o :: l=(o :: l).take m ++ ⟨d,.pick (.tmp t) a b,g⟩ :: rest:=by rw [← hdrop,List.take_append_drop]
   have hcalm:∀ o' ∈ (o :: l).take m,EL o'.op=false∧o'.dst≠some t∧∀ x,o'.dst=some x→x ∈ P:=by rw [hm]; exact Zt4 _ _
   have hcA:A≠[]→∀ p ∈ A,d≠some p.1:=fun hne p hp=>(hc hne ⟨d,.pick (.tmp t) a b,g⟩ (by rw [hsplit]; exact List.mem_append_right _ (.head _))).2 p hp
   have ht:sl[t]? = some (e t).val:=he.val t htN htP
   have behind:∀ (sl1:List AV) (hp1:List Z5) (ef1:Eff) (c:Bool) (v:AV),Jj G K ((o :: l).take m) ⟨sl,hp,ef,bs⟩=some ⟨sl1,hp1,ef1,bs⟩→sl1.length=sl.length→(∀ j,j ∉ P→sl1[j]? = sl[j]?)→Held A sl1→sl1[t]? = some (.bool c) →
     opnd G sl1 (if c then a else b)=some v→Zy3 G N bs K n A (rmO d P) rest k (e.put d (.raw v)) hp1 ef1=some r →
     ∃ (e':Env) (sl':List AV) (hp':List Z5) (ef':Eff),Jj G K (o :: l) ⟨sl,hp,ef,bs⟩=some ⟨sl',hp',ef',bs⟩∧TR N (Z0C N n A (rmO d P) rest) e' sl'∧Held A sl'∧k e' hp' ef'=some r:=by
    intro sl1 hp1 ef1 c v h1 hlen hoff hA1 hc1 hv hk
    have he1:TR N P e sl1:=⟨hlen.trans he.len,fun j hj hn=>(hoff j hn).trans (he.val j hj hn),he.ok⟩
    have hput:=he1.put d (v := .raw v) (Zia v) (hp := hp1) (ef := ef1) (bs := bs)
    have hA2:Held A (Z7.put ⟨sl1,hp1,ef1,bs⟩ d v).sl:=by
     by_cases hne:A=[]
     ·subst hne; intro p hp; cases hp
     ·exact hA1.put (hcA hne) v
    obtain ⟨e',sl',hp',ef',b1,b2,b3,b4⟩:=Zu8 n hput hA2 (fun hne o' ho'=>hc hne o' (by rw [hsplit]; exact List.mem_append_right _ (.tail _ ho'))) hk
    refine ⟨e',sl',hp',ef',?_,b2,b3,b4⟩
    rw [hsplit,ZjD,h1]
    show Jj G K (⟨d,.pick (.tmp t) a b,g⟩ :: rest) ⟨sl1,hp1,ef1,bs⟩=_
    have hw:TD ⟨sl1,hp1,ef1,bs⟩ g=some true:=by
     rcases hgd with e0 | ⟨p,hp,e0⟩
     ·subst e0; rfl
     ·subst e0
      obtain ⟨p1,p2⟩:=p
      rw [Zq3 rfl (hA1 _ hp)]
      simp [ZjE]
    have hop:ZF G K ⟨sl1,hp1,ef1,bs⟩ (.pick (.tmp t) a b)=some (v,⟨sl1,hp1,ef1,bs⟩):=by
     have:opnd G sl1 (.tmp t)=some (.bool c):=by simp only [Abs.opnd,hc1,Option.map_some]; rfl
     cases c with
     | true=>simp only [if_true] at hv; simp only [ZF,this,hv,Option.map_some]
     | false=>simp only [Bool.false_eq_true,if_false] at hv; simp only [ZF,this,hv,Option.map_some]
    simp only [Jj,QA,hw,hop]
    rw [put_eq]
    exact b1
   unfold VT at h
   split at h
   ·rename_i c hcv
    rw [hcv] at ht
    split at h
    ·rename_i hcw
     have hcw:c=want:=by simpa using hcw
     subst hcw
     obtain ⟨v,hp1,ef1,h1,h2⟩:=Zif h
     have hA':Held ((t,c) :: A) sl:=by
      intro p hp
      rcases List.mem_cons.1 hp with e0 | hp
      ·subst e0; exact ht
      ·exact hA p hp
     have hc':Calm ((t,c) :: A) ((o :: l).take m):=by
      intro _ o' ho'
      obtain ⟨q1,q2,q3⟩:=hcalm o' ho'
      refine ⟨q1,fun p hp=>?_⟩
      rcases List.mem_cons.1 hp with e0 | hp
      ·subst e0; exact q2
      ·exact (hc (by intro h0; subst h0; cases hp) o' (by rw [hsplit]; exact List.mem_append_left _ ho')).2 p hp
     obtain ⟨e1,sl1,hp2,ef2,b1,b2,b3,b4⟩:=Zu8 n he hA' hc' h1
     obtain ⟨v',g1,g2⟩:=QK b4
     cases g2
     obtain ⟨o1,o2⟩:=Zx9 (P := P) _ _ _ (fun o' ho'=>⟨(hcalm o' ho').1,(hcalm o' ho').2.2⟩) b1
     refine behind sl1 _ _ c _ b1 o1 o2 (fun p hp=>b3 p (.tail _ hp)) (b3 _ (.head _)) ?_ h2
     have:=b2.opnd g1
     cases c <;> exact this
    ·rename_i hcw
     have hcw:c=!want:=Z48 _ _ hcw
     subst hcw
     obtain ⟨v,h1,h2⟩:=U8 h
     obtain ⟨sl1,b1,b2,b3⟩:=ZvW (G := G) (N := N) (bs := bs) (call := K) (P := P) (t := t) (want := want) (o :: l) [] sl hp ef ht (fun _ hx=>by cases hx) he.len
     rw [← hm] at b1
     have he1:TR N P e sl1:=⟨b2.trans he.len,fun j hj hn=>(b3 j hn).trans (he.val j hj hn),he.ok⟩
     have hA1:Held A sl1:=by
      by_cases hne:A=[]
      ·subst hne; intro p hp; cases hp
      ·have hall:∀ o' ∈ (o :: l).take m,∀ p ∈ A,o'.dst≠some p.1:=fun o' ho' p hp=>(hc hne o' (by rw [hsplit]; exact List.mem_append_left _ ho')).2 p hp
       intro p hp
       have:=Zx9 (G := G) (call := K) (P := ((o :: l).take m).filterMap (·.dst)) _ _ _ (fun o' ho'=>⟨(hcalm o' ho').1,fun x hx=>List.mem_filterMap.2 ⟨o',ho',hx⟩⟩) b1
       rw [this.2 p.1 (fun hmem=>by obtain ⟨o',ho',hx⟩:=List.mem_filterMap.1 hmem; exact hall o' ho' p hp hx)]
       exact hA p hp
     refine behind sl1 _ _ (!want) _ b1 b2 b3 hA1 (by rw [b3 t htP]; exact ht) ?_ h2
     have:=he1.opnd h1
     cases want <;> exact this
   ·cases h
  | none =>
   simp only [Zy3,hg] at h
   simp only [Z0C,hg]
   obtain ⟨e1,sl1,hp1,ef1,h1,h2,h3,h4⟩:=Z3g he hA (fun hne o' ho'=>hc hne o' (by rcases List.mem_cons.1 ho' with e0 | e0; (subst e0; exact .head _); cases e0)) h
   obtain ⟨e2,sl2,hp2,ef2,g1,g2,g3,g4⟩:=Zu8 n h2 h3 (fun hne o' ho'=>hc hne o' (.tail _ ho')) h4
   exact ⟨e2,sl2,hp2,ef2,by simp only [Jj,h1,g1],g2,g3,g4⟩
theorem Z1c {P:List Nat}{d:Option Nat}{t:Nat}(h:t ∈ rmO d P):t ∈ P:=by
 cases d with
 | none=>exact h
 | some d=>exact (Zyt.1 h).1
theorem Zu0:∀ (n:Nat) {A:List (Nat×Bool)} {P:List Nat} {ops:List Jq} {t:Nat},t ∈ Z0C N n A P ops→t ∈ P
 | 0,A,P,ops,t,h=>by simpa [Z0C] using h
 | n + 1,A,P,[],t,h=>by simpa [Z0C] using h
 | n + 1,A,P,o :: l,t,h=>by
  unfold Z0C at h
  split at h
  ·exact Z1c (Zu0 n h)
  ·exact Z1c (Zu0 n h)
theorem Zu7 {P:List Nat}{ops:List Jq}{e:Env}{sl:List AV}(he:TR N P e sl){hp:List Z5}{ef:Eff}{k:IE}{r:AV×List Z5×Eff}(h:Zy3 G N bs K ops.length [] P ops k e hp ef=some r) :
  Z2r N bs P (Jj G K ops ⟨sl,hp,ef,bs⟩) k r:=by
 obtain ⟨e',sl',hp',ef',h1,h2,_,h4⟩:=Zu8 ops.length he (fun p hp=>by cases hp) (fun hne=>absurd rfl hne) h
 exact ⟨e',sl',hp',ef',h1,h2.mono fun t ht=>Zu0 _ ht,h4⟩
def Goes (N bs:Nat)(P:List Nat)(x:Option (Zg9×Z7))(n rt:IE)(xs:List (Nat×IE))(r:AV×List Z5×Eff):Prop :=
 ∃ (ex:Zg9) (e':Env) (sl':List AV) (hp':List Z5) (ef':Eff),x=some (ex,⟨sl',hp',ef',bs⟩)∧TR N P e' sl'∧match ex with
  | .normal=>n e' hp' ef'=some r
  | .ret=>rt e' hp' ef'=some r
  | .exit i=>Z2Q i xs e' hp' ef'=some r
variable {L:Nat}
theorem Yn (a b:Zr)(n r:IE)(xs:List (Nat×IE)):Yh G N bs K P L (.seq a b) n r xs=Yh G N bs K P L a (Yh G N bs K P L b n r xs) r xs:=rfl
theorem ZB (id:Nat)(c:Zr)(n r:IE)(xs:List (Nat×IE)):Yh G N bs K P L (.block id c) n r xs=Yh G N bs K P L c n r ((id,n) :: xs):=rfl
theorem ZC (c:Zr)(n r:IE)(xs:List (Nat×IE)):Yh G N bs K P L (.scope c) n r xs=Yh G N bs K P L c n r xs:=rfl
theorem ZQ (c:KX)(a b:Zr)(n r:IE)(xs:List (Nat×IE)):Yh G N bs K P L (.cond c a b) n r xs=fun e hp ef=>rdK (LP G N P e c) fun v=>ifK v (Yh G N bs K P L a n r xs e hp ef) (Yh G N bs K P L b n r xs e hp ef):=rfl
theorem ZdG:∀ (c:Zr) {n rt:IE} {xs:List (Nat×IE)} {e:Env} {sl:List AV} (_:TR N P e sl) {hp:List Z5} {ef:Eff} {r:AV×List Z5×Eff},Yh G N bs K P L c n rt xs e hp ef=some r →
  Goes N bs P (XV G K L c ⟨sl,hp,ef,bs⟩) n rt xs r
 | .skip,n,rt,xs,e,sl,he,hp,ef,r,h=>⟨.normal,e,sl,hp,ef,rfl,he,h⟩
 | .region false ops,n,rt,xs,e,sl,he,hp,ef,r,h=>by
  obtain ⟨e',sl',hp',ef',h1,h2,h3⟩:=Zu7 he h
  exact ⟨.normal,e',sl',hp',ef',by simp only [XV,h1,Option.map_some],h2,h3⟩
 | .region true ops,n,rt,xs,e,sl,he,hp,ef,r,h=>by
  obtain ⟨e',sl',hp',ef',h1,h2,h3⟩:=Zu7 he h
  exact ⟨.normal,e',sl',hp',ef',by simp only [XV,h1,Option.map_some],h2,h3⟩
 | .regionB ops,n,rt,xs,e,sl,he,hp,ef,r,h=>by
  obtain ⟨e',sl',hp',ef',h1,h2,h3⟩:=Zu7 he h
  exact ⟨.normal,e',sl',hp',ef',by simp only [XV,h1,Option.map_some],h2,h3⟩
 | .seq a b,n,rt,xs,e,sl,he,hp,ef,r,h=>by
  obtain ⟨ex,e',sl',hp',ef',h1,h2,h3⟩:=ZdG a he h
  cases ex with
  | normal =>
   obtain ⟨ex,e2,sl2,hp2,ef2,g1,g2,g3⟩:=ZdG b h2 h3
   exact ⟨ex,e2,sl2,hp2,ef2,by simp only [XV,h1,g1],g2,g3⟩
  | ret=>exact ⟨.ret,e',sl',hp',ef',by simp only [XV,h1],h2,h3⟩
  | exit i=>exact ⟨.exit i,e',sl',hp',ef',by simp only [XV,h1],h2,h3⟩
 | .cond c a b,n,rt,xs,e,sl,he,hp,ef,r,h=>by
  obtain ⟨v,h1,h2⟩:=QK (show rdK (LP G N P e c) (fun v=>ifK v (Yh G N bs K P L a n rt xs e hp ef) (Yh G N bs K P L b n rt xs e hp ef))=some r from h)
  unfold ifK at h2
  split at h2
  ·obtain ⟨ex,e',sl',hp',ef',g1,g2,g3⟩:=ZdG a he h2
   exact ⟨ex,e',sl',hp',ef',by simp only [XV,he.opnd h1,g1],g2,g3⟩
  ·obtain ⟨ex,e',sl',hp',ef',g1,g2,g3⟩:=ZdG b he h2
   exact ⟨ex,e',sl',hp',ef',by simp only [XV,he.opnd h1,g1],g2,g3⟩
  ·cases h2
 | .block id c,n,rt,xs,e,sl,he,hp,ef,r,h=>by
  obtain ⟨ex,e',sl',hp',ef',h1,h2,h3⟩:=ZdG c he h
  cases ex with
  | normal=>exact ⟨.normal,e',sl',hp',ef',by simp only [XV,h1],h2,h3⟩
  | ret=>exact ⟨.ret,e',sl',hp',ef',by simp only [XV,h1],h2,h3⟩
  | exit i =>
   simp only [Z2Q] at h3
   by_cases hi:i=id
   ·subst hi
    rw [Nat.beq_refl,ZkZ] at h3
    exact ⟨.normal,e',sl',hp',ef',by simp only [XV,h1,if_true],h2,h3⟩
   ·have:Nat.beq id i=false:=by cases hb:Nat.beq id i with | false=>rfl | true=>exact absurd (Nat.eq_of_beq_eq_true hb).symm hi
    rw [this,Ziy] at h3
    exact ⟨.exit i,e',sl',hp',ef',by simp only [XV,h1,if_neg hi],h2,h3⟩
 | .loop c,n,rt,xs,e,sl,he,hp,ef,r,h=>by
  have go:∀ (m:Nat) {e:Env} {sl:List AV} (_:TR N P e sl) {hp:List Z5} {ef:Eff},ZqA (fun n'=>Yh G N bs K P L c n' rt xs) m e hp ef=some r →
    Goes N bs P (iter (XV G K L c) m ⟨sl,hp,ef,bs⟩) n rt xs r:=by
   intro m
   induction m with
   | zero=>intro e sl he hp ef h; cases h
   | succ m ih =>
    intro e sl he hp ef h
    obtain ⟨ex,e',sl',hp',ef',h1,h2,h3⟩:=ZdG c he (show Yh G N bs K P L c (ZqA (fun n'=>Yh G N bs K P L c n' rt xs) m) rt xs e hp ef=some r from h)
    cases ex with
    | normal =>
     obtain ⟨ex,e2,sl2,hp2,ef2,g1,g2,g3⟩:=ih h2 h3
     exact ⟨ex,e2,sl2,hp2,ef2,by simp only [iter,h1,g1],g2,g3⟩
    | ret=>exact ⟨.ret,e',sl',hp',ef',by simp only [iter,h1],h2,h3⟩
    | exit i=>exact ⟨.exit i,e',sl',hp',ef',by simp only [iter,h1],h2,h3⟩
  exact go L he h
 | .scope c,n,rt,xs,e,sl,he,hp,ef,r,h=>ZdG c he h
 | .exit id,n,rt,xs,e,sl,he,hp,ef,r,h=>⟨.exit id,e,sl,hp,ef,rfl,he,h⟩
 | .ret,n,rt,xs,e,sl,he,hp,ef,r,h=>⟨.ret,e,sl,hp,ef,rfl,he,h⟩
 | .bad,n,rt,xs,e,sl,he,hp,ef,r,h=>by cases h
end
theorem Z1Q {e:Env}{N:Nat}{P:List Nat}{sl:List AV}(he:TR N P e sl){hp:List Z5}{ef:Eff}{bs:Nat}{r:ZwT}{v:AV}(h:Z7g e N P hp r=some v):ZnX ⟨sl,hp,ef,bs⟩ r=some v:=by
 cases r <;> simp only [Z7g] at h <;> obtain ⟨h1,h2⟩:=Zan h
 ·cases h2; exact he.get h1
 ·simp only [ZnX,he.get h1,h2]
 ·simp only [ZnX,he.get h1,h2]
theorem Zza {e:Env}{N:Nat}{P:List Nat}{sl:List AV}(he:TR N P e sl){hp:List Z5}{ef:Eff}{bs:Nat}:∀ {rs:List ZwT} {k:List AV→KR} {q:AV×List Z5×Eff},Z31 e N P hp rs k=some q→∃ vs,Zis ⟨sl,hp,ef,bs⟩ rs=some vs∧k vs=some q
 | [],k,q,h=>⟨[],rfl,h⟩
 | r :: l,k,q,h=>by
  simp only [Z31] at h
  obtain ⟨v,hv,h⟩:=QK h
  obtain ⟨vs,hvs,h⟩:=Zza (ef := ef) (bs := bs) he h
  exact ⟨v.nm :: vs,by simp only [Zis,Z1Q he hv,hvs],h⟩
theorem ZzQ {e:Env}{N:Nat}{P:List Nat}{sl:List AV}(he:TR N P e sl){hp:List Z5}{ef:Eff}{bs:Nat}{rs:List ZwT}{k:AV→KR}{q:AV×List Z5×Eff}(h:ZxK e N P hp rs k=some q):∃ v,Zcy ⟨sl,hp,ef,bs⟩ rs=some v∧k v=some q:=by
 unfold ZxK at h
 split at h
 ·obtain ⟨v,hv,h⟩:=QK h
  exact ⟨v,Z1Q he hv,h⟩
 ·rename_i hne
  obtain ⟨vs,hvs,h⟩:=Zza (ef := ef) (bs := bs) he h
  refine ⟨_,?_,h⟩
  unfold Zcy
  split
  ·exact absurd rfl (hne _)
  ·rw [hvs]; rfl
theorem ZtV:∀ (args:List AV) (t:Nat),EW args t=.raw (args.getD t .undef)
 | [],t=>by simp [EW]
 | v :: l,0=>rfl
 | v :: l,t + 1=>by
  show EW l t=_
  rw [ZtV l t]
  rfl
theorem Z46 {args:List AV}{N:Nat}{P:List Nat}(h:args.length≤N):TR N P (EW args) (args ++ List.replicate (N - args.length) .undef):=by
 refine ⟨by simp; omega,fun t ht _=>?_,fun t=>by rw [ZtV]; rfl⟩
 rw [ZtV,List.getD_eq_getElem?_getD]
 by_cases h1:t < args.length
 ·rw [List.getElem?_append_left h1]; simp [h1,KV.val]
 ·rw [List.getElem?_append_right (by omega),List.getElem?_replicate]
  simp [show t - args.length < N - args.length by omega,show args[t]? = none from List.getElem?_eq_none (by omega),KV.val]
theorem Z6a {C:Cfg}{P:List Nat}{f:FuncId}{fn:AFn}(hT:C.T f=some fn){n:Nat}{args:List AV}{hp:List Z5}{r:AV×List Z5×Eff}(hl:args.length≤fn.ntmps)(h:fnK C.G (Za C n) P C.L fn args hp=some r) :
  Za C (n + 1) f args hp=some r:=by
 obtain ⟨ex,e',sl',hp',ef',h1,h2,h3⟩:=ZdG fn.code (Z46 hl) h
 have hret:∀ (_:Wi P fn hp e' hp' ef'=some r),∃ v,Zcy ⟨sl',hp',ef',hp.length⟩ fn.results=some v∧(if fn.keep then (v.nm,hp',ef') else finish v ⟨sl',hp',ef',hp.length⟩ hp)=r:=by
  intro h
  obtain ⟨v,a1,a2⟩:=ZzQ h2 h
  refine ⟨v,a1,?_⟩
  cases a2
  unfold Vm
  cases fn.keep <;> rfl
 rw [Za]
 simp only [hT,h1]
 cases ex with
 | normal =>
  obtain ⟨v,a1,a2⟩:=hret h3
  simp only [a1,a2]
 | ret =>
  obtain ⟨v,a1,a2⟩:=hret h3
  simp only [a1,a2]
 | exit i=>cases h3
end Go.Proofs.YtlmfmmclnboglaaGreat.Abs
end
section
namespace Go.Proofs.YtlmfmmclnboglaaGreat.Abs
open Go
theorem Z4j {α:Type}(v:α)(k:α→KR):Zd (some v) k=k v:=rfl
theorem Z4h {α β:Type}(a:α)(b:β)(k:α→β→KR):TF (some (a,b)) k=k a b:=rfl
theorem Z4i {α β γ:Type}(a:α)(b:β)(c:γ)(k:α→β→γ→KR):QV (some (a,b,c)) k=k a b c:=rfl
theorem Z6e (b:Bool)(x y:KR):ifK (.bool b) x y=if b=true then x else y:=by cases b <;> rfl
theorem Zyp (x:KR)(hp:List Z5)(ef:Eff)(k:AV→List Z5→Eff→KR):ZjF (some true) x hp ef k=QV x k:=rfl
theorem Zyo (x:KR)(hp:List Z5)(ef:Eff)(k:AV→List Z5→Eff→KR):ZjF (some false) x hp ef k=k .undef hp ef:=rfl
theorem ZvY (b:Bool):ZjE true (.bool b)=some b:=by cases b <;> rfl
theorem ZvX (b:Bool):ZjE false (.bool b)=some (!b):=by cases b <;> rfl
theorem Z1x (a b:AV):ZsQ (.bool true) a b=some a:=rfl
theorem Z1w (a b:AV):ZsQ (.bool false) a b=some b:=rfl
theorem Z3T {α:Type}(x:α)(k:α→KR):UK x k=k x:=rfl
theorem Z1T (b:Bool):AV.ro (.bool b)=.bool b:=rfl
theorem Z4u (k:IntKind)(n:Int):AV.ro (.int k n)=.int k n:=rfl
theorem Z40 (s:List UInt8):AV.ro (.str s)=.str s:=rfl
theorem Z4v (k:Nat)(r:List (List AV)):AV.ro (.lst k r)=.lst k r:=rfl
theorem Z4x (k:Nat)(r:List (List AV)):AV.ro (.own k r)=.lst k r:=rfl
theorem Z4s (c:List AV):AV.ro (.agg c)=.agg c:=rfl
theorem Z41 (c:List AV):AV.ro (.tup c)=.tup c:=rfl
theorem Z4y (g o:Nat):AV.ro (.ptr g o)=.ptr g o:=rfl
theorem Z4w (g:Nat):AV.ro (.map g)=.map g:=rfl
theorem Z4z (c:List AV):AV.ro (.ref c)=.ref c:=rfl
theorem Z6I (f:FuncId)(a c:List AV):AV.ro (.fn f a c)=.fn f a c:=rfl
theorem Zzb:AV.ro .undef=.undef:=rfl
theorem Z1g (b:Bool):AV.nm (.bool b)=.bool b:=rfl
theorem Z3W (k:IntKind)(n:Int):AV.nm (.int k n)=.int k n:=rfl
theorem Z4b (s:List UInt8):AV.nm (.str s)=.str s:=rfl
theorem Z3X (k:Nat)(r:List (List AV)):AV.nm (.lst k r)=.lst k r:=rfl
theorem Z3Z (k:Nat)(r:List (List AV)):AV.nm (.own k r)=.lst k r:=rfl
theorem Za9 (c:List AV):AV.nm (.agg c)=.agg (c.map AV.ro):=rfl
theorem Z4a (g o:Nat):AV.nm (.ptr g o)=.ptr g o:=rfl
theorem Z3Y (g:Nat):AV.nm (.map g)=.map g:=rfl
theorem Z6v (f:FuncId)(a c:List AV):AV.nm (.fn f a c)=.fn f a c:=rfl
theorem Gx (c:List AV):AV.cells (.agg c)=c:=rfl
theorem Z5S (op:BinOp)(a b:List UInt8):Zc op .prim (.str a) (.str b)=ZwJ op a b:=rfl
theorem Z5M (k:IntKind)(a b:Int):Zc .add .prim (.int k a) (.int k b)=some (.int k (k.wrap (a + b))):=by simp [Zc,Zdl,ZdM]
theorem Z5T (k:IntKind)(a b:Int):Zc .sub .prim (.int k a) (.int k b)=some (.int k (k.wrap (a - b))):=by simp [Zc,Zdl,ZdM]
theorem Z5P (k:IntKind)(a b:Int):Zc .mul .prim (.int k a) (.int k b)=some (.int k (k.wrap (a * b))):=by simp [Zc,Zdl,ZdM]
theorem Z7F (k:IntKind)(a b:Int):Zc .eql .prim (.int k a) (.int k b)=some (.bool (decide (a=b))):=by
 simp only [Zc,Zdl,ZdM,Bool.false_eq_true,if_false,if_true]; congr 2
theorem Z7K (k:IntKind)(a b:Int):Zc .neq .prim (.int k a) (.int k b)=some (.bool (decide (a≠b))):=by
 simp only [Zc,Zdl,ZdM,Bool.false_eq_true,if_false,if_true]
 by_cases h:a=b <;> simp [h]
theorem Z7J (k:IntKind)(a b:Int):Zc .lss .prim (.int k a) (.int k b)=some (.bool (decide (a < b))):=by simp [Zc,Zdl,ZdM]
theorem Z7I (k:IntKind)(a b:Int):Zc .leq .prim (.int k a) (.int k b)=some (.bool (decide (a≤b))):=by simp [Zc,Zdl,ZdM]
theorem Z7H (k:IntKind)(a b:Int):Zc .gtr .prim (.int k a) (.int k b)=some (.bool (decide (b < a))):=by simp [Zc,Zdl,ZdM]
theorem Z7G (k:IntKind)(a b:Int):Zc .geq .prim (.int k a) (.int k b)=some (.bool (decide (b≤a))):=by simp [Zc,Zdl,ZdM]
theorem Z7N (a b:List UInt8):Zc .eql .prim (.str a) (.str b)=some (.bool (decide (a=b))):=by
 rw [Z5S,ZwJ]; congr 2
 by_cases h:a=b <;> simp [h]
theorem Z7O (a b:List UInt8):Zc .neq .prim (.str a) (.str b)=some (.bool (decide (a≠b))):=by
 rw [Z5S,ZwJ]; congr 2
 by_cases h:a=b <;> simp [h]
theorem Z6W (b:Bool):Jy .not (.bool b)=some (.bool (!b)):=rfl
theorem Z6V (k:IntKind)(n:Int):Jy .neg (.int k n)=some (.int k (k.wrap (0 - n))):=rfl
theorem Z6l (hp:List Z5)(s:List UInt8):ZO hp .str (.str s)=some (.int .i64 s.length):=rfl
theorem Z6k (hp:List Z5)(k:Nat)(r:List (List AV)):ZO hp .slice (.lst k r)=some (.int .i64 r.length):=rfl
theorem Z5X (hp:List Z5)(k k':IntKind)(n:Int):Zau hp (.int k) (.int k' n)=some (.int k (k.wrap n)):=rfl
theorem Z6X (l:List AV)(i:Nat):Dt (.tup l) i=(l[i]?).map AV.ro:=rfl
theorem Ztf (bs:Nat)(ef:Eff):Zf bs ef none=ef:=rfl
theorem Zyh (hp0:List Z5)(b:Bool)(hp:List Z5):Vm false hp0 (.bool b) hp none=(.bool b,hp0,none):=rfl
theorem Z0E (hp0:List Z5)(k:IntKind)(n:Int)(hp:List Z5):Vm false hp0 (.int k n) hp none=(.int k n,hp0,none):=rfl
theorem Z0H (hp0:List Z5)(s:List UInt8)(hp:List Z5):Vm false hp0 (.str s) hp none=(.str s,hp0,none):=rfl
theorem Z0F (hp0:List Z5)(k:Nat)(r:List (List AV))(hp:List Z5):Vm false hp0 (.lst k r) hp none=(.lst k r,hp0,none):=rfl
theorem Z0G (hp0:List Z5)(k:Nat)(r:List (List AV))(hp:List Z5):Vm false hp0 (.own k r) hp none=(.own k r,hp0,none):=rfl
theorem Z0D {hp0:List Z5}{v v':AV}{hp:List Z5}(h:frz hp0.length hp v=some v'):Vm false hp0 v hp none=(v',hp0,none):=by
 show finish v ⟨[],hp,none,hp0.length⟩ hp0=_
 simp only [finish,h]
theorem Z4Q (bs:Nat)(hp:List Z5)(l:List AV):frz bs hp (.tup l)=(l.mapM (ZhZ bs hp)).map .tup:=by rw [frz]
theorem Zyl (bs:Nat)(hp:List Z5)(k:IntKind)(n:Int):ZhZ bs hp (.int k n)=some (.int k n):=rfl
theorem Zyn (bs:Nat)(hp:List Z5)(s:List UInt8):ZhZ bs hp (.str s)=some (.str s):=rfl
theorem ZvV (bs:Nat)(hp:List Z5)(b:Bool):ZhZ bs hp (.bool b)=some (.bool b):=rfl
theorem Zym (bs:Nat)(hp:List Z5)(k:Nat)(r:List (List AV)):ZhZ bs hp (.lst k r)=some (.lst k r):=rfl
theorem Zxq (hp0:List Z5)(l:List AV)(hp:List Z5):Vm false hp0 (.tup l) hp none=match l.mapM (ZhZ hp0.length hp) with
  | some l'=>(.tup l',hp0,none)
  | none=>(.tup l,hp,none):=by
 show finish (.tup l) ⟨[],hp,none,hp0.length⟩ hp0=_
 simp only [finish,Z4Q]
 cases l.mapM (ZhZ hp0.length hp) <;> rfl
theorem Wj (h:List Z5)(x:Z5):(h ++ [x])[h.length]? = some x:=by simp
theorem Zpl (h:List Z5)(x y:Z5):(h ++ [x]).set h.length y=h ++ [y]:=by simp
theorem Zxt (s:List UInt8)(i:Nat)(h:i < s.length):ZeQ (.str s) (.int .i64 i)=some (.int .u8 s[i].toNat):=by
 simp [ZeQ,h]
theorem Z6C (ks:List CK)(k:IntKind)(x y:Int)(l m:List AV):U5 (.int :: ks) (.int k x :: l) (.int k y :: m)=if x=y then U5 ks l m else some false:=by
 by_cases h:x=y
 ·subst h; simp [U5,TN]
 ·have:(x == y)=false:=by simpa using h
  simp [U5,TN,h,this]
theorem Z6E (ks:List CK)(x y:List UInt8)(l m:List AV):U5 (.str :: ks) (.str x :: l) (.str y :: m)=if x=y then U5 ks l m else some false:=by
 by_cases h:x=y
 ·subst h; simp [U5,TN]
 ·have:(x == y)=false:=by simpa using h
  simp [U5,TN,h,this]
theorem Z4l (ks:List CK)(x y:Bool)(l m:List AV):U5 (.bool :: ks) (.bool x :: l) (.bool y :: m)=if x=y then U5 ks l m else some false:=by
 cases x <;> cases y <;> simp [U5,TN]
theorem Z6D:U5 [] [] []=some true:=rfl
theorem Z7M (p:Prop)[Decidable p](b:Bool):(if p then some b else some false)=some (decide p && b):=by by_cases h:p <;> simp [h]
theorem Z5O (ks:List CK)(a b:List AV):Zc .eql (.struct ks) (.agg a) (.agg b)=(U5 ks a b).map .bool:=rfl
theorem Z5R (ks:List CK)(a b:List AV):Zc .neq (.struct ks) (.agg a) (.agg b)=(U5 ks a b).map fun b=>.bool (!b):=rfl
theorem Z5N (a b:Bool):Zc .eql .bool (.bool a) (.bool b)=some (.bool (a == b)):=rfl
theorem Z5Q (a b:Bool):Zc .neq .bool (.bool a) (.bool b)=some (.bool (!(a == b))):=rfl
def gif (b:Bool)(v:AV):AV:=if b=true then v else .undef
theorem Z6d (v:AV):gif true v=v:=rfl
theorem Zq4 (b:Bool)(v:AV)(hp:List Z5)(ef:Eff)(k:AV→List Z5→Eff→KR):ZjF (some b) (some (v,hp,ef)) hp ef k=k (gif b v) hp ef:=by cases b <;> rfl
theorem Z4t (b:Bool)(v:AV):AV.ro (gif b v)=gif b (AV.ro v):=by cases b <;> rfl
theorem Zy8 (b c:Bool):ZsQ (.bool b) (gif b (.bool c)) (.bool false)=some (.bool (b && c)):=by cases b <;> rfl
theorem Zy9 (b c:Bool):ZsQ (.bool b) (.bool true) (gif (!b) (.bool c))=some (.bool (b || c)):=by cases b <;> rfl
theorem Z0M (b c:Bool)(hp:List Z5)(ef:Eff)(k:AV→List Z5→Eff→KR):VT (.bool b) true (some (.bool c,hp,ef)) (some (.bool false)) hp ef k=k (.bool (b && c)) hp ef:=by cases b <;> rfl
theorem Z3L (b c:Bool)(hp:List Z5)(ef:Eff)(k:AV→List Z5→Eff→KR):VT (.bool b) false (some (.bool c,hp,ef)) (some (.bool true)) hp ef k=k (.bool (b || c)) hp ef:=by cases b <;> rfl
theorem Z3N (x:KR)(o:Option AV)(hp:List Z5)(ef:Eff)(k:AV→List Z5→Eff→KR):VT (.bool true) true x o hp ef k=QV x k:=rfl
theorem Z3K (x:KR)(v:AV)(hp:List Z5)(ef:Eff)(k:AV→List Z5→Eff→KR):VT (.bool false) true x (some v) hp ef k=k v hp ef:=rfl
theorem Z3M (x:KR)(v:AV)(hp:List Z5)(ef:Eff)(k:AV→List Z5→Eff→KR):VT (.bool true) false x (some v) hp ef k=k v hp ef:=rfl
theorem Z3J (x:KR)(o:Option AV)(hp:List Z5)(ef:Eff)(k:AV→List Z5→Eff→KR):VT (.bool false) false x o hp ef k=QV x k:=rfl
@[congr] theorem Z59 {c c':AV}{w:Bool}{x x':KR}{o:Option AV}{hp:List Z5}{ef:Eff}{k:AV→List Z5→Eff→KR}(hc:c=c')(hx:x=x'):VT c w x o hp ef k=VT c' w x' o hp ef k:=by rw [hc,hx]
@[congr] theorem Z3O {b b':Bool}{x x':KR}{hp:List Z5}{ef:Eff}{k:AV→List Z5→Eff→KR}(hb:b=b')(hx:b'=true→x=x'):ZjF (some b) x hp ef k=ZjF (some b') x' hp ef k:=by
 subst hb
 cases b with
 | false=>rfl
 | true=>rw [hx rfl]
@[congr] theorem Z5F {α:Type}{x x':Option α}{k:α→KR}(h:x=x'):Zd x k=Zd x' k:=by rw [h]
@[congr] theorem Z5D {α β:Type}{x x':Option (α×β)}{k:α→β→KR}(h:x=x'):TF x k=TF x' k:=by rw [h]
@[congr] theorem Z5E {α β γ:Type}{x x':Option (α×β×γ)}{k:α→β→γ→KR}(h:x=x'):QV x k=QV x' k:=by rw [h]
@[congr] theorem Z5B {α:Type}{x x':α}{k:α→KR}(h:x=x'):UK x k=UK x' k:=by rw [h]
@[congr] theorem Z6f {x x':AV}{a b:KR}(h:x=x'):ifK x a b=ifK x' a b:=by rw [h]
theorem Z38 (bs n:Nat)(h:List Z5)(cs:List AV)(t:TypeId)(o:Nat)(v:AV)(ef:Eff)(h1:v.cells.length=n)(h2:o + n≤cs.length)(h3:v.laid=true)(h4:bs≤h.length) :
  stV bs n (.ptr h.length o) v (h ++ [.cells cs t]) ef=some (h ++ [.cells (splice cs o v.cells) t],ef):=by
 simp only [stV,Wj,h1,h2,h3,and_self,if_true,Zpl,Zd1]
 rw [if_neg (by omega)]
theorem Zuz (h:List Z5)(cs:List AV)(t:TypeId)(o:Nat):Qn (h ++ [.cells cs t]) (.ptr h.length o)=(cs[o]?).map AV.ro:=by
 simp only [Qn,Wj]
theorem IB {hp:List Z5}{g:Nat}{cs:List AV}{t:TypeId}(h:hp[g]? = some (.cells cs t))(o:Nat):Qn hp (.ptr g o)=(cs[o]?).map AV.ro:=by
 simp only [Qn,h]
theorem Zib {hp:List Z5}{g:Nat}{cs:List AV}{t:TypeId}(h:hp[g]? = some (.cells cs t))(n o:Nat)(h1:o + n≤cs.length):Zt hp n (.ptr g o)=some (.agg (((cs.drop o).take n).map AV.ro)):=by
 simp only [Zt,h,h1,if_true]
theorem i64_in {x:Int}(h1:-9223372036854775808≤x)(h2:x≤9223372036854775807):IntKind.i64.wrap x=x:=IntWalk.i64_in x ⟨h1,h2⟩
theorem SE (n:Nat)(h:n < 4611686018427387904):IntKind.i64.wrap ((n:Int) + 1)=((n + 1:Nat):Int):=by rw [i64_in (by omega) (by omega)]; omega
theorem Qu (k:Nat)(r:List (List AV))(i:Nat):Y4 (.slice k) (.lst k r) (.int .i64 i)=(r[i]?).map .ref:=by simp [Y4]
theorem Zq8 (hp:List Z5)(n:Nat)(c:List AV)(h:n≤c.length):Zt hp n (.ref c)=some (.agg ((c.take n).map AV.ro)):=by simp [Zt,h]
theorem Z0V (hp:List Z5)(c:AV)(l:List AV):Qn hp (.ref (c :: l))=some c.ro:=rfl
theorem Z0A (o:Nat)(c:List AV):Ir o (.ref c)=some (.ref (c.drop o)):=rfl
theorem Z09 (o g p:Nat):Ir o (.ptr g p)=some (.ptr g (p + o)):=rfl
theorem Zea (n:Nat)(c:List AV)(h:c.length=n):MN n (.agg c)=some c:=by simp [MN,AV.cells,AV.laid,h]
end Go.Proofs.YtlmfmmclnboglaaGreat.Abs
end
end
