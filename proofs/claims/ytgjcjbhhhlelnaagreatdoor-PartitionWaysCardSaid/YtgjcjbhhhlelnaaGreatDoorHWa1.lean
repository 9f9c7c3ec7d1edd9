import Derived.Deep.Quiet
import Derived.Orders
import Derived.LoopN
import Derived.Scope
import Derived.IntWalk
import Derived.Test.YtgjcjbhhhlelnaaGreatDoorHWa0
set_option linter.all false
section
section
namespace Go.Proofs.YtgjcjbhhhlelnaaGreatDoor.Abs
open Go Go.RowKit
section
variable {P:Program}{w:World}
def Zec (e:AV×AV)(m:MapEntry):Prop:=e.1.flat=true∧e.2.flat1=true∧m.key=e.1.conc∧m.val=e.2.conc1
theorem Tc {c:CK}{a b:AV}(h:Wu c a b=some true):a.conc1=b.conc1:=by
 cases c <;> cases a <;> cases b <;> simp only [Wu] at h <;> first | (cases h; done) | skip
 ·split at h
  ·rename_i e
   subst e
   simp only [Option.some.injEq,beq_iff_eq] at h
   rw [h]
  ·cases h
 ·simp only [Option.some.injEq,beq_iff_eq] at h
  rw [h]
 ·simp only [Option.some.injEq,beq_iff_eq] at h
  rw [h]
theorem PW {c:CK}{a b:AV}{q:Bool}(h:Wu c a b=some q):a.flat1=true∧b.flat1=true:=by
 cases c <;> cases a <;> cases b <;> simp only [Wu] at h <;> first | (cases h; done) | exact ⟨rfl,rfl⟩
theorem Gn {a:AV}(h:a.flat1=true):a.conc=a.conc1:=by cases a <;> first | rfl | (cases h)
theorem Ej {kt:TypeId}{c:CK}(hk:Ei P kt=some (.one c)):PN P kt=some c:=by
 unfold Ei at hk
 split at hk
 ·split at hk
  ·split at hk <;> cases hk
  ·cases hk
 ·obtain ⟨c',h1,h2⟩:=Option.map_eq_some_iff.1 hk
  cases h2; exact h1
theorem Fg {kt:TypeId}{c:CK}(hk:Ei P kt=some (.pair c)):∃ e,P.underlying kt=some (.array 2 e)∧PN P e=some c∧P.cellsOf e=1:=by
 unfold Ei at hk
 split at hk
 ·rename_i n e hu
  split at hk
  ·rename_i c' hc
   split at hk
   ·rename_i h2
    cases hk
    obtain ⟨hsz,rfl⟩:=h2
    exact ⟨e,hu,hc,hsz⟩
   ·cases hk
  ·cases hk
 ·obtain ⟨_,_,e⟩:=Option.map_eq_some_iff.1 hk; cases e
theorem ZoU {kt:TypeId}{sh:KSh}{a b:AV}{q:Bool}(hk:Ei P kt=some sh)(h:ZaE sh a b=some q)(w:World):(Op.equal kt a.conc b.conc).run P w=.ok q w∧(q=true→a.conc=b.conc):=by
 cases sh with
 | one c =>
  have hc:=Ej hk
  obtain ⟨f1,f2⟩:=PW h
  rw [Gn f1,Gn f2]
  exact ⟨BM (Γ := fun _=>.imm) (w := w) hc (Jf f1 _ w) (Jf f2 _ w) h 9999 w,fun e=>by subst e; exact Tc h⟩
 | pair c =>
  obtain ⟨e,hu,hc,hsz⟩:=Fg hk
  unfold ZaE at h
  split at h <;> first | (cases h; done) | skip
  ·rename_i e; cases e
  rename_i c' x0 x1 y0 y1 e'
  cases e'
  obtain ⟨g1,g2⟩:=Rl hc
  obtain ⟨ie,hie⟩:=info_of_underlying g2
  have hp:∀ (z0 z1:Value) (W:World),(part e #[z0,z1] 0).run P W=.ok z0 W∧(part e #[z0,z1] 1).run P W=.ok z1 W:=fun z0 z1 W=>⟨Uz g1 g2 rfl W,Uz g1 g2 rfl W⟩
  have he:∀ {x y:AV} {r:Bool},Wu c x y=some r→∀ W,(Op.equalIn 9999 e x.conc1 y.conc1).run P W=.ok r W:=fun hr W=>by
   obtain ⟨f1,f2⟩:=PW hr
   exact BM (Γ := fun _=>.imm) (w := W) hc (Jf f1 _ W) (Jf f2 _ W) hr 9998 W
  have hrun:∀ {q0:Bool},Wu c x0 y0=some q0→∀ q1,(q0=true→Wu c x1 y1=some q1)→(Op.equal kt (AV.agg [x0,x1]).conc (AV.agg [y0,y1]).conc).run P w=.ok (q0 && q1) w:=by
   intro q0 h0 q1 h1
   have e0:=he h0 w
   have:=run_equalIn_array (P := P) w 9999 (AV.conc1 x0 :: [AV.conc1 x1]).toArray (AV.conc1 y0 :: [AV.conc1 y1]).toArray hu hie
   show (Op.equalIn (9999 + 1) kt (.agg (AV.conc1 x0 :: [AV.conc1 x1]).toArray) (.agg (AV.conc1 y0 :: [AV.conc1 y1]).toArray)).run P w=_
   rw [this,hsz]
   show (Op.eqItems 9999 e 1 #[x0.conc1,x1.conc1] #[y0.conc1,y1.conc1] [0,1]).run P w=_
   simp only [Op.eqItems,Sem.run_bind,Nat.mul_one,(hp _ _ w).1,Result.andThen_ok,e0]
   cases q0 with
   | false=>simp
   | true =>
    have e1:=he (h1 rfl) w
    simp only [Bool.not_true,Bool.false_eq_true,if_false,Sem.run_bind,(hp _ _ w).2,Result.andThen_ok,e1]
    cases q1 <;> simp
  cases h0:Wu c x0 y0 with
  | none=>rw [h0] at h; cases h
  | some q0 =>
   rw [h0] at h
   cases q0 with
   | false =>
    obtain rfl:=Option.some.inj h
    exact ⟨by simpa using hrun h0 false (fun h=>by cases h),fun h=>by cases h⟩
   | true =>
    have h1:Wu c x1 y1=some q:=h
    refine ⟨by simpa using hrun h0 q (fun _=>h1),fun e=>?_⟩
    subst e
    simp only [AV.conc,List.map_cons,List.map_nil,Tc h0,Tc h1]
structure Found (sh:KSh)(k:AV)(es:List (AV×AV))(st:Nat)(r:Option AV)(q:Option (Nat×Value)):Prop where
 no:r=none→q=none∧∀ v,update sh k v es=some (es ++ [(k,v)])
 yes:∀ v,r=some v→∃ i k',q=some (st + i,v.conc1)∧v.flat1=true∧es[i]? = some (k',v)∧k.conc=k'.conc∧∀ v2,update sh k v2 es=some (es.set i (k',v2))
theorem Found.here {sh:KSh}{k k' v:AV}{es:List (AV×AV)}{st:Nat}(hq:ZaE sh k k'=some true)(hc:k.conc=k'.conc)(hf:v.flat1=true):Found sh k ((k',v) :: es) st (some v) (some (st,v.conc1)) :=
 ⟨fun e=>(by cases e),fun u e=>by cases e; exact ⟨0,k',rfl,hf,rfl,hc,fun v2=>by simp [update,hq]⟩⟩
theorem Found.later {sh:KSh}{k k' v:AV}{es:List (AV×AV)}{st:Nat}{r:Option AV}{q:Option (Nat×Value)}(hq:ZaE sh k k'=some false)(h:Found sh k es (st + 1) r q):Found sh k ((k',v) :: es) st r q:=by
 refine ⟨fun e=>⟨(h.no e).1,fun v2=>by simp [update,hq,(h.no e).2 v2]⟩,fun u e=>?_⟩
 obtain ⟨i,k2,h1,h2,h3,h4,h5⟩:=h.yes u e
 exact ⟨i + 1,k2,by rw [h1,Nat.add_assoc,Nat.add_comm 1 i],h2,by simpa using h3,h4,fun v2=>by simp [update,hq,h5 v2]⟩
theorem Found.none_ {sh:KSh}{k:AV}{st:Nat}:Found sh k [] st none none:=⟨fun _=>⟨rfl,fun _=>rfl⟩,fun _ e=>by cases e⟩
theorem Zlp {kt:TypeId}{sh:KSh}{k:AV}(hk:Ei P kt=some sh)(w:World):∀ {es:List (AV×AV)} {ms:List MapEntry} {r:Option AV} (st:Nat),ZgA Zec es ms→find sh k es=some r →
  ∃ q,(Instr.findAsking kt k.conc ms st).run P w=.ok q w∧Found sh k es st r q
 | _,_,r,st,.nil,h=>by
  obtain rfl:=Option.some.inj h
  exact ⟨none,rfl,.none_⟩
 | _,_,r,st,.cons (x := e) (y := m) (l := es) (m := ms) he hes,h=>by
  obtain ⟨k',v⟩:=e
  simp only [find] at h
  cases hq:ZaE sh k k' with
  | none=>rw [hq] at h; cases h
  | some q =>
   rw [hq] at h
   obtain ⟨e1,e2⟩:=ZoU hk hq w
   obtain ⟨r1,r2,r3,r4⟩:=he
   cases q with
   | true =>
    obtain rfl:=Option.some.inj h
    refine ⟨some (st,v.conc1),?_,.here hq (e2 rfl) r2⟩
    simp only [Instr.findAsking,Sem.run_bind,r3,e1,Result.andThen_ok,r4]
    rfl
   | false =>
    obtain ⟨q,h1,h2⟩:=Zlp hk w (st + 1) hes h
    refine ⟨q,?_,.later hq h2⟩
    simp only [Instr.findAsking,Sem.run_bind,r3,e1,Result.andThen_ok]
    exact h1
theorem Zk3 {kt:TypeId}{c:CK}{a b:AV}{q:Bool}{d:TypeDesc}(hc:PN P kt=some c)(hd:P.underlying kt=some d)(h:Wu c a b=some q):Instr.sameNow d a.conc1 b.conc1=some q:=by
 unfold PN at hc
 rw [hd] at hc
 cases d <;> simp only at hc <;> first | (cases hc; done) | skip
 all_goals
  cases hc
  cases a <;> cases b <;> simp only [Wu] at h <;> first | (cases h; done) | skip
 all_goals first
  | exact h
  | (simp only [AV.conc1,Instr.sameNow]; rw [← h]; congr 1; rw [Bool.eq_iff_iff,beq_toListBytes]; simp)
theorem Zcd {kt:TypeId}{c:CK}{k:AV}{d:TypeDesc}(hk:Ei P kt=some (.one c))(hd:P.underlying kt=some d):∀ {es:List (AV×AV)} {ms:List MapEntry} {r:Option AV} (st:Nat),ZgA Zec es ms→find (.one c) k es=some r →
  ∃ q,Instr.findNow d k.conc ms st=some q∧Found (.one c) k es st r q
 | _,_,r,st,.nil,h=>by
  obtain rfl:=Option.some.inj h
  exact ⟨none,rfl,.none_⟩
 | _,_,r,st,.cons (x := e) (y := m) (l := es) (m := ms) he hes,h=>by
  obtain ⟨k',v⟩:=e
  simp only [find] at h
  cases hq:ZaE (.one c) k k' with
  | none=>rw [hq] at h; cases h
  | some q =>
   rw [hq] at h
   obtain ⟨r1,r2,r3,r4⟩:=he
   obtain ⟨f1,f2⟩:=PW hq
   have hs:=Zk3 (Ej hk) hd hq
   rw [← Gn f1,← Gn f2] at hs
   cases q with
   | true =>
    obtain rfl:=Option.some.inj h
    refine ⟨some (st,v.conc1),?_,.here hq (by rw [Gn f1,Gn f2]; exact Tc hq) r2⟩
    simp only [Instr.findNow,r3,hs,r4]
   | false =>
    obtain ⟨q,h1,h2⟩:=Zcd hk hd (st + 1) hes h
    refine ⟨q,?_,.later hq h2⟩
    simp only [Instr.findNow,r3,hs]
    exact h1
theorem PY {kt:TypeId}{sh:KSh}{k:AV}(hk:Ei P kt=some sh)(w:World){es:List (AV×AV)}{ms:List MapEntry}{r:Option AV}(he:ZgA Zec es ms)(h:find sh k es=some r) :
  ∃ q,(Instr.findKey kt k.conc ms).run P w=.ok q w∧Found sh k es 0 r q:=by
 cases sh with
 | one c =>
  have hc:=Ej hk
  obtain ⟨d,hd⟩:=Option.isSome_iff_exists.1 (Rl hc).2
  obtain ⟨q,h1,h2⟩:=Zcd hk hd 0 he h
  exact ⟨q,Go.MapKept.run_findKey hd h1,h2⟩
 | pair c =>
  obtain ⟨e,hu,_,_⟩:=Fg hk
  obtain ⟨q,h1,h2⟩:=Zlp hk w 0 he h
  exact ⟨q,(run_findKey_eq w (by rw [hu]) _ _).trans h1,h2⟩
theorem Nb {sh:KSh}{k:AV}(h:Ij sh k=true):k.flat=true:=by
 unfold Ij at h
 split at h <;> first | rfl | (cases h; done)
theorem CU {kt:TypeId}{sh:KSh}{k:AV}(hk:Ei P kt=some sh)(h:Ij sh k=true)(e:Bool)(w:World):(Instr.checkKey e 10000 kt k.conc).run P w=.ok () w:=by
 have plain:∀ {t:TypeId} {c:CK} (n:Nat) (v:Value),PN P t=some c→(Instr.checkKey e (n + 1) t v).run P w=.ok () w:=fun {t c} n v hc=>by
  unfold PN at hc
  cases hd:P.underlying t with
  | none=>rw [hd] at hc; cases hc
  | some d =>
   rw [hd] at hc
   cases d <;> simp only at hc <;> first | (cases hc; done) | skip
   all_goals simp [Instr.checkKey,run_underlying hd]
 cases sh with
 | one c=>exact plain 9999 _ (Ej hk)
 | pair c =>
  obtain ⟨el,hu,hc,hsz⟩:=Fg hk
  obtain ⟨g1,g2⟩:=Rl hc
  obtain ⟨ie,hie⟩:=info_of_underlying g2
  have hp:∀ (z0 z1:Value),(part el #[z0,z1] 0).run P w=.ok z0 w∧(part el #[z0,z1] 1).run P w=.ok z1 w:=fun z0 z1=>⟨Uz g1 g2 rfl w,Uz g1 g2 rfl w⟩
  have hs:=Yw hie w
  rw [hsz] at hs
  have key:∀ x0 x1:AV,(Instr.checkKey e (9999 + 1) kt (AV.agg [x0,x1]).conc).run P w=.ok () w:=fun x0 x1=>by
   have p1:=plain 9998 x0.conc1 hc
   have p2:=plain 9998 x1.conc1 hc
   simp only [AV.conc,List.map_cons,List.map_nil]
   unfold Instr.checkKey
   simp only [Sem.run_bind,run_underlying hu,Result.andThen_ok]
   simp only [Std.Legacy.Range.forIn_eq_forIn_range',Std.Legacy.Range.size,Nat.sub_zero,Nat.add_one_sub_one,Nat.div_one]
   simp only [List.range'_succ,List.range'_zero,List.forIn_cons,List.forIn_nil,Sem.run_bind,hs,Result.andThen_ok,Nat.zero_mul,Nat.zero_add,Nat.mul_one,(hp _ _).1,(hp _ _).2,p1,p2,Sem.run_pure]
  unfold Ij at h
  split at h <;> first | (cases h; done) | skip
  all_goals first | exact key _ _ | (rename_i e; cases e; done) | (rename_i e _; cases e; done) | (rename_i e _ _; cases e; done) | (rename_i e _ _ _; cases e; done)
end
end Go.Proofs.YtgjcjbhhhlelnaaGreatDoor.Abs
end
section
namespace Go.Proofs.YtgjcjbhhhlelnaaGreatDoor.Abs
open Go Go.RowKit
section
variable {P:Program}{G:Nat→Option (List AV)}{E:Entry}{s:Zb}{Γ:ZF}{a:Act}{w:World}{o:Oper}
theorem PT {v:AV}{cv:Value}(h:Rep Γ w v cv)(hf:v.flat=true):cv=v.conc:=by
 cases h with
 | agg cells cv hs h1 hn hr =>
  simp only [AV.flat,List.all_eq_true] at hf
  simp only [AV.conc,Value.agg.injEq]
  apply Array.ext'
  apply List.ext_getElem?
  intro j
  simp only [List.getElem?_map,Array.getElem?_toList]
  by_cases hj:j < cells.length
  ·have hc:=List.getElem?_eq_getElem hj
   have:=(hr j _ hc).conc1 (hf _ (List.getElem_mem hj))
   rw [hc,Option.map_some,← this]
   exact WE (by omega)
  ·rw [List.getElem?_eq_none (by omega),Array.getElem?_eq_none (by omega)]; rfl
 | tup vs cv hs hr =>
  simp only [AV.flat,List.all_eq_true] at hf
  simp only [AV.conc,Value.tuple.injEq]
  apply Array.ext'
  apply List.ext_getElem?
  intro j
  simp only [List.getElem?_map,Array.getElem?_toList]
  by_cases hj:j < vs.length
  ·have hc:=List.getElem?_eq_getElem hj
   have:=(hr j _ hc).conc1 (hf _ (List.getElem_mem hj))
   rw [hc,Option.map_some,← this]
   exact WE (by omega)
  ·rw [List.getElem?_eq_none (by omega),Array.getElem?_eq_none (by omega)]; rfl
 | fn f fst caps fv cv hs1 hr1 hs hr =>
  exact (Rep.fn f fst caps fv cv hs1 hr1 hs hr).conc1 hf
 | _=>first | rfl | (cases hf; done)
theorem ZbM {es:List (AV×AV)}{ms:Array MapEntry}(hs:ms.size=es.length)(h:∀ (i:Nat) (e:AV×AV),es[i]? = some e→∃ m,ms[i]? = some m∧e.1.flat=true∧e.2.flat1=true∧m.key=e.1.conc∧m.val=e.2.conc1):ZgA Zec es ms.toList:=by
 refine ZgA.of_get (by simpa using hs.symm) fun j e m he hm=>?_
 obtain ⟨m',h1,h2⟩:=h j e he
 rw [Array.getElem?_toList,h1] at hm
 cases hm
 exact h2
theorem Zqx {t:TypeId}{z:AV}(hz:zeroOf P t=some z)(hf:z.flat1=true)(w:World):(zeroValue t).run P w=.ok z.conc1 w:=by
 obtain ⟨i,zv,hi,hzv,hrep⟩:=VI hz
 rw [← (hrep (fun _=>.imm) w).1.conc1 hf]
 simp [zeroValue,typeInfo,hi,hzv]
def Zpf (ok:Bool)(z:AV):Option AV→Value
 | some v=>if ok then .tuple #[v.conc1,.bool true] else v.conc1
 | none=>if ok then .tuple #[z.conc1,.bool false] else z.conc1
def ZsY (ok:Bool)(z:AV):Option AV→AV
 | some v=>if ok then AV.tup [v,.bool true] else v
 | none=>if ok then AV.tup [z,.bool false] else z
theorem ZmE {t kt et:TypeId}{sh:KSh}{k z:AV}{ok:Bool}{b:Nat}{ms:Array MapEntry}{clk:Nat}{es:List (AV×AV)}{r:Option AV}(ht:P.underlying t=some (.map kt et))(hk:Ei P kt=some sh)(hb:w.heap[b]? = some (.map ms clk))(he:ZgA Zec es ms.toList)(hf:find sh k es=some r)
  (hck:∀ emp,(Instr.checkKey emp 10000 kt k.conc).run P w=.ok () w) (hz:(zeroValue et).run P w=.ok z.conc1 w):(Instr.lookup t (.map (some b)) k.conc ok).run P w=.ok (Zpf ok z r) w∧∀ v,r=some v→v.flat1=true:=by
 obtain ⟨q,e1,e2⟩:=PY hk w he hf
 cases r with
 | none =>
  obtain ⟨rfl,_⟩:=e2.no rfl
  refine ⟨?_,fun v e=>by cases e⟩
  simp only [Instr.lookup,Sem.run_bind,run_underlying ht,MapKept.run_getObj_map hb,hck,Result.andThen_ok,e1,hz,Sem.run_pure]
  rfl
 | some v =>
  obtain ⟨j,k',rfl,hv,_⟩:=e2.yes v rfl
  refine ⟨?_,fun v' e=>by cases e; exact hv⟩
  simp only [Instr.lookup,Sem.run_bind,run_underlying ht,MapKept.run_getObj_map hb,hck,Result.andThen_ok,e1,Sem.run_pure]
  rfl
theorem ZuA (hG:GOk G E.W0)(hI:Inv E s Γ a w){t kt et:TypeId}{sh:KSh}{z:AV}{x i:Operand}{x' i':Yt}{u k v:AV}{ok:Bool}(ho:o.op=.lookup t x i ok)(ht:P.underlying t=some (.map kt et))(hk:Ei P kt=some sh)(hz:zeroOf P et=some z)(hzf:z.flat1=true)
  (hcx:Yg P t x=some x') (hci:Yg P kt i=some i') (hx:opnd G s.sl x'=some u) (hi:opnd G s.sl i'=some k) (h:Zcq s.hp sh z u k ok=some v):PD P E s v a w o:=by
 have k1:=(Z4 hG hI hcx hx).1
 have k2:=(Z4 hG hI hci hi).1
 unfold Zcq at h
 split at h
 ·cases h
 rename_i hfit
 have hfit:Ij sh k=true:=by simpa using hfit
 have hkc:=PT k2 (Nb hfit)
 have hzr:=Zqx hz hzf w
 have hck:∀ emp,(Instr.checkKey emp 10000 kt k.conc).run P w=.ok () w:=fun emp=>CU hk hfit emp w
 have fin:∀ (r:Option AV),(∀ v,r=some v→v.flat1=true)→(execOp a.eval o).run P w=.ok (.value (Zpf ok z r)) w →
   ZsY ok z r=v→PD P E s v a w o:=by
  intro r hr hrun hv
  have two:∀ (y:AV) (b:Bool),y.flat1=true→Rep Γ w (if ok then AV.tup [y,.bool b] else y) (if ok then Value.tuple #[y.conc1,.bool b] else y.conc1):=fun y b hy=>by
   cases ok with
   | false=>exact Jf hy Γ w
   | true =>
    refine .tup _ #[y.conc1,.bool b] rfl fun j c hj=>?_
    match j with
    | 0=>cases hj; exact Jf hy Γ w
    | 1=>cases hj; exact .bool b
    | j + 2=>simp at hj
  have nown:∀ (y:AV) (b:Bool),y.flat1=true→∀ k r,(if ok then AV.tup [y,.bool b] else y)≠.own k r:=fun y b hy=>by
   cases ok with
   | false=>exact Zhj hy
   | true=>intro k r e; cases e
  cases r with
  | some y =>
   subst hv
   exact .pure hI hrun (two y true (hr y rfl)) fun k r e=>absurd e (nown y true (hr y rfl) k r)
  | none =>
   subst hv
   exact .pure hI hrun (two z false hzf) fun k r e=>absurd e (nown z false hzf k r)
 generalize hq:a.eval x=q at k1
 have hexec:∀ r,(Instr.lookup t q k.conc ok).run P w=.ok r w→(execOp a.eval o).run P w=.ok (.value r) w:=fun r hr=>by
  simp only [execOp,ho,hq,hkc]
  rw [Sem.run_bind,hr]; rfl
 have some_:∀ {g:Nat} {es:List (AV×AV)} {r:Option AV},s.hp[g]? = some (.map es)→find sh k es=some r→Rep Γ w (.map g) q→ZsY ok z r=v→PD P E s v a w o:=by
  intro g es r hg hf hm hv
  cases hm with
  | map _ b hb =>
   obtain ⟨b',ms,clk,h1,h2,h3,h4⟩:=hI.rw.objs g _ hg
   obtain rfl:=hI.rw.inj b b' g hb h1
   obtain ⟨m1,m2⟩:=ZmE (ok := ok) ht hk h2 (ZbM h3 h4) hf hck hzr
   exact fin r m2 (hexec _ m1) hv
 split at h
 ·rename_i y hy
  split at hy <;> first | (cases hy; done) | skip
  split at hy <;> first | (cases hy; done) | skip
  rename_i hg
  exact some_ hg hy k1 (Option.some.inj h)
 ·rename_i hy
  split at hy <;> first | (cases hy; done) | skip
  ·cases k1
   refine fin none (fun v e=>by cases e) (hexec _ ?_) (Option.some.inj h)
   simp only [Instr.lookup,Sem.run_bind,run_underlying ht,Result.andThen_ok,Sem.run_pure,hck]
   have:(Instr.findKey kt k.conc []).run P w=.ok none w:=by
    obtain ⟨q,e1,e2⟩:=PY (k := k) (r := none) hk w (.nil:ZgA Zec [] []) rfl
    obtain ⟨rfl,_⟩:=e2.no rfl
    exact e1
   simp only [this,Result.andThen_ok,Sem.run_bind,hzr,Sem.run_pure]
   rfl
  ·split at hy <;> first | (cases hy; done) | skip
   rename_i hg
   exact some_ hg hy k1 (Option.some.inj h)
 ·cases h
theorem Tz {c:CK}{x y:AV}(n:Nat)(h:Wu c x y=some true):Instr.sameBits n y.conc1 x.conc1=true:=by
 cases c <;> cases x <;> cases y <;> simp only [Wu] at h <;> first | (cases h; done) | skip
 ·split at h
  ·rename_i e
   subst e
   simp only [Option.some.injEq,beq_iff_eq] at h
   subst h
   simp [AV.conc1,Instr.sameBits]
  ·cases h
 ·simp only [Option.some.injEq,beq_iff_eq] at h
  subst h
  simp [AV.conc1,Instr.sameBits]
 ·simp only [Option.some.injEq,beq_iff_eq] at h
  subst h
  simp [AV.conc1,Instr.sameBits,beq_toListBytes]
theorem Zgw {sh:KSh}{k:AV}(h:Ij sh k=true):Instr.sameBits 10000 k.conc k.conc=true:=by
 have one:∀ (x:AV),(∃ k n,x=.int k n)∨(∃ b,x=.bool b)∨(∃ s,x=.str s)→∀ n,Instr.sameBits n x.conc1 x.conc1=true:=fun x hx n=>by
  rcases hx with ⟨k,m,rfl⟩ | ⟨b,rfl⟩ | ⟨s,rfl⟩
  ·exact Tz (c := .int) n (by simp [Wu])
  ·exact Tz (c := .bool) n (by simp [Wu])
  ·exact Tz (c := .str) n (by simp [Wu])
 have two:∀ x y:AV,((∃ k n,x=.int k n)∨(∃ b,x=.bool b)∨(∃ s,x=.str s))→((∃ k n,y=.int k n)∨(∃ b,y=.bool b)∨(∃ s,y=.str s))→Instr.sameBits (9999 + 1) (AV.agg [x,y]).conc (AV.agg [x,y]).conc=true:=fun x y hx hy=>by
  simp only [AV.conc,List.map_cons,List.map_nil,Instr.sameBits,List.zip_cons_cons,List.zip_nil_right,List.all_cons,List.all_nil,one x hx 9999,one y hy 9999,beq_self_eq_true,Bool.and_self]
 unfold Ij at h
 split at h <;> first | (cases h; done) | skip
 ·exact one _ (.inl ⟨_,_,rfl⟩) _
 ·exact one _ (.inr (.inl ⟨_,rfl⟩)) _
 ·exact one _ (.inr (.inr ⟨_,rfl⟩)) _
 ·exact two _ _ (.inl ⟨_,_,rfl⟩) (.inl ⟨_,_,rfl⟩)
 ·exact two _ _ (.inr (.inr ⟨_,rfl⟩)) (.inr (.inr ⟨_,rfl⟩))
theorem ZuD (hG:GOk G E.W0)(hI:Inv E s Γ a w){t kt et:TypeId}{sh:KSh}{m k v:Operand}{m' k' v':Yt}{g:Nat}{ka va:AV}{es es':List (AV×AV)}(ho:o.op=.mapUpdate t m k v)(ht:P.underlying t=some (.map kt et))(hk:Ei P kt=some sh)
  (hcm:Yg P t m=some m') (hck:Yg P kt k=some k') (hcv:Yg P et v=some v') (hm:opnd G s.sl m'=some (.map g)) (hka:opnd G s.sl k'=some ka) (hva:opnd G s.sl v'=some va) (hg:s.hp[g]? = some (.map es)) (hfit:Ij sh ka=true) (hvf:va.flat1=true)
  (hf:∃ r,find sh ka es=some r) (hu:update sh ka va es=some es'):PD P E { s with hp:=s.hp.set g (.map es'),ef := s.note g 0 } .undef a w o:=by
 obtain ⟨r,hf⟩:=hf
 have k1:=(Z4 hG hI hcm hm).1
 have hkc:=PT (Z4 hG hI hck hka).1 (Nb hfit)
 have hvc:=(Z4 hG hI hcv hva).1.conc1 hvf
 generalize hq:a.eval m=q at k1
 cases k1 with
 | map _ b hb =>
  obtain ⟨b',ms,clk,h1,h2,h3,h4⟩:=hI.rw.objs g _ hg
  obtain rfl:=hI.rw.inj b b' g hb h1
  obtain ⟨q,e1,e2⟩:=PY hk w (ZbM h3 h4) hf
  have hlt:=lt_of_some h2
  have step:∀ (ms':Array MapEntry) (clk':Nat),(ms'.size=es'.length∧∀ (i:Nat) (e:AV×AV),es'[i]? = some e→∃ m,ms'[i]? = some m∧e.1.flat=true∧e.2.flat1=true∧m.key=e.1.conc∧m.val=e.2.conc1) →
    Inv E { s with hp:=s.hp.set g (.map es'),ef := s.note g 0 } Γ a { w with heap:=w.heap.setIfInBounds b (.map ms' clk') }:=fun ms' clk' hrel=>by
   have same:∀ b',b'≠b→({ w with heap:=w.heap.setIfInBounds b (.map ms' clk') }:World).heap[b']? = w.heap[b']?:=fun b' hne=>by simp [Ne.symm hne]
   refine hI.update hb ⟨rfl,rfl,rfl,by simp,fun b' _ hne=>⟨rfl,same b' hne⟩,fun b' q y k1 k2=>⟨k1,?_⟩,.refl _⟩ (Oq s g 0) (by simp) ⟨b,ms',clk',hb,by simp [hlt],hrel.1,hrel.2⟩
   have:b'≠b:=by
    rintro rfl
    unfold P8 at k1
    rw [hb] at k1
    exact k1
   exact (Rn (same b' this)).trans k2
  have hexec:∀ w',(Instr.mapUpdate t (.map (some b)) ka.conc va.conc1).run P w=.ok () w'→(execOp a.eval o).run P w=.ok .skip w':=fun w' hr=>by
   simp only [execOp,ho,hq,hkc,hvc]
   rw [Sem.run_bind,hr]; rfl
  have hchk:=CU hk hfit false w
  cases r with
  | none =>
   obtain ⟨rfl,hup⟩:=e2.no rfl
   have:=(hup va).symm.trans hu
   obtain rfl:=Option.some.inj this
   refine ⟨Γ,Go.undef,_,.inr ⟨hexec { w with heap:=w.heap.setIfInBounds b (.map (ms.push { key := ka.conc,val := va.conc1,born := clk }) (clk + 1)) } ?_,rfl⟩,step _ _ ⟨by simp [h3],fun i e he=>?_⟩,.undef,.of_ne (by simp)⟩
   ·simp only [Instr.mapUpdate,Sem.run_bind,run_underlying ht,Result.andThen_ok,MapKept.run_getObj_map h2,hchk,e1,MapKept.run_setObj_map _ h2]
   ·rw [List.getElem?_append] at he
    split at he
    ·rename_i hi
     obtain ⟨m,a1,a2⟩:=h4 i e he
     exact ⟨m,by rw [Array.getElem?_push,if_neg (by omega)]; exact a1,a2⟩
    ·rename_i hi
     have hi':i=es.length:=by
      rcases Nat.lt_or_ge (i - es.length) 1 with h' | h'
      ·omega
      ·rw [List.getElem?_eq_none (by simpa using h')] at he; cases he
     subst hi'
     simp only [Nat.sub_self,List.getElem?_cons_zero,Option.some.injEq] at he
     subst he
     exact ⟨_,by rw [Array.getElem?_push,if_pos h3.symm],Nb hfit,hvf,rfl,rfl⟩
  | some u =>
   obtain ⟨i,k2,rfl,_,hei,hkk,hup⟩:=e2.yes u rfl
   have:=(hup va).symm.trans hu
   obtain rfl:=Option.some.inj this
   obtain ⟨mi,a1,a2,a3,a4,a5⟩:=h4 i _ hei
   have hkeep:(Instr.keyThatStays (((ms[0 + i]?).map (·.key)).getD ka.conc) ka.conc).run P w=.ok ka.conc w:=by
    rw [Nat.zero_add,a1]
    simp only [Option.map_some,Option.getD_some,a4]
    unfold Instr.keyThatStays
    rw [← hkk,if_pos (Zgw hfit)]
    rfl
   refine ⟨Γ,Go.undef,_,.inr ⟨hexec { w with heap:=w.heap.setIfInBounds b (.map (ms.modify (0 + i) fun e=>{ e with key:=ka.conc,val := va.conc1 }) clk) } ?_,rfl⟩,step _ _ ⟨by simp [h3],fun j e he=>?_⟩,.undef,.of_ne (by simp)⟩
   ·simp only [Instr.mapUpdate,Sem.run_bind,run_underlying ht,Result.andThen_ok,MapKept.run_getObj_map h2,hchk,e1,hkeep,MapKept.run_setObj_map _ h2]
   ·rw [Nat.zero_add,Array.getElem?_modify]
    rw [List.getElem?_set] at he
    split at he
    ·rename_i hij
     subst hij
     split at he
     ·obtain rfl:=Option.some.inj he
      refine ⟨{ mi with key:=ka.conc,val := va.conc1 },by rw [if_pos rfl,a1]; rfl,a2,hvf,hkk,rfl⟩
     ·cases he
    ·rename_i hij
     obtain ⟨m,b1,b2⟩:=h4 j e he
     exact ⟨m,by rw [if_neg hij]; exact b1,b2⟩
end
end Go.Proofs.YtgjcjbhhhlelnaaGreatDoor.Abs
end
section
namespace Go.Proofs.YtgjcjbhhhlelnaaGreatDoor.Abs
open Go Go.RowKit
theorem Zdq {sh:KSh}{k v:AV}:∀ {es es':List (AV×AV)},update sh k v es=some es'→∃ r,find sh k es=some r
 | [],_,_=>⟨none,rfl⟩
 | (k',v') :: l,es',h=>by
  simp only [update] at h
  simp only [find]
  split at h
  ·exact ⟨_,rfl⟩
  ·obtain ⟨l',h',_⟩:=Option.map_eq_some_iff.1 h
   exact Zdq h'
  ·cases h
theorem WV {α β:Type}{x:Option α}{s s':β}{v:α}(h:x.map (·,s)=some (v,s')):x=some v∧s'=s:=by
 obtain ⟨y,h1,h2⟩:=Option.map_eq_some_iff.1 h
 cases h2
 exact ⟨h1,rfl⟩
section
variable {P:Program}{G:Nat→Option (List AV)}{call:FuncId→List AV→List Zm→Option (AV×List Zm×Eff)}{E:Entry}{s s':Zb}{Γ:ZF}{a:Act}{w:World}{o:Oper}{hand:Nat→Bool}{draw:Bool}{ao:AOp}{v:AV}
theorem ZuH (hG:GOk G E.W0)(hI:Inv E s Γ a w){x:Operand}(hop:o.op=.move x)(hc:cOp P hand draw o=some ao)(h:Ze G call s ao=some (v,s')):IJ P E Γ s s' v a w o ao:=by
 simp only [cOp,hop] at hc
 split at hc
 ·rename_i t
  split at hc
  ·obtain rfl:=Option.some.inj hc
   simp only [Ze] at h
   split at h <;> first | (cases h; done) | skip
   rename_i u hu
   cases h
   exact (Zpx hI (.inl hop) hu).fit
  ·obtain rfl:=Option.some.inj hc
   replace h:=WV h; obtain ⟨h,hss⟩:=h
   subst hss
   exact (ZrK (t := 0) hG hI (.inl hop) rfl h).fit hI
 ·obtain ⟨y,hy,rfl⟩:=Option.map_eq_some_iff.1 hc
  replace h:=WV h; obtain ⟨h,hss⟩:=h
  subst hss
  exact (ZrK hG hI (.inl hop) hy h).fit hI
theorem Zpz (hG:GOk G E.W0)(hI:Inv E s Γ a w){x:Operand}(hop:o.op=.assign x)(hc:cOp P hand draw o=some ao)(h:Ze G call s ao=some (v,s')):IJ P E Γ s s' v a w o ao:=by
 simp only [cOp,hop] at hc
 split at hc
 ·rename_i t
  split at hc
  ·obtain rfl:=Option.some.inj hc
   replace h:=WV h; obtain ⟨h,hss⟩:=h
   subst hss
   exact (ZrK (t := 0) hG hI (.inr hop) rfl h).fit hI
  ·obtain rfl:=Option.some.inj hc
   simp only [Ze] at h
   split at h <;> first | (cases h; done) | skip
   rename_i u hu
   cases h
   exact (Zpx hI (.inr hop) hu).fit
 ·obtain ⟨y,hy,rfl⟩:=Option.map_eq_some_iff.1 hc
  replace h:=WV h; obtain ⟨h,hss⟩:=h
  subst hss
  exact (ZrK hG hI (.inr hop) hy h).fit hI
theorem ZuI (hG:GOk G E.W0)(hI:Inv E s Γ a w){c x y:Operand}(hop:o.op=.pick c x y)(hc:cOp P hand draw o=some ao)(h:Ze G call s ao=some (v,s')):IJ P E Γ s s' v a w o ao:=by
 simp only [cOp,hop] at hc
 split at hc <;> first | (cases hc; done) | skip
 rename_i c' x' y' h1 h2 h3
 obtain rfl:=Option.some.inj hc
 simp only [Ze] at h
 split at h <;> first | (cases h; done) | skip
 ·rename_i hb
  replace h:=WV h; obtain ⟨h,hss⟩:=h
  subst hss
  exact (Zpw (b := true) hG hI hop h1 h2 h3 hb h).fit hI
 ·rename_i hb
  replace h:=WV h; obtain ⟨h,hss⟩:=h
  subst hss
  exact (Zpw (b := false) hG hI hop h1 h2 h3 hb h).fit hI
theorem Ztd (hG:GOk G E.W0)(hI:Inv E s Γ a w)(hop:(∃ e,o.op=.alloc e)∨(∃ e x,o.op=.box e x))(hc:cOp P hand draw o=some ao)(h:Ze G call s ao=some (v,s')):IJ P E Γ s s' v a w o ao:=by
 rcases hop with ⟨e,hop⟩ | ⟨e,x,hop⟩
 ·simp only [cOp,hop] at hc
  split at hc <;> first | (cases hc; done) | skip
  rename_i z hz
  split at hc <;> first | (cases hc; done) | skip
  rename_i h1
  obtain rfl:=Option.some.inj hc
  simp only [Ze] at h
  cases h
  exact (Zz3 hI hop hz h1).fit
 ·simp only [cOp,hop] at hc
  obtain ⟨y,hy,rfl⟩:=Option.map_eq_some_iff.1 hc
  simp only [Ze] at h
  split at h <;> first | (cases h; done) | skip
  rename_i u hu
  split at h <;> first | (cases h; done) | skip
  rename_i hl
  cases h
  exact (Zxk hG hI hop hy hu hl.2).fit
theorem ZrN (hG:GOk G E.W0)(hI:Inv E s Γ a w){t:TypeId}{parts:Array (Nat×Operand)}(hop:o.op=.build t parts)(hc:cOp P hand draw o=some ao)(h:Ze G call s ao=some (v,s')):IJ P E Γ s s' v a w o ao:=by
 simp only [cOp,hop] at hc
 split at hc <;> first | (cases hc; done) | skip
 rename_i hs
 split at hc <;> first | (cases hc; done) | skip
 rename_i z ps hz hp
 obtain rfl:=Option.some.inj hc
 simp only [Ze] at h
 split at h <;> first | (cases h; done) | skip
 rename_i vs hv
 obtain ⟨cs,h1,h2⟩:=Option.map_eq_some_iff.1 h
 cases h2
 exact (ZrH hG hI hop hs hz hp hv h1).fit
theorem Zxt (hG:GOk G E.W0)(hI:Inv E s Γ a w){t:TypeId}{len:Nat}{parts:Array (Nat×Operand)}(hop:o.op=.buildSlice t len parts)(hc:cOp P hand draw o=some ao)(h:Ze G call s ao=some (v,s')):IJ P E Γ s s' v a w o ao:=by
 simp only [cOp,hop] at hc
 split at hc <;> first | (cases hc; done) | skip
 rename_i e ht
 split at hc <;> first | (cases hc; done) | skip
 rename_i hx
 obtain ⟨h1,h2,h3,h4⟩:=hx
 obtain ⟨ps,hp,rfl⟩:=Option.map_eq_some_iff.1 hc
 by_cases hm:(hand Nh || hand (Nh + 1 + e))=true
 ·simp only [hm,if_true,Ze] at h ⊢
  split at h <;> first | (cases h; done) | skip
  rename_i vs hv
  split at h <;> first | (cases h; done) | skip
  rename_i hall
  cases h
  exact (Zpv hG hI hop ht h1 h2 h4 hp hv hall).fit
 ·simp only [if_neg hm,Ze] at h ⊢
  split at h <;> first | (cases h; done) | skip
  rename_i vs hv
  split at h
  ·rename_i hall
   cases h
   exact (Zxp hG hI hop ht h1 h2 h3 h4 hp hv hall).fit
  ·split at h <;> first | (cases h; done) | skip
   rename_i hall
   cases h
   exact (Zpv hG hI hop ht h1 h2 h4 hp hv hall).fit
theorem ZuG (hG:GOk G E.W0)(hI:Inv E s Γ a w){t:TypeId}{p:Operand}(hop:o.op=.load t p)(hc:cOp P hand draw o=some ao)(h:Ze G call s ao=some (v,s')):IJ P E Γ s s' v a w o ao:=by
 simp only [cOp,hop] at hc
 split at hc <;> first | (cases hc; done) | skip
 rename_i p' hp
 split at hc
 ·rename_i ht
  obtain rfl:=Option.some.inj hc
  simp only [Ze] at h
  split at h <;> first | (cases h; done) | skip
  rename_i x hx
  replace h:=WV h; obtain ⟨h,hss⟩:=h
  subst hss
  exact (Zxm hG hI hop ht hp hx h).fit hI
 ·rename_i ht
  have ht:Uw P t=false:=by simpa using ht
  split at hc <;> first | (cases hc; done) | skip
  rename_i hu
  split at hc
  ·obtain rfl:=Option.some.inj hc
   simp only [Ze] at h
   split at h <;> first | (cases h; done) | skip
   rename_i g q hx
   split at h <;> first | (cases h; done) | skip
   rename_i cs t' hg
   split at h <;> first | (cases h; done) | skip
   rename_i u hv
   cases h
   exact (Zxo hG hI hop ht hu hp hx hg hv).fit
  ·obtain rfl:=Option.some.inj hc
   simp only [Ze] at h
   split at h <;> first | (cases h; done) | skip
   rename_i x hx
   replace h:=WV h; obtain ⟨h,hss⟩:=h
   subst hss
   exact (Zxn hG hI hop ht hu hp hx h).fit hI
theorem ZrP (hG:GOk G E.W0)(hI:Inv E s Γ a w){t:TypeId}{p x:Operand}(hop:o.op=.store t p x)(hc:cOp P hand draw o=some ao)(h:Ze G call s ao=some (v,s')):IJ P E Γ s s' v a w o ao:=by
 simp only [cOp,hop] at hc
 split at hc
 ·cases hc
 rename_i hti
 have hi:∃ i,P.info? t=some i:=by
  cases hq:P.info? t with
  | none=>rw [hq] at hti; exact absurd rfl hti
  | some i=>exact ⟨i,rfl⟩
 obtain ⟨i,hi⟩:=hi
 split at hc <;> first | (cases hc; done) | skip
 rename_i p' hp
 have st:∀ {y},Yg P t x=some y→Ze G call s (.st (P.cellsOf t) p' y)=some (v,s')→IJ P E Γ s s' v a w o (.st (P.cellsOf t) p' y):=by
  intro y hy h
  simp only [Ze] at h
  split at h <;> first | (cases h; done) | skip
  rename_i g q u hpp hx
  split at h <;> first | (cases h; done) | skip
  rename_i cs t' hg
  split at h <;> first | (cases h; done) | skip
  rename_i hn
  cases h
  exact (Zz4 hG hI hi hop hp hy hpp hx hg hn).fit
 split at hc
 ·rename_i hag
  simp only [Bool.and_eq_true,Bool.not_eq_true',beq_iff_eq] at hag
  split at hc
  ·rename_i sl hsl
   have hx:x=.tmp sl:=by
    cases x <;> simp only [Zr1] at hsl <;> first | (cases hsl; done) | (cases hsl; rfl)
   subst hx
   obtain rfl:=Option.some.inj hc
   simp only [Ze] at h
   split at h <;> first | (cases h; done) | skip
   rename_i g q u hpp hx
   split at h <;> first | (cases h; done) | skip
   rename_i cs t' hg
   split at h <;> first | (cases h; done) | skip
   rename_i hn
   cases h
   exact (Zxq hG hI hi hag.2 hop hp hpp hx hg hn).fit
  ·obtain ⟨y,hy,rfl⟩:=Option.map_eq_some_iff.1 hc
   exact st hy h
 ·obtain ⟨y,hy,rfl⟩:=Option.map_eq_some_iff.1 hc
  exact st hy h
theorem Zc1 (hG:GOk G E.W0)(hI:Inv E s Γ a w)(hop:(∃ x,o.op=.nilCheck x)∨(∃ op t x y t',o.op=.binOp op t x y t')∨(∃ op t x,o.op=.unOp op t x))(hc:cOp P hand draw o=some ao)(h:Ze G call s ao=some (v,s')):IJ P E Γ s s' v a w o ao:=by
 rcases hop with ⟨x,hop⟩ | ⟨op,t,x,y,t',hop⟩ | ⟨op,t,x,hop⟩
 ·simp only [cOp,hop] at hc; cases hc
 ·simp only [cOp,hop] at hc
  split at hc <;> first | (cases hc; done) | skip
  rename_i sh x' y' h1 h2 h3
  obtain rfl:=Option.some.inj hc
  simp only [Ze] at h
  split at h <;> first | (cases h; done) | skip
  rename_i u u' hx hy
  replace h:=WV h; obtain ⟨h,hss⟩:=h
  subst hss
  exact (Zxj hG hI hop h1 h2 h3 hx hy h).fit hI
 ·simp only [cOp,hop] at hc
  obtain ⟨y,hy,rfl⟩:=Option.map_eq_some_iff.1 hc
  simp only [Ze] at h
  split at h <;> first | (cases h; done) | skip
  rename_i u hx
  replace h:=WV h; obtain ⟨h,hss⟩:=h
  subst hss
  exact (Zz5 hG hI hop hy hx h).fit hI
theorem ZmL (hG:GOk G E.W0)(hI:Inv E s Γ a w){src dst:TypeId}{x:Operand}(hop:o.op=.convert src dst x)(hc:cOp P hand draw o=some ao)(h:Ze G call s ao=some (v,s')):IJ P E Γ s s' v a w o ao:=by
 simp only [cOp,hop] at hc
 split at hc <;> first | (cases hc; done) | skip
 ·rename_i x' k k' hx' hs hd
  obtain rfl:=Option.some.inj hc
  simp only [Ze] at h
  split at h <;> first | (cases h; done) | skip
  rename_i u hu
  replace h:=WV h; obtain ⟨h,hss⟩:=h
  subst hss
  cases u <;> simp only [XD] at h <;> first | (cases h; done) | skip
  obtain rfl:=Option.some.inj h
  exact (Zj0 hG hI hop hs hd hx' hu).fit
 ·rename_i x' hx' hs hd
  obtain rfl:=Option.some.inj hc
  simp only [Ze] at h
  split at h <;> first | (cases h; done) | skip
  rename_i u hu
  replace h:=WV h; obtain ⟨h,hss⟩:=h
  subst hss
  cases u <;> simp only [XD] at h <;> first | (cases h; done) | skip
  obtain rfl:=Option.some.inj h
  exact (Zj1 hG hI hop hs hd hx' hu).fit
theorem Zj3 (hG:GOk G E.W0)(hI:Inv E s Γ a w)(hop:(∃ fn x y,o.op=.makeFunc fn x y)∨(∃ t r,o.op=.makeMap t r)∨(∃ t l c,o.op=.makeSlice t l c))(hc:cOp P hand draw o=some ao)(h:Ze G call s ao=some (v,s')):IJ P E Γ s s' v a w o ao:=by
 rcases hop with ⟨fn,x,y,hop⟩ | ⟨t,r,hop⟩ | ⟨t,l,c,hop⟩
 ·cases fn with
  | func f =>
   simp only [cOp,hop] at hc
   split at hc <;> first | (cases hc; done) | skip
   rename_i us vs h1 h2
   obtain rfl:=Option.some.inj hc
   simp only [Ze] at h
   split at h <;> first | (cases h; done) | skip
   rename_i u1 u2 h3 h4
   cases h
   exact (ZuB hG hI hop h1 h2 h3 h4).fit
  | _=>simp only [cOp,hop] at hc; cases hc
 ·cases r with
  | none =>
   simp only [cOp,hop] at hc
   obtain rfl:=Option.some.inj hc
   simp only [Ze] at h
   cases h
   exact (ZrJ hI hop).fit
  | some r=>simp only [cOp,hop] at hc; cases hc
 ·have fin:∀ {e:TypeId} {z:AV} {i:TypeInfo} {n:Yt},P.underlying t=some (.slice e)→zeroOf P e=some z→P.info? e=some i→(z.cells.all AV.one=true∧z.cells.length=i.size∧i.bytes≤16384∧0 < i.size) →
    (∀ kd m,opnd G s.sl n=some (.int kd m)→a.eval l=.int kd m∧a.eval c=.int kd m)→Ze G call s (.mksl e z.cells n)=some (v,s')→IJ P E Γ s s' v a w o (.mksl e z.cells n):=by
   intro e z i n ht hz hi hx hev h
   simp only [Ze] at h
   split at h <;> first | (cases h; done) | skip
   rename_i kd m hm
   split at h <;> first | (cases h; done) | skip
   rename_i hb
   cases h
   exact (ZuC hI ⟨l,c,hop,(hev kd m hm).1,(hev kd m hm).2⟩ ht hi hz hx.1 hx.2.1 hx.2.2.2 hx.2.2.1 hb.1 hb.2).fit
  have slot:∀ {q:Nat} {kd:IntKind} {m:Int},opnd G s.sl (.tmp q)=some (.int kd m)→a.eval (.tmp q)=.int kd m:=fun {q kd m} hm=>by
   have:=(Z4 (P := P) (t := 0) (x := .tmp q) (y := .tmp q) hG hI rfl hm).1
   generalize a.eval (.tmp q)=u at this
   cases this; rfl
  cases l <;> cases c <;> simp only [cOp,hop] at hc <;> first | (cases hc; done) | skip
  ·split at hc <;> first | (cases hc; done) | skip
   rename_i hlc
   subst hlc
   split at hc <;> first | (cases hc; done) | skip
   rename_i e ht
   split at hc <;> first | (cases hc; done) | skip
   rename_i z i hz hi
   split at hc <;> first | (cases hc; done) | skip
   rename_i hx
   obtain rfl:=Option.some.inj hc
   exact fin ht hz hi hx (fun kd m hm=>⟨slot hm,slot hm⟩) h
  ·rename_i x y
   cases x <;> cases y <;> simp only at hc <;> first | (cases hc; done) | skip
   split at hc <;> first | (cases hc; done) | skip
   rename_i hlc
   obtain ⟨rfl,rfl⟩:=hlc
   split at hc <;> first | (cases hc; done) | skip
   rename_i e ht
   split at hc <;> first | (cases hc; done) | skip
   rename_i z i hz hi
   split at hc <;> first | (cases hc; done) | skip
   rename_i hx
   obtain rfl:=Option.some.inj hc
   exact fin ht hz hi hx (fun kd m hm=>by cases hm; exact ⟨rfl,rfl⟩) h
theorem ZrO (hG:GOk G E.W0)(hI:Inv E s Γ a w){t:TypeId}{x:Operand}{lo hi mx:Option Operand}(hop:o.op=.slice t x lo hi mx)(hc:cOp P hand draw o=some ao)(h:Ze G call s ao=some (v,s')):IJ P E Γ s s' v a w o ao:=by
 cases mx with
 | some m =>
  cases lo with
  | some l=>simp only [cOp,hop] at hc; cases hc
  | none =>
   cases hi with
   | none=>simp only [cOp,hop] at hc; cases hc
   | some hi=>simp only [cOp,hop] at hc; cases hc
 | none =>
  simp only [cOp,hop] at hc
  split at hc <;> first | (cases hc; done) | skip
  rename_i sh x' lo' hi' h1 h2 h3 h4
  obtain rfl:=Option.some.inj hc
  simp only [Ze] at h
  split at h <;> first | (cases h; done) | skip
  rename_i u vl vh k1 k2 k3
  replace h:=WV h; obtain ⟨h,hss⟩:=h
  subst hss
  exact (ok_slice hG hI hop h1 h2 h3 h4 k1 k2 k3 h).fit hI
theorem ZfL (hG:GOk G E.W0)(hI:Inv E s Γ a w)(hop:(∃ t x f,o.op=.fieldAddr t x f)∨(∃ t x f,o.op=.field t x f)∨(∃ t x i,o.op=.indexAddr t x i)∨(∃ t x i,o.op=.index t x i))(hc:cOp P hand draw o=some ao)(h:Ze G call s ao=some (v,s')):IJ P E Γ s s' v a w o ao:=by
 rcases hop with ⟨t,x,f,hop⟩ | ⟨t,x,f,hop⟩ | ⟨t,x,i,hop⟩ | ⟨t,x,i,hop⟩
 ·simp only [cOp,hop] at hc
  split at hc <;> first | (cases hc; done) | skip
  rename_i off n agg x' h1 h2
  obtain rfl:=Option.some.inj hc
  simp only [Ze] at h
  split at h <;> first | (cases h; done) | skip
  rename_i u hx
  replace h:=WV h; obtain ⟨h,hss⟩:=h
  subst hss
  exact (Zz1 hG hI hop h1 h2 hx h).fit hI
 ·simp only [cOp,hop] at hc; cases hc
 ·simp only [cOp,hop] at hc
  split at hc <;> first | (cases hc; done) | skip
  all_goals
   rename_i x' i' h1 h2 h3
   obtain rfl:=Option.some.inj hc
   simp only [Ze] at h
   split at h <;> first | (cases h; done) | skip
   rename_i u n hx hi
   replace h:=WV h; obtain ⟨h,hss⟩:=h
   subst hss
   exact (Zz2 hG hI hop h1 h2 h3 hx hi h).fit hI
 ·simp only [cOp,hop] at hc
  split at hc <;> first | (cases hc; done) | skip
  rename_i x' i' h1 h2 h3
  obtain rfl:=Option.some.inj hc
  simp only [Ze] at h
  split at h <;> first | (cases h; done) | skip
  rename_i u n hx hi
  replace h:=WV h; obtain ⟨h,hss⟩:=h
  subst hss
  exact (Zxl hG hI hop h1 h2 h3 hx hi h).fit hI
theorem Ztc (hG:GOk G E.W0)(hI:Inv E s Γ a w)(hop:(∃ t x i ok,o.op=.lookup t x i ok)∨(∃ t m k x,o.op=.mapUpdate t m k x))(hc:cOp P hand draw o=some ao)(h:Ze G call s ao=some (v,s')):IJ P E Γ s s' v a w o ao:=by
 rcases hop with ⟨t,x,i,ok,hop⟩ | ⟨t,m,k,x,hop⟩
 ·simp only [cOp,hop] at hc
  split at hc <;> first | (cases hc; done) | skip
  rename_i kt et ht
  split at hc <;> first | (cases hc; done) | skip
  rename_i sh z x' i' h1 h2 h3 h4
  split at hc <;> first | (cases hc; done) | skip
  rename_i hz
  obtain rfl:=Option.some.inj hc
  simp only [Ze] at h
  split at h <;> first | (cases h; done) | skip
  rename_i u n hx hi
  replace h:=WV h; obtain ⟨h,hss⟩:=h
  subst hss
  exact (ZuA hG hI hop ht h1 h2 hz h3 h4 hx hi h).fit
 ·simp only [cOp,hop] at hc
  split at hc <;> first | (cases hc; done) | skip
  rename_i kt et ht
  split at hc <;> first | (cases hc; done) | skip
  rename_i sh m' k' x' h1 h2 h3 h4
  obtain rfl:=Option.some.inj hc
  simp only [Ze] at h
  split at h <;> first | (cases h; done) | skip
  rename_i g ka va hm hk hv
  split at h <;> first | (cases h; done) | skip
  rename_i es hg
  split at h <;> first | (cases h; done) | skip
  rename_i hf
  simp only [Bool.and_eq_true] at hf
  split at h <;> first | (cases h; done) | skip
  rename_i es' hu
  cases h
  exact (ZuD hG hI hop ht h1 h2 h3 h4 hm hk hv hg hf.1 hf.2 (Zdq hu) hu).fit
theorem Zj2 (hG:GOk G E.W0)(hI:Inv E s Γ a w)(hop:(∃ t x,o.op=.range t x)∨(∃ x b,o.op=.next x b)∨(∃ x i,o.op=.extract x i))(hc:cOp P hand draw o=some ao)(h:Ze G call s ao=some (v,s')):IJ P E Γ s s' v a w o ao:=by
 rcases hop with ⟨t,x,hop⟩ | ⟨x,b,hop⟩ | ⟨x,i,hop⟩
 ·simp only [cOp,hop] at hc; cases hc
 ·simp only [cOp,hop] at hc; cases hc
 ·simp only [cOp,hop] at hc
  obtain ⟨x',hx',rfl⟩:=Option.map_eq_some_iff.1 hc
  simp only [Ze] at h
  split at h <;> first | (cases h; done) | skip
  rename_i vs hx
  obtain ⟨u,h1,h2⟩:=Option.map_eq_some_iff.1 h
  cases h2
  exact (ZmI hG hI hop hx' hx h1).fit hI
end
end Go.Proofs.YtgjcjbhhhlelnaaGreatDoor.Abs
end
section
namespace Go.Proofs.YtgjcjbhhhlelnaaGreatDoor.Abs
open Go Go.RowKit
def Zt0 (P:Program)(f:FuncId)(xs:Array Value)(w:World)(R:Value→World→Prop):Prop :=
 (callFunc f xs).run P w=.ok (.enter f xs) w∧Calls P f xs w fun e w''=>∃ v,e=.returned v∧R v w''
theorem Zt0.mono {P:Program}{f:FuncId}{xs:Array Value}{w:World}{R R':Value→World→Prop}(h:Zt0 P f xs w R)(hr:∀ v w',R v w'→R' v w'):Zt0 P f xs w R' :=
 ⟨h.1,h.2.mono fun _ w'' ⟨v,hv,h⟩=>⟨v,hv,hr v w'' h⟩⟩
structure Tidy (Γ:ZF)(n:Nat):Prop where
 res:∀ b m,Γ b≠.list m .res
 arg:∀ b m j,Γ b≠.list m (.arg j)
 cell:∀ b m g i,Γ b=.list m (.cell g i)→g < n
def Y8 (P:Program)(W0:World)(F:FuncId→List AV→List Zm→Option (AV×List Zm×Eff)):Prop :=
 ∀ f args hp v hp' e,F f args hp=some (v,hp',e)→∀ (Γ:ZF) (w:World) (xs:Array Value),RW W0 Γ w hp→Tidy Γ hp.length→xs.size=args.length →
  (∀ j x,args[j]? = some x→Rep Γ w x (xs.getD j Go.undef)∧OwnAt Γ w (.slot j) x (xs.getD j Go.undef)) →
  Zt0 P f xs w fun cv w'=>∃ Γ',RW W0 Γ' w' hp'∧Rep Γ' w' v cv∧OwnAt Γ' w' .res v cv∧Frame Γ w Γ' w' e∧hp.length≤hp'.length∧∀ b g,Γ' b=.own g→g < hp.length→Γ b=.own g
theorem QO.own {o g:Nat}:¬ QO o (.own g):=fun h=>h
theorem RW.alike {W0 w:World}{Γ Γ':ZF}{hp:List Zm}(h:RW W0 Γ w hp)(hf:Yu Γ w Γ' w)(ho:∀ b g,Γ b=.own g↔Γ' b=.own g)
  (hc:∀ b n g i,g < hp.length→Γ b=.list n (.cell g i)→Γ' b=.list n (.cell g i)) (hi:∀ b,Γ b=.imm→Γ' b=.imm):RW W0 Γ' w hp:=by
 have hom:YF Γ Γ':=fun b g hb=>(ho b g).1 hb
 refine ⟨fun g o hg=>?_,fun b b' g h1 h2=>h.inj b b' g ((ho b g).2 h1) ((ho b' g).2 h2),fun b hb=>hi b (h.fresh b hb),fun b g hb=>h.lt b g ((ho b g).2 hb),h.old,fun b hb=>hi b (h.oldImm b hb),fun g hg b hb=>h.dead g hg b ((ho b g).2 hb)⟩
 have hlt:=Zx hg
 have:=h.objs g o hg
 cases o with
 | dead=>trivial
 | cells cs t =>
  obtain ⟨b,C,h1,h2,h3,h4⟩:=this
  refine ⟨b,C,hom b g h1,h2,h3,fun i c hc'=>?_⟩
  obtain ⟨a1,a2,a3⟩:=h4 i c hc'
  exact ⟨a1,a2.mono hf hom,a3.mono hf hom fun b n hb=>⟨hc b n g i hlt hb,rfl⟩⟩
 | map es =>
  obtain ⟨b,ms,clk,h1,h2,h3,h4⟩:=this
  exact ⟨b,ms,clk,hom b g h1,h2,h3,h4⟩
 | iter s pos =>
  obtain ⟨b,h1,h2⟩:=this
  exact ⟨b,hom b g h1,h2⟩
 | buf _ _ _ =>
  obtain ⟨b,C,h1,h2,h3⟩:=this
  exact ⟨b,C,hom b g h1,h2,h3.mono fun b n i hb=>⟨hc b n g i hlt hb,rfl⟩⟩
def XZ (n:Nat):Kind→Kind
 | .list m (.slot _)=>.list m .outer
 | .list m .res=>.list m .outer
 | .list m (.arg j)=>.list m (.slot j)
 | .list m (.cell g i)=>if g < n then .list m (.cell g i) else .imm
 | k=>k
def Za9:Kind→Kind→Kind
 | .list m (.slot t),_=>.list m (.slot t)
 | _,.list _ (.slot _)=>.imm
 | _,.list _ (.arg _)=>.imm
 | _,k=>k
theorem ZcW {n o:Nat}{k:Kind}(h:QO o k):QO o (XZ n k):=by
 cases k with
 | imm=>trivial
 | own g=>exact h.elim
 | list m l =>
  cases l <;> simp only [XZ] <;> first | exact h | skip
  split
  ·exact h
  ·trivial
theorem EM {n g:Nat}{k:Kind}:k=.own g↔XZ n k=.own g:=by
 cases k with
 | imm=>simp [XZ]
 | own g=>simp [XZ]
 | list m l =>
  cases l <;> simp only [XZ] <;> try simp
  split <;> simp
theorem Zql {n:Nat}{k:Kind}(h:k=.imm):XZ n k=.imm:=by subst h; rfl
theorem Zqm (Γ:ZF)(n:Nat):Tidy (fun b=>XZ n (Γ b)) n:=by
 refine ⟨fun b m h=>?_,fun b m j h=>?_,fun b m g i h=>?_⟩ <;> revert h <;> cases Γ b with
 | imm=>simp [XZ]
 | own g=>simp [XZ]
 | list m l =>
  cases l <;> simp only [XZ] <;> try simp
  try (split <;> simp <;> try omega)
theorem RW.seen {W0 w:World}{Γ:ZF}{hp:List Zm}(h:RW W0 Γ w hp):RW W0 (fun b=>XZ hp.length (Γ b)) w hp :=
 h.alike (fun _ _ _ h1 h2=>⟨ZcW h1,h2⟩) (fun _ _=>EM) (fun b n g i hl hb=>by simp [hb,XZ,hl]) (fun _=>Zql)
end Go.Proofs.YtgjcjbhhhlelnaaGreatDoor.Abs
end
section
namespace Go.Proofs.YtgjcjbhhhlelnaaGreatDoor.Abs
open Go Go.RowKit
section
variable {P:Program}{G:Nat→Option (List AV)}{E:Entry}{s:Zb}{Γ:ZF}{a:Act}{w:World}
theorem Inv.hand (h:Inv E s Γ a w)(m:Loc)(t:Nat){v:AV}(hv:s.sl[t]? = some v) :
  ∃ Γ',Inv E (s.let_ t) Γ' a w∧Rep Γ' w v (a.tmps.getD t Go.undef)∧OwnAt Γ' w m v (a.tmps.getD t Go.undef)∧Yu Γ w Γ' w∧YF Γ Γ'∧∀ b n j,Γ b=.list n (.arg j)→Γ' b=.list n (.arg j):=by
 have f1:=Xg (Γ := Γ) (w := w) (l := .slot t) (Wx (l := m))
 have o1:YF Γ (relab Γ (.slot t) (L8 m)):=WN
 refine ⟨relab Γ (.slot t) (L8 m),⟨h.defers,⟨by simpa [Zb.let_] using h.slots.size,fun u x hx=>?_,fun u x hx=>?_⟩,h.rw.relab Wx Wn (by simp),h.fr.relab (l := .slot t) Wx trivial,h.base,h.base2,h.le,fun b g hb=>h.back b g (Yr Wn hb)⟩,?_,?_,f1,o1,fun b n j hb=>Q4 hb (by simp)⟩
 ·simp only [Zb.let_,List.getElem?_modify] at hx
  obtain ⟨y,hy,e⟩:=Option.map_eq_some_iff.1 hx
  have:=(h.slots.rep u y hy).mono f1 o1
  split at e
  ·subst e; exact this.ro
  ·subst e; exact this
 ·simp only [Zb.let_,List.getElem?_modify] at hx
  obtain ⟨y,hy,e⟩:=Option.map_eq_some_iff.1 hx
  split at e
  ·subst e; exact .of_ro _ _ _ _ _
  ·rename_i ne
   subst e
   exact (h.slots.own u y hy).mono f1 o1 fun b n hb=>⟨Q4 hb (by simp; omega),rfl⟩
 ·exact (h.slots.rep t v hv).mono f1 o1
 ·exact (h.slots.own t v hv).mono f1 o1 fun b n hb=>⟨EG hb,rfl⟩
theorem Zt2 (hG:GOk G E.W0):∀ {args:List (Nat ⊕ Yt)} {ts:List TypeId} {xs:List Operand} {hand:Nat→Bool} {vs sl:List AV} (k:Nat) {s:Zb} {Γ:ZF},Inv E s Γ a w→Ec P hand ts xs=some args→Qa G s.sl args=some (vs,sl) →
  ∃ Γ',Inv E { s with sl:=sl } Γ' a w∧Yu Γ w Γ' w∧YF Γ Γ'∧(∀ b n j,j < k→Γ b=.list n (.arg j)→Γ' b=.list n (.arg j))∧vs.length=xs.length ∧
   ∀ j v,vs[j]? = some v→∃ x,xs[j]? = some x∧Rep Γ' w v (a.eval x)∧OwnAt Γ' w (.arg (k + j)) v (a.eval x):=by
 intro args
 induction args with
 | nil =>
  intro ts xs hand vs sl k s Γ hI hc h
  simp only [Qa,Option.some.injEq,Prod.mk.injEq] at h
  obtain ⟨rfl,rfl⟩:=h
  have:xs=[]:=by
   cases xs with
   | nil=>rfl
   | cons x xs =>
    cases ts with
    | nil=>simp [Ec] at hc
    | cons t ts =>
     simp only [Ec] at hc
     split at hc <;> simp at hc
  subst this
  exact ⟨Γ,hI,.refl _ _,.refl _,fun _ _ _ _ h=>h,rfl,fun j v hv=>by simp at hv⟩
 | cons p args ih =>
  intro ts xs hand vs sl k s Γ hI hc h
  cases xs with
  | nil=>cases ts <;> simp [Ec] at hc
  | cons x xs =>
   cases ts with
   | nil=>simp [Ec] at hc
   | cons t ts =>
    simp only [Ec] at hc
    split at hc
    case h_2=>cases hc
    rename_i y l hy hl
    obtain ⟨rfl,rfl⟩:=List.cons.inj (Option.some.inj hc)
    have step:∀ (v:AV) (s1:Zb) (Γ1:ZF) (vs1:List AV),Inv E s1 Γ1 a w→s1.hp=s.hp→s1.ef=s.ef→s1.bs=s.bs→Yu Γ w Γ1 w→YF Γ Γ1→(∀ b n j,j < k→Γ b=.list n (.arg j)→Γ1 b=.list n (.arg j)) →
      Rep Γ1 w v (a.eval x)→OwnAt Γ1 w (.arg k) v (a.eval x)→Qa G s1.sl l=some (vs1,sl)→vs=v :: vs1 →
      ∃ Γ',Inv E { s with sl:=sl } Γ' a w∧Yu Γ w Γ' w∧YF Γ Γ'∧(∀ b n j,j < k→Γ b=.list n (.arg j)→Γ' b=.list n (.arg j))∧vs.length=(x :: xs).length ∧
       ∀ j v,vs[j]? = some v→∃ x',(x :: xs)[j]? = some x'∧Rep Γ' w v (a.eval x')∧OwnAt Γ' w (.arg (k + j)) v (a.eval x'):=by
     intro v s1 Γ1 vs1 i1 e1 e2 e3 f1 o1 k1 r1 w1 h1 hvs
     obtain ⟨Γ2,i2,f2,o2,k2,hlen,hall⟩:=ih (k + 1) i1 hl h1
     subst hvs
     refine ⟨Γ2,by rw [← e1,← e2,← e3]; exact i2,f1.trans f2,o1.trans o2,fun b n j hj hb=>k2 b n j (by omega) (k1 b n j hj hb),by simp [hlen],fun j u hu=>?_⟩
     cases j with
     | zero =>
      obtain rfl:=Option.some.inj hu
      exact ⟨x,rfl,r1.mono f2 o2,w1.mono f2 o2 fun b n hb=>⟨k2 b n k (by omega) hb,rfl⟩⟩
     | succ j =>
      obtain ⟨x',hx',hr,ho⟩:=hall j u (by simpa using hu)
      exact ⟨x',by simpa using hx',hr,by rw [show k + (j + 1)=k + 1 + j by omega]; exact ho⟩
    have plain:∀ (q:Yt),Yg P t x=some q∨(∃ i,x=.tmp i∧q=.tmp i)→y=.inr q →
      ∃ Γ',Inv E { s with sl:=sl } Γ' a w∧Yu Γ w Γ' w∧YF Γ Γ'∧(∀ b n j,j < k→Γ b=.list n (.arg j)→Γ' b=.list n (.arg j))∧vs.length=(x :: xs).length ∧
       ∀ j v,vs[j]? = some v→∃ x',(x :: xs)[j]? = some x'∧Rep Γ' w v (a.eval x')∧OwnAt Γ' w (.arg (k + j)) v (a.eval x'):=by
     intro q hq hp
     subst hp
     have hq:Yg P t x=some q:=by
      rcases hq with h | ⟨i,rfl,rfl⟩
      ·exact h
      ·rfl
     simp only [Qa] at h
     split at h
     case h_2=>cases h
     rename_i v hv
     obtain ⟨p1,h1,h2⟩:=Option.map_eq_some_iff.1 h
     obtain ⟨rfl,rfl⟩:=Prod.mk.inj h2
     exact step v s Γ p1.1 hI rfl rfl rfl (.refl _ _) (.refl _) (fun _ _ _ _ h=>h) (Z4 hG hI hq hv).1 (Zof hG hI _ hq hv) h1 rfl
    split at hy
    ·rename_i i
     split at hy
     ·obtain rfl:=Option.some.inj hy
      simp only [Qa] at h
      split at h
      case h_2=>cases h
      rename_i v hv
      obtain ⟨p1,h1,h2⟩:=Option.map_eq_some_iff.1 h
      obtain ⟨rfl,rfl⟩:=Prod.mk.inj h2
      obtain ⟨Γ1,i1,r1,w1,f1,o1,k1⟩:=hI.hand (.arg k) i hv
      exact step v (s.let_ i) Γ1 p1.1 i1 rfl rfl rfl f1 o1 (fun b n j _ hb=>k1 b n j hb) r1 w1 h1 rfl
     ·exact plain _ (.inr ⟨i,rfl,rfl⟩) (Option.some.inj hy).symm
    ·obtain ⟨q,hq,rfl⟩:=Option.map_eq_some_iff.1 hy
     exact plain q (.inl hq) rfl
theorem Zas {s:Zb}{e:Eff}{g:Nat}(hg:g < s.bs)(h:MM (s.after e) g):MM s.ef g∧MM e g:=by
 cases e with
 | none=>exact ⟨h,fun _ _ e=>by cases e⟩
 | some p =>
  obtain ⟨x,y⟩:=p
  simp only [Zb.after] at h
  split at h
  ·obtain ⟨h1,h2⟩:=Zi5 h
   exact ⟨h1,fun _ _ e=>by cases e; exact h2⟩
  ·exact ⟨h,fun _ _ e=>by cases e; omega⟩
theorem Inv.called (hI:Inv E s Γ a w){Γ':ZF}{w':World}{hp:List Zm}{e:Eff}{v:AV}{cv:Value}(hr:RW E.W0 Γ' w' hp)(hv:Rep Γ' w' v cv)(ho:OwnAt Γ' w' .res v cv)
  (hf:Frame (fun b=>XZ s.hp.length (Γ b)) w Γ' w' e) (hle:s.hp.length≤hp.length∧∀ b g,Γ' b=.own g→g < s.hp.length→XZ s.hp.length (Γ b)=.own g) :
  ∃ Γ'',Inv E { sl := s.sl,hp := hp,ef := s.after e,bs := s.bs } Γ'' a w'∧Rep Γ'' w' v cv∧OwnAt Γ'' w' .res v cv:=by
 have lt:∀ b,Γ b≠.imm→b < w.heap.size:=fun b hb=>by
  rcases Nat.lt_or_ge b w.heap.size with h' | h'
  ·exact h'
  ·exact absurd (hI.rw.fresh b h') hb
 have slot:∀ b m t,Γ b=.list m (.slot t)→Γ' b=.list m .outer∧w'.heap[b]? = w.heap[b]?:=fun b m t hb=>by
  obtain ⟨e1,e2⟩:=hf.keep b (lt b (by rw [hb]; simp)) (by simp only [hb,XZ,Kept])
  exact ⟨by rw [e1]; simp [hb,XZ],e2⟩
 have back:∀ b,(∃ m t,Γ b=.list m (.slot t)∧Γ' b=.list m .outer∧Za9 (Γ b) (Γ' b)=.list m (.slot t))∨((∀ m t,Γ b≠.list m (.slot t))∧∀ k,(∀ m t,k≠.list m (.slot t))→(∀ m t,k≠.list m (.arg t))→Γ' b=k→Za9 (Γ b) (Γ' b)=k):=by
  intro b
  cases hb:Γ b with
  | imm=>refine .inr ⟨by simp,fun k h1 h2 h3=>?_⟩; subst h3; cases hg:Γ' b with
   | list m l=>rw [hg] at h1 h2; cases l <;> first | rfl | exact absurd rfl (h1 _ _) | exact absurd rfl (h2 _ _)
   | _=>rfl
  | own g=>refine .inr ⟨by simp,fun k h1 h2 h3=>?_⟩; subst h3; cases hg:Γ' b with
   | list m l=>rw [hg] at h1 h2; cases l <;> first | rfl | exact absurd rfl (h1 _ _) | exact absurd rfl (h2 _ _)
   | _=>rfl
  | list n q =>
   cases q with
   | slot t=>exact .inl ⟨n,t,rfl,(slot b n t hb).1,rfl⟩
   | _ =>
    refine .inr ⟨by simp,fun k h1 h2 h3=>?_⟩; subst h3; cases hg:Γ' b with
    | list m l=>rw [hg] at h1 h2; cases l <;> first | rfl | exact absurd rfl (h1 _ _) | exact absurd rfl (h2 _ _)
    | _=>rfl
 have imm':∀ b,(∀ m t,Γ b≠.list m (.slot t))→(∃ m t,Γ' b=.list m (.slot t))∨(∃ m t,Γ' b=.list m (.arg t))→Za9 (Γ b) (Γ' b)=.imm:=by
  intro b h h2
  cases hb:Γ b with
  | imm=>rcases h2 with ⟨m,t,e⟩ | ⟨m,t,e⟩ <;> rw [e] <;> rfl
  | own g=>rcases h2 with ⟨m,t,e⟩ | ⟨m,t,e⟩ <;> rw [e] <;> rfl
  | list n q=>cases q with
   | slot t=>exact absurd hb (h n t)
   | _=>rcases h2 with ⟨m,t,e⟩ | ⟨m,t,e⟩ <;> rw [e] <;> rfl
 have f3:Yu Γ' w' (fun b=>Za9 (Γ b) (Γ' b)) w':=by
  intro b o v h1 h2
  refine ⟨?_,h2⟩
  unfold P8 at h1 ⊢
  rcases back b with ⟨m,t,e1,e2,e3⟩ | ⟨h,h'⟩
  ·show QO o (Za9 (Γ b) (Γ' b))
   rw [e3]
   rw [e2] at h1
   exact h1
  ·show QO o (Za9 (Γ b) (Γ' b))
   by_cases hs:(∃ m t,Γ' b=.list m (.slot t))∨(∃ m t,Γ' b=.list m (.arg t))
   ·rw [imm' b h hs]; trivial
   ·rw [h' (Γ' b) (fun m t e=>hs (.inl ⟨m,t,e⟩)) (fun m t e=>hs (.inr ⟨m,t,e⟩)) rfl]; exact h1
 have own':∀ b g,Γ' b=.own g↔Za9 (Γ b) (Γ' b)=.own g:=by
  intro b g
  rcases back b with ⟨m,t,e1,e2,e3⟩ | ⟨h,h'⟩
  ·rw [e3,e2]; simp
  ·by_cases hs:(∃ m t,Γ' b=.list m (.slot t))∨(∃ m t,Γ' b=.list m (.arg t))
   ·rw [imm' b h hs]
    rcases hs with ⟨m,t,e⟩ | ⟨m,t,e⟩ <;> rw [e] <;> simp
   ·rw [h' (Γ' b) (fun m t e=>hs (.inl ⟨m,t,e⟩)) (fun m t e=>hs (.inr ⟨m,t,e⟩)) rfl]
 have keepL:∀ b k,(∀ m,k≠.list m .outer)→(∀ m t,k≠.list m (.slot t))→(∀ m t,k≠.list m (.arg t))→Γ' b=k→Za9 (Γ b) (Γ' b)=k:=by
  intro b k h0 h1 h2 hb
  rcases back b with ⟨m,t,e1,e2,e3⟩ | ⟨h,h'⟩
  ·rw [e2] at hb; exact absurd hb.symm (h0 m)
  ·exact h' k h1 h2 hb
 have o3:YF Γ' (fun b=>Za9 (Γ b) (Γ' b)):=fun b g hb=>(own' b g).1 hb
 have f1:Yu Γ w (fun b=>XZ s.hp.length (Γ b)) w:=fun _ _ _ h1 h2=>⟨ZcW h1,h2⟩
 have o1:YF Γ (fun b=>XZ s.hp.length (Γ b)):=fun b g hb=>EM.1 hb
 have fAll:=(f1.trans hf.fix).trans f3
 have oAll:=(o1.trans hf.own).trans o3
 refine ⟨fun b=>Za9 (Γ b) (Γ' b),⟨hI.defers,⟨hI.slots.size,fun t x hx=>(hI.slots.rep t x hx).mono fAll oAll,fun t x hx=>(hI.slots.own t x hx).mono fAll oAll fun b n hb=>?_⟩,?_,?_,hI.base,hI.base2,Nat.le_trans hI.le hle.1,fun b g hb hl=>hI.back b g (EM.2 (hle.2 b g ((own' b g).2 hb) (Nat.lt_of_lt_of_le hl hI.le))) hl⟩,hv.mono f3 o3,ho.mono f3 o3 fun b n hb=>⟨keepL b _ (by simp) (by simp) (by simp) hb,rfl⟩⟩
 ·refine ⟨?_,(slot b n t hb).2⟩
  show Za9 (Γ b) (Γ' b)=_
  rw [hb]; rfl
 ·exact hr.alike f3 own' (fun b n g i _ hb=>keepL b _ (by simp) (by simp) (by simp) hb) (fun b hb=>keepL b _ (by simp) (by simp) (by simp) hb)
 ·refine ⟨hf.os.trans hI.fr.os,hf.tape.trans hI.fr.tape,hf.output.trans hI.fr.output,Nat.le_trans hI.fr.size hf.size,hI.fr.fix.trans fAll,hI.fr.own.trans oAll,fun b hb hk=>?_⟩
  have hb':=Nat.lt_of_lt_of_le hb hI.fr.size
  cases hg:E.Γ0 b with
  | imm =>
   obtain ⟨e1,e2⟩:=hI.fr.keep b hb (by rw [hg]; trivial)
   rw [hg] at e1
   obtain ⟨e3,e4⟩:=hf.keep b hb' (by simp only [e1,XZ,Kept])
   simp only [e1,XZ] at e3
   exact ⟨keepL b _ (by simp) (by simp) (by simp) e3,e4.trans e2⟩
  | own g =>
   rw [hg] at hk
   obtain ⟨s1,s2⟩:=Zas (hI.base b g hg) hk
   obtain ⟨e1,e2⟩:=hI.fr.keep b hb (by rw [hg]; exact s1)
   rw [hg] at e1
   obtain ⟨e3,e4⟩:=hf.keep b hb' (by simp only [e1,XZ,Kept]; exact s2)
   simp only [e1,XZ] at e3
   exact ⟨keepL b _ (by simp) (by simp) (by simp) e3,e4.trans e2⟩
  | list n m =>
   rw [hg] at hk
   cases m with
   | outer =>
    obtain ⟨e1,e2⟩:=hI.fr.keep b hb (by rw [hg]; trivial)
    rw [hg] at e1
    obtain ⟨e3,e4⟩:=hf.keep b hb' (by simp only [e1,XZ,Kept])
    simp only [e1,XZ] at e3
    refine ⟨?_,e4.trans e2⟩
    show Za9 (Γ b) (Γ' b)=_
    rw [e1,e3]; rfl
   | cell g i =>
    have hgb:=hI.base2 b n g i hg
    obtain ⟨s1,s2⟩:=Zas hgb hk
    obtain ⟨e1,e2⟩:=hI.fr.keep b hb (by rw [hg]; exact s1)
    rw [hg] at e1
    have hlt:g < s.hp.length:=Nat.lt_of_lt_of_le hgb hI.le
    obtain ⟨e3,e4⟩:=hf.keep b hb' (by simp only [e1,XZ,if_pos hlt,Kept]; exact s2)
    simp only [e1,XZ,if_pos hlt] at e3
    exact ⟨keepL b _ (by simp) (by simp) (by simp) e3,e4.trans e2⟩
   | slot t=>exact hk.elim
   | res=>exact hk.elim
   | arg j=>exact hk.elim
end
end Go.Proofs.YtgjcjbhhhlelnaaGreatDoor.Abs
end
section
namespace Go.Proofs.YtgjcjbhhhlelnaaGreatDoor.Abs
open Go Go.RowKit
section
variable {P:Program}{G:Nat→Option (List AV)}{call:FuncId→List AV→List Zm→Option (AV×List Zm×Eff)}{E:Entry}{s s':Zb}{Γ:ZF}{a:Act}{w:World}{o:Oper}{hand:Nat→Bool}{draw:Bool}{ao:AOp}{v:AV}
theorem ZiZ {c:Call}{b:Callee}{xs:List Operand}{ts:List TypeId}(h0:c.callee=b)(h1:c.args.toList=xs)(h2:c.argTypes.toList=ts):c={ callee := b,args := xs.toArray,argTypes := ts.toArray }:=by
 cases c with
 | mk q xs' ts'=>subst h0 h1 h2; simp
theorem ZmK (hG:GOk G E.W0)(hI:Inv E s Γ a w){c:Call}(hop:o.op=.call c)(hnv:∀ f,c.callee≠.value f)(hc:cOp P hand draw o=some ao)(h:Ze G call s ao=some (v,s')):IJ P E Γ s s' v a w o ao:=by
 simp only [cOp,hop] at hc
 split at hc
 ·rename_i f hf; exact absurd hf (hnv f)
 ·rename_i hf
  split at hc <;> first | (cases hc; done) | skip
  rename_i x t hx ht
  rw [ZiZ hf hx ht] at hop
  split at hc <;> first | (cases hc; done) | skip
  all_goals
   rename_i hu
   obtain ⟨x',hx',rfl⟩:=Option.map_eq_some_iff.1 hc
   simp only [Ze] at h
   split at h <;> first | (cases h; done) | skip
   rename_i u hu'
   replace h:=WV h
   obtain ⟨h,hss⟩:=h
   subst hss
  ·exact (Zpu (sh := .str) hG hI hop hu hx' hu' h).fit hI
  ·exact (Zpu (sh := .slice) hG hI hop ⟨_,hu⟩ hx' hu' h).fit hI
  ·exact (Zpu (sh := .map) hG hI hop ⟨_,_,hu⟩ hx' hu' h).fit hI
 ·rename_i hf
  split at hc <;> first | (cases hc; done) | skip
  rename_i q x t u hx ht
  rw [ZiZ hf hx ht] at hop
  split at hc <;> first | (cases hc; done) | skip
  rename_i e hu
  split at hc <;> first | (cases hc; done) | skip
  rename_i i z hi hz
  split at hc
  case isFalse=>cases hc
  rename_i hk
  obtain ⟨rfl,hk1,hk2,hk3⟩:=hk
  split at hc <;> first | (cases hc; done) | skip
  ·rename_i sl x' hx'
   obtain rfl:=Option.some.inj hc
   simp only [Ze] at h
   split at h <;> first | (cases h; done) | skip
   rename_i k' r y hsl hy
   split at h <;> first | (cases h; done) | skip
   rename_i k'' r' hr
   split at h <;> first | (cases h; done) | skip
   rename_i hh
   obtain ⟨rfl,rfl,hid,hb⟩:=hh
   cases h
   exact (Zxi hG hI hop hu hi hz hk2 hk1 hk3 hx' hsl hy hr hid hb).fit
  ·rename_i x' hx'
   obtain rfl:=Option.some.inj hc
   simp only [Ze] at h
   split at h <;> first | (cases h; done) | skip
   rename_i y hy
   split at h <;> first | (cases h; done) | skip
   rename_i k'' r' hr
   split at h <;> first | (cases h; done) | skip
   rename_i hh
   obtain ⟨rfl,hid,hb⟩:=hh
   cases h
   exact (Zu8 hG hI hop hu hi hz hk2 hk1 hk3 hx' hy hr hid hb).fit
 ·rename_i hf
  split at hc <;> first | (cases hc; done) | skip
  rename_i q x t u hx ht
  rw [ZiZ hf hx ht] at hop
  split at hc <;> first | (cases hc; done) | skip
  rename_i e hu
  split at hc <;> first | (cases hc; done) | skip
  rename_i i hi
  split at hc <;> first | (cases hc; done) | skip
  rename_i hk
  obtain ⟨rfl,hk1⟩:=hk
  split at hc <;> first | (cases hc; done) | skip
  rename_i d' x' hd' hx'
  obtain rfl:=Option.some.inj hc
  simp only [Ze] at h
  split at h <;> first | (cases h; done) | skip
  ·rename_i g off len k'' y hd hy
   split at h <;> first | (cases h; done) | skip
   rename_i k' r cs t' hr hg
   split at h <;> first | (cases h; done) | skip
   rename_i hh
   obtain ⟨rfl,rfl,hfit,hone⟩:=hh
   cases h
   exact (Zu9 hG hI hop hu hi hk1 hd' hx' hd hy hr hg hfit hone).fit
  ·rename_i k'' y hd hy
   split at h <;> first | (cases h; done) | skip
   rename_i k' r hr
   split at h <;> first | (cases h; done) | skip
   rename_i hh
   subst hh
   cases h
   exact (ZrI hG hI hop hu hi hd' hx' hd hy hr).fit
 ·rename_i hf
  split at hc <;> first | (cases hc; done) | skip
  rename_i t l ht
  split at hc <;> first | (cases hc; done) | skip
  obtain ⟨ps,hps,rfl⟩:=Option.map_eq_some_iff.1 hc
  simp only [Ze] at h
  split at h <;> first | (cases h; done) | skip
  rename_i n vs hv
  obtain ⟨r,hr,e⟩:=Option.map_eq_some_iff.1 h
  cases e
  exact (Zh9 (isMax := false) hG hI (by rw [hop]; cases c; simp only at hf; subst hf; rfl) hps hv hr).fit
 ·rename_i hf
  split at hc <;> first | (cases hc; done) | skip
  rename_i t l ht
  split at hc <;> first | (cases hc; done) | skip
  obtain ⟨ps,hps,rfl⟩:=Option.map_eq_some_iff.1 hc
  simp only [Ze] at h
  split at h <;> first | (cases h; done) | skip
  rename_i n vs hv
  obtain ⟨r,hr,e⟩:=Option.map_eq_some_iff.1 h
  cases e
  exact (Zh9 (isMax := true) hG hI (by rw [hop]; cases c; simp only at hf; subst hf; rfl) hps hv hr).fit
 ·cases hc
theorem Ztb (hG:GOk G E.W0)(hI:Inv E s Γ a w)(hnv:∀ c f,o.op=.call c→c.callee≠.value f)(hc:cOp P hand draw o=some ao)(h:Ze G call s ao=some (v,s')):IJ P E Γ s s' v a w o ao:=by
 cases hop:o.op with
 | move x=>exact ZuH hG hI hop hc h
 | assign x=>exact Zpz hG hI hop hc h
 | pick c x y=>exact ZuI hG hI hop hc h
 | alloc e=>exact Ztd hG hI (.inl ⟨_,hop⟩) hc h
 | box e x=>exact Ztd hG hI (.inr ⟨_,_,hop⟩) hc h
 | build t ps=>exact ZrN hG hI hop hc h
 | buildSlice t n ps=>exact Zxt hG hI hop hc h
 | load t p=>exact ZuG hG hI hop hc h
 | store t p x=>exact ZrP hG hI hop hc h
 | nilCheck x=>exact Zc1 hG hI (.inl ⟨_,hop⟩) hc h
 | binOp op t x y t'=>exact Zc1 hG hI (.inr (.inl ⟨_,_,_,_,_,hop⟩)) hc h
 | unOp op t x=>exact Zc1 hG hI (.inr (.inr ⟨_,_,_,hop⟩)) hc h
 | convert src dst x=>exact ZmL hG hI hop hc h
 | makeFunc fn x y=>exact Zj3 hG hI (.inl ⟨_,_,_,hop⟩) hc h
 | makeMap t r=>exact Zj3 hG hI (.inr (.inl ⟨_,_,hop⟩)) hc h
 | makeSlice t l c=>exact Zj3 hG hI (.inr (.inr ⟨_,_,_,hop⟩)) hc h
 | slice t x lo hi mx=>exact ZrO hG hI hop hc h
 | fieldAddr t x f=>exact ZfL hG hI (.inl ⟨_,_,_,hop⟩) hc h
 | field t x f=>exact ZfL hG hI (.inr (.inl ⟨_,_,_,hop⟩)) hc h
 | indexAddr t x i=>exact ZfL hG hI (.inr (.inr (.inl ⟨_,_,_,hop⟩))) hc h
 | index t x i=>exact ZfL hG hI (.inr (.inr (.inr ⟨_,_,_,hop⟩))) hc h
 | lookup t x i ok=>exact Ztc hG hI (.inl ⟨_,_,_,_,hop⟩) hc h
 | mapUpdate t m k x=>exact Ztc hG hI (.inr ⟨_,_,_,_,hop⟩) hc h
 | range t x=>exact Zj2 hG hI (.inl ⟨_,_,hop⟩) hc h
 | next x b=>exact Zj2 hG hI (.inr (.inl ⟨_,_,hop⟩)) hc h
 | extract x i=>exact Zj2 hG hI (.inr (.inr ⟨_,_,hop⟩)) hc h
 | call c=>exact ZmK hG hI hop (fun f=>hnv c f hop) hc h
 | _=>simp [cOp,hop] at hc
end
end Go.Proofs.YtgjcjbhhhlelnaaGreatDoor.Abs
end
section
namespace Go.Proofs.YtgjcjbhhhlelnaaGreatDoor.Abs
open Go Go.RowKit
section
variable {P:Program}{G:Nat→Option (List AV)}{call:FuncId→List AV→List Zm→Option (AV×List Zm×Eff)}{E:Entry}{s s':Zb}{Γ:ZF}{a:Act}{w:World}{o:Oper}{hand:Nat→Bool}{draw:Bool}{ao:AOp}{v:AV}
theorem Oo {x:AV}{k:Nat}{r:List (List AV)}:x.nm≠.own k r:=by cases x <;> simp [AV.nm]
theorem three {first vs caps:List AV}{fv cv:Array Value}{xs:Array Value}(h1:fv.size=first.length)(h2:xs.size=vs.length)(h3:cv.size=caps.length){R:Nat→AV→Value→Prop}
  (k1:∀ j x,first[j]? = some x→R j x.nm (fv.getD j Go.undef)) (k2:∀ j x,vs[j]? = some x→R (first.length + j) x (xs.getD j Go.undef)) (k3:∀ j x i,caps[j]? = some x→R i x.nm (cv.getD j Go.undef)) :
  ((fv ++ xs) ++ cv).size=(first.map AV.nm ++ vs ++ caps.map AV.nm).length∧∀ j x,(first.map AV.nm ++ vs ++ caps.map AV.nm)[j]? = some x→R j x (((fv ++ xs) ++ cv).getD j Go.undef):=by
 refine ⟨by simp [h1,h2,h3],fun j x hx=>?_⟩
 have hget:∀ i,((fv ++ xs) ++ cv).getD i Go.undef=if i < first.length then fv.getD i Go.undef else if i < first.length + vs.length then xs.getD (i - first.length) Go.undef else cv.getD (i - (first.length + vs.length)) Go.undef:=by
  intro i
  simp only [Array.getD_eq_getD_getElem?,Array.getElem?_append,Array.size_append,h1,h2]
  split
  ·split
   ·rfl
   ·rfl
  ·rename_i hge
   rw [if_neg (by omega)]
 rw [hget]
 by_cases c1:j < first.length
 ·rw [if_pos c1]
  rw [List.append_assoc,List.getElem?_append_left (by simpa using c1),List.getElem?_map] at hx
  obtain ⟨y,hy,rfl⟩:=Option.map_eq_some_iff.1 hx
  exact k1 j y hy
 ·rw [if_neg c1]
  by_cases c2:j < first.length + vs.length
  ·rw [if_pos c2]
   rw [List.append_assoc,List.getElem?_append_right (by simpa using c1),List.getElem?_append_left (by simp; omega)] at hx
   simp only [List.length_map] at hx
   have:=k2 _ x hx
   rwa [show first.length + (j - first.length)=j by omega] at this
  ·rw [if_neg c2]
   rw [List.getElem?_append_right (by simp; omega),List.getElem?_map] at hx
   simp only [List.length_append,List.length_map] at hx
   obtain ⟨y,hy,rfl⟩:=Option.map_eq_some_iff.1 hx
   exact k3 _ y j hy
theorem Zlf {c:Call}{f:Operand}(hop:o.op=.call c)(hcal:c.callee=.value f){g:FuncId}{fv cv:Array Value}(hf:a.eval f=.func (.func g) fv cv)(w:World) :
  (execOp a.eval o).run P w=(callFunc g ((fv ++ c.args.map a.eval) ++ cv)).run P w:=by
 simp only [execOp,hop]
 simp only [resolve,hcal,Deferred.ofValue,hf,Sem.run_bind,Sem.run_pure,Result.andThen_ok,invoke]
theorem ZuF (hG:GOk G E.W0)(hS:Y8 P E.W0 call)(hI:Inv E s Γ a w){c:Call}{f:Operand}(hop:o.op=.call c)(hcal:c.callee=.value f)(hc:cOp P hand draw o=some ao)(h:Ze G call s ao=some (v,s'))
  {K:Act→World→Prop} {Q:Exit→Act→World→Prop} (hK:∀ Γ' cv w',Inv E s' Γ' a w'→Rep Γ' w' v cv→OwnAt Γ' w' .res v cv→K (a.put o.dst cv) w'):o.wp P a w K Q:=by
 simp only [cOp,hop,hcal] at hc
 split at hc <;> first | (cases hc; done) | skip
 rename_i f' args hf hargs
 obtain rfl:=Option.some.inj hc
 simp only [Ze] at h
 split at h <;> first | (cases h; done) | skip
 rename_i g first caps vs sl hfv hvs
 split at h <;> first | (cases h; done) | skip
 rename_i u hp e hcall
 cases h
 obtain ⟨Γ1,i1,f1,o1,_,hlen,hall⟩:=Zt2 hG first.length hI hargs hvs
 have hfn:=((Z4 hG hI hf hfv).1).mono f1 o1
 generalize hq:a.eval f=q at hfn
 cases hfn with
 | fn _ _ _ fv cv hs1 hr1 hs hr =>
  have f2:Yu Γ1 w (fun b=>XZ s.hp.length (Γ1 b)) w:=fun _ _ _ h1 h2=>⟨ZcW h1,h2⟩
  have o2:YF Γ1 (fun b=>XZ s.hp.length (Γ1 b)):=fun b g hb=>EM.1 hb
  obtain ⟨t1,t2⟩:=three (first := first) (vs := vs) (caps := caps) (fv := fv) (cv := cv) (xs := c.args.map a.eval) hs1 (by simp [hlen]) hs
   (R := fun j x y=>Rep (fun b=>XZ s.hp.length (Γ1 b)) w x y∧OwnAt (fun b=>XZ s.hp.length (Γ1 b)) w (.slot j) x y)
   (fun j x hx=>⟨((hr1 j x hx).mono f2 o2).nm,.of_ne fun _ _=>Oo⟩)
   (fun j x hx=>by
    obtain ⟨y,hy,hr,ho⟩:=hall j x hx
    have:(c.args.map a.eval).getD j Go.undef=a.eval y:=by
     rw [Array.getElem?_toList] at hy
     rw [Array.getD_eq_getD_getElem?,Array.getElem?_map,hy]; rfl
    rw [this]
    exact ⟨hr.mono f2 o2,ho.mono f2 o2 fun b n hb=>⟨by simp [hb,XZ],rfl⟩⟩)
   (fun j x i hx=>⟨((hr j x hx).mono f2 o2).nm,.of_ne fun _ _=>Oo⟩)
  have hw:=hS g _ _ _ _ _ hcall _ w _ i1.rw.seen (Zqm Γ1 _) t1 t2
  unfold Oper.wp
  rw [Zlf hop hcal hq]
  have fin:∀ cv w',(∃ Γ',RW E.W0 Γ' w' hp∧Rep Γ' w' v cv∧OwnAt Γ' w' .res v cv∧Frame (fun b=>XZ s.hp.length (Γ1 b)) w Γ' w' e∧s.hp.length≤hp.length∧∀ b g,Γ' b=.own g→g < s.hp.length→XZ s.hp.length (Γ1 b)=.own g)→K (a.put o.dst cv) w':=by
   rintro cv w' ⟨Γ',r1,r2,r3,r4,r5⟩
   obtain ⟨Γ'',j1,j2,j3⟩:=i1.called r1 r2 r3 r4 r5
   exact hK Γ'' cv w' j1 j2 j3
  obtain ⟨hrun,hw⟩:=hw
  rw [hrun,Oper.upon_enter]
  refine hw.mono fun en w'' ⟨cv',hv,hR⟩=>?_
  subst hv
  exact fin cv' w'' hR
theorem ZrQ (hG:GOk G E.W0)(hS:Y8 P E.W0 call)(hI:Inv E s Γ a w)(hc:cOp P hand draw o=some ao)(h:Ze G call s ao=some (v,s'))
  {K:Act→World→Prop} {Q:Exit→Act→World→Prop} (hK:∀ Γ' cv w',Inv E s' Γ' a w'→Rep Γ' w' v cv→OwnAt Γ' w' .res v cv→K (a.put o.dst cv) w'):o.wp P a w K Q:=by
 by_cases hv:∃ c f,o.op=.call c∧c.callee=.value f
 ·obtain ⟨c,f,h1,h2⟩:=hv
  exact ZuF hG hS hI h1 h2 hc h hK
 ·exact (Ztb hG hI (fun c f h1 h2=>hv ⟨c,f,h1,h2⟩) hc h).1.wp hK
structure Behind (W w:World):Prop where
 os:w.os=W.os
 tape:w.tape=W.tape
 output:w.output=W.output
 size:W.heap.size≤w.heap.size
 upon:Upon W w
theorem Behind.inv (hI:Inv E s Γ a w){w':World}(h:Behind w w'):Inv E s Γ a w' :=
 hI.plain (X := fun _=>False) ⟨h.os,h.tape,h.output,h.size,fun b hb _=>⟨rfl,h.upon b hb⟩,fun _ _ _ h1 h2=>⟨h1,h.upon.cell h2⟩,.refl _⟩ (fun _ hx=>hx.elim) (fun _ _ h=>h) (fun b hb=>hI.rw.fresh b (Nat.le_trans h.size hb))
def Vs (n:Nat):Kind→Kind
 | .list m (.cell g i)=>if g < n then .list m (.cell g i) else .imm
 | .list m _=>.list m .outer
 | k=>k
theorem ZeO {n o:Nat}{k:Kind}(h:QO o k):QO o (Vs n k):=by
 cases k with
 | imm=>trivial
 | own g=>exact h.elim
 | list m l =>
  cases l <;> simp only [Vs] <;> first | exact h | skip
  split
  ·exact h
  ·trivial
theorem ZeP {n g:Nat}{k:Kind}:k=.own g↔Vs n k=.own g:=by
 cases k with
 | imm=>simp [Vs]
 | own g=>simp [Vs]
 | list m l =>
  cases l <;> simp only [Vs] <;> try simp
  split <;> simp
theorem Znj (Γ:ZF)(n:Nat):Tidy (fun b=>Vs n (Γ b)) n:=by
 refine ⟨fun b m h=>?_,fun b m j h=>?_,fun b m g i h=>?_⟩ <;> revert h <;> cases Γ b with
 | imm=>simp [Vs]
 | own g=>simp [Vs]
 | list m l =>
  cases l <;> simp only [Vs] <;> try simp
  try (split <;> simp <;> try omega)
theorem Zni (n:Nat)(k:Kind):Kept none (Vs n k):=by
 cases k with
 | imm=>trivial
 | own g=>exact fun _ _ e=>by cases e
 | list m l =>
  cases l <;> simp only [Vs] <;> try trivial
  split
  ·exact fun _ _ e=>by cases e
  ·trivial
theorem RW.quiet {W0 w:World}{Γ:ZF}{hp:List Zm}(h:RW W0 Γ w hp):RW W0 (fun b=>Vs hp.length (Γ b)) w hp :=
 h.alike (fun _ _ _ h1 h2=>⟨ZeO h1,h2⟩) (fun _ _=>ZeP) (fun b n g i hl hb=>by simp [hb,Vs,hl]) (fun b hb=>by simp [hb,Vs])
theorem Zev (hG:GOk G E.W0)(hI:Inv E s Γ a w):∀ {args:List (Nat ⊕ Yt)} {ts:List TypeId} {xs:List Operand} {hand:Nat→Bool} {vs sl:List AV},Ec P hand ts xs=some args→noHand (.call (.glob 0) args)=true →
  Qa G s.sl args=some (vs,sl)→sl=s.sl∧vs.length=xs.length∧∀ (j:Nat) (v:AV),vs[j]? = some v→∃ x,xs[j]? = some x∧Rep Γ w v (a.eval x)∧∀ k r,v=.own k r→r=[]∧a.eval x=.slice none 0 0:=by
 intro args
 induction args with
 | nil =>
  intro ts xs hand vs sl hc _ h
  simp only [Qa,Option.some.injEq,Prod.mk.injEq] at h
  obtain ⟨rfl,rfl⟩:=h
  have:xs=[]:=by
   cases xs with
   | nil=>rfl
   | cons x xs =>
    cases ts with
    | nil=>simp [Ec] at hc
    | cons t ts =>
     simp only [Ec] at hc
     split at hc <;> simp at hc
  subst this
  exact ⟨rfl,rfl,fun j v hv=>by simp at hv⟩
 | cons p args ih =>
  intro ts xs hand vs sl hc hq h
  cases xs with
  | nil=>cases ts <;> simp [Ec] at hc
  | cons x xs =>
   cases ts with
   | nil=>simp [Ec] at hc
   | cons t ts =>
    simp only [Ec] at hc
    split at hc
    case h_2=>cases hc
    rename_i y l hy hl
    obtain ⟨rfl,rfl⟩:=List.cons.inj (Option.some.inj hc)
    simp only [noHand,List.all_cons,Bool.and_eq_true] at hq
    cases y with
    | inl i=>exact absurd hq.1 (by simp)
    | inr q =>
     have hqx:Yg P t x=some q:=by
      split at hy
      ·rename_i i
       split at hy
       ·cases hy
       ·cases hy; rfl
      ·obtain ⟨q',h1,h2⟩:=Option.map_eq_some_iff.1 hy
       cases h2; exact h1
     simp only [Qa] at h
     split at h
     case h_2=>cases h
     rename_i v hv
     obtain ⟨p1,h1,h2⟩:=Option.map_eq_some_iff.1 h
     obtain ⟨rfl,rfl⟩:=Prod.mk.inj h2
     obtain ⟨e1,e2,e3⟩:=ih hl hq.2 h1
     obtain ⟨r1,r2⟩:=Z4 hG hI hqx hv
     refine ⟨e1,by simp [e2],fun j u hu=>?_⟩
     cases j with
     | zero =>
      obtain rfl:=Option.some.inj hu
      exact ⟨x,rfl,r1,r2⟩
     | succ j =>
      obtain ⟨x',hx',hr⟩:=e3 j u (by simpa using hu)
      exact ⟨x',by simpa using hx',hr⟩
theorem Ro {Γ Γ':ZF}{w w':World}{v:AV}{cv:Value}(h:Rep Γ w v cv)(hf:v.flat1=true):Rep Γ' w' v cv:=by
 rw [h.conc1 hf]; exact Jf hf Γ' w'
theorem Eg {Γ Γ':ZF}{w w':World}{v:AV}{cv:Value}(h:Rep Γ w v cv)(hf:v.flat=true):Rep Γ' w' v cv:=by
 cases h with
 | agg cells cv hs h1 hn hr =>
  simp only [AV.flat,List.all_eq_true] at hf
  exact .agg cells cv hs h1 hn fun j c hc=>Ro (hr j c hc) (hf c (List.mem_of_getElem? hc))
 | tup vs cv hs hr =>
  simp only [AV.flat,List.all_eq_true] at hf
  exact .tup vs cv hs fun j c hc=>Ro (hr j c hc) (hf c (List.mem_of_getElem? hc))
 | fn f fst caps fv cv hs1 hr1 hs hr=>exact Ro (Rep.fn f fst caps fv cv hs1 hr1 hs hr) hf
 | undef=>exact .undef
 | bool=>exact .bool _
 | int=>exact .int _ _
 | str=>exact .str _
 | nilp=>exact .nilp
 | nilf=>exact .nilf
 | nilm=>exact .nilm
 | nili=>exact .nili
 | _=>cases hf
theorem Behind.refl (w:World):Behind w w:=⟨rfl,rfl,rfl,Nat.le_refl _,.refl w⟩
theorem Zrd {v:AV}(h:v.flat=true):∀ k r,v≠.own k r:=by cases v <;> first | (cases h; done) | simp
theorem ZlA (hG:GOk G E.W0)(hS:Y8 P E.W0 call)(hI:Inv E s Γ a w)(hc:cOp P hand draw o=some ao)(hq:ZcF ao=true)(hn:noHand ao=true)(h:Ze G (Wj call) s ao=some (v,s'))
  {K:Act→Prop} (hK:∀ cv,s'=s→Rep Γ w v cv→(∀ l,OwnAt Γ w l v cv)→K (a.put o.dst cv)):o.quiet P a (Behind w) K:=by
 by_cases hv:∃ c f,o.op=.call c∧c.callee=.value f
 ·obtain ⟨c,f,hop,hcal⟩:=hv
  simp only [cOp,hop,hcal] at hc
  split at hc <;> first | (cases hc; done) | skip
  rename_i f' args hf hargs
  obtain rfl:=Option.some.inj hc
  simp only [Ze] at h
  split at h <;> first | (cases h; done) | skip
  rename_i g first caps vs sl hfv hvs
  split at h <;> first | (cases h; done) | skip
  rename_i u hp e hcall
  cases h
  unfold Wj at hcall
  split at hcall <;> first | (cases hcall; done) | skip
  rename_i u' hp1 hcall1
  split at hcall <;> first | (cases hcall; done) | skip
  rename_i hflat
  cases hcall
  obtain ⟨q1,q2,q3⟩:=Zev hG hI hargs hn hvs
  subst q1
  have main:∀ w',Behind w w'→o.quietAt P a (Behind w) w' v.conc∧∃ Γ' w'',Rep Γ' w'' v v.conc:=by
   intro w' hw'
   have hI':=hw'.inv hI
   obtain ⟨_,_,q3⟩:=Zev hG hI' hargs hn hvs
   have hfn:=(Z4 hG hI' hf hfv).1
   generalize hq:a.eval f=q at hfn
   cases hfn with
   | fn _ _ _ fv cv hs1 hr1 hs hr =>
    have f2:Yu Γ w' (fun b=>Vs s.hp.length (Γ b)) w':=fun _ _ _ h1 h2=>⟨ZeO h1,h2⟩
    have o2:YF Γ (fun b=>Vs s.hp.length (Γ b)):=fun b g hb=>ZeP.1 hb
    obtain ⟨t1,t2⟩:=three (first := first) (vs := vs) (caps := caps) (fv := fv) (cv := cv) (xs := c.args.map a.eval) hs1 (by simp [q2]) hs
     (R := fun j x y=>Rep (fun b=>Vs s.hp.length (Γ b)) w' x y∧OwnAt (fun b=>Vs s.hp.length (Γ b)) w' (.slot j) x y)
     (fun j x hx=>⟨((hr1 j x hx).mono f2 o2).nm,.of_ne fun _ _=>Oo⟩)
     (fun j x hx=>by
      obtain ⟨y,hy,hr,ho⟩:=q3 j x hx
      have:(c.args.map a.eval).getD j Go.undef=a.eval y:=by
       rw [Array.getElem?_toList] at hy
       rw [Array.getD_eq_getD_getElem?,Array.getElem?_map,hy]; rfl
      rw [this]
      exact ⟨hr.mono f2 o2,.nil ho⟩)
     (fun j x i hx=>⟨((hr j x hx).mono f2 o2).nm,.of_ne fun _ _=>Oo⟩)
    have hw:=hS g _ _ _ _ _ hcall1 _ w' _ hI'.rw.quiet (Znj Γ _) t1 t2
    unfold Oper.quietAt
    rw [Zlf hop hcal hq]
    have fin:∀ cv w'',(∃ Γ',RW E.W0 Γ' w'' hp1∧Rep Γ' w'' v cv∧OwnAt Γ' w'' .res v cv∧Frame (fun b=>Vs s.hp.length (Γ b)) w' Γ' w'' none∧s.hp.length≤hp1.length∧∀ b g,Γ' b=.own g→g < s.hp.length→Vs s.hp.length (Γ b)=.own g)→cv=v.conc∧Behind w w''∧Upon w' w'':=by
     rintro cv w'' ⟨Γ',r1,r2,r3,r4,r5⟩
     have hup:Upon w' w'':=fun b hb=>(r4.keep b hb (Zni _ _)).2
     exact ⟨PT r2 hflat,⟨r4.os.trans hw'.os,r4.tape.trans hw'.tape,r4.output.trans hw'.output,Nat.le_trans hw'.size r4.size,fun b hb=>(hup b (Nat.lt_of_lt_of_le hb hw'.size)).trans (hw'.upon b hb)⟩,hup⟩
    obtain ⟨hrun,hw⟩:=hw
    obtain ⟨en,w1,_,⟨cv1,_,hR1⟩,_⟩:=hw []
    rw [hrun]
    refine ⟨⟨rfl,hw.mono fun en w'' ⟨cv',hv,hR⟩=>?_⟩,?_⟩
    ·subst hv
     obtain ⟨e1,e2,_⟩:=fin cv' w'' hR
     exact ⟨by rw [e1],e2⟩
    ·obtain ⟨e1,_,_⟩:=fin cv1 w1 hR1
     obtain ⟨Γ',_,r2,_⟩:=hR1
     rw [e1] at r2
     exact ⟨Γ',w1,r2⟩
  obtain ⟨Γ',w'',hrep⟩:=(main w (.refl w)).2
  exact ⟨v.conc,fun w' hw'=>(main w' hw').1,hK _ rfl (Eg hrep hflat) fun l=>.of_ne (Zrd hflat)⟩
 ·obtain ⟨h1,h2⟩:=Ztb hG hI (fun c f h1 h2=>hv ⟨c,f,h1,h2⟩) hc h
  obtain ⟨e,cv,hr,r1,r2⟩:=h2 hq
  exact ⟨cv,fun w' hw'=>by
   unfold Oper.quietAt
   rw [hr w' hw'.upon]
   exact ⟨rfl,rfl⟩,hK cv e r1 fun l=>.nil r2⟩
end
end Go.Proofs.YtgjcjbhhhlelnaaGreatDoor.Abs
end
section
namespace Go.Proofs.YtgjcjbhhhlelnaaGreatDoor.Abs
open Go Go.RowKit
structure Ap (W:List Nat)(f:List AV→List AV):Prop where
 len:∀ l,(f l).length=l.length
 out:∀ (l:List AV) (i:Nat),i ∉ W→(f l)[i]? = l[i]?
 on:∀ (l m:List AV) (i:Nat),i ∈ W→l.length=m.length→l[i]? = m[i]?→(f l)[i]? = (f m)[i]?
theorem Ap.id (W:List Nat):Ap W id:=⟨fun _=>rfl,fun _ _ _=>rfl,fun _ _ _ _ _ h=>h⟩
theorem Ap.set (d:Nat)(v:AV):Ap [d] (fun l=>l.set d v):=by
 refine ⟨fun l=>by simp,fun l i hi=>?_,fun l m i hi hl h=>?_⟩
 ·have:d≠i:=fun e=>hi (by simp [e])
  rw [List.getElem?_set_ne this]
 ·have:i=d:=by simpa using hi
  subst this
  simp only [List.getElem?_set_self']
  rw [h]
theorem Ap.mod (t:Nat):Ap [t] (fun l=>l.modify t AV.ro):=by
 refine ⟨fun l=>by simp,fun l i hi=>?_,fun l m i hi hl h=>?_⟩
 ·have:t≠i:=fun e=>hi (by simp [e])
  rw [List.getElem?_modify]; simp [this]
 ·rw [List.getElem?_modify,List.getElem?_modify,h]
theorem Ap.comp {V W:List Nat}{f g:List AV→List AV}(hf:Ap V f)(hg:Ap W g):Ap (W ++ V) (fun l=>g (f l)):=by
 refine ⟨fun l=>by rw [hg.len,hf.len],fun l i hi=>?_,fun l m i hi hl h=>?_⟩
 ·rw [List.mem_append,not_or] at hi
  rw [hg.out _ _ hi.1,hf.out _ _ hi.2]
 ·have hfi:(f l)[i]? = (f m)[i]?:=by
   by_cases h2:i ∈ V
   ·exact hf.on l m i h2 hl h
   ·rw [hf.out _ _ h2,hf.out _ _ h2,h]
  by_cases h1:i ∈ W
  ·exact hg.on _ _ i h1 (by rw [hf.len,hf.len,hl]) hfi
  ·rw [hg.out _ _ h1,hg.out _ _ h1,hfi]
theorem Ap.swap {V W:List Nat}{f g:List AV→List AV}(hf:Ap V f)(hg:Ap W g)(hd:apartB V W=true)(l:List AV):f (g l)=g (f l):=by
 have hd':∀ i,i ∈ V→i ∉ W:=fun i hi hw=>by
  have:=List.all_eq_true.1 hd i hi
  simp at this
  exact this hw
 refine List.ext_getElem? fun i=>?_
 by_cases h1:i ∈ V
 ·have h2:=hd' i h1
  rw [hg.out (f l) i h2,hf.on (g l) l i h1 (hg.len l) (hg.out l i h2)]
 ·rw [hf.out (g l) i h1]
  by_cases h2:i ∈ W
  ·exact (hg.on (f l) l i h2 (hf.len l) (hf.out l i h1)).symm
  ·rw [hg.out l i h2,hg.out (f l) i h2,hf.out l i h1]
def Agree (R:List Nat)(l m:List AV):Prop:=∀ i ∈ R,l[i]? = m[i]?
theorem Agree.left {R S:List Nat}{l m:List AV}(h:Agree (R ++ S) l m):Agree R l m:=fun i hi=>h i (List.mem_append_left _ hi)
theorem Agree.right {R S:List Nat}{l m:List AV}(h:Agree (R ++ S) l m):Agree S l m:=fun i hi=>h i (List.mem_append_right _ hi)
theorem Agree.of_loc {W R:List Nat}{f:List AV→List AV}(hf:Ap W f)(hd:apartB W R=true)(l:List AV):Agree R l (f l):=fun i hi=>by
 refine (hf.out l i fun hw=>?_).symm
 have:=List.all_eq_true.1 hd i hw
 simp at this
 exact this hi
theorem Agree.symm {R:List Nat}{l m:List AV}(h:Agree R l m):Agree R m l:=fun i hi=>(h i hi).symm
section
variable {G:Nat→Option (List AV)}
theorem Z7 {x:Yt}{l m:List AV}(h:Agree (oR x) l m):opnd G l x=opnd G m x:=by
 cases x with
 | tmp t=>simp only [opnd]; rw [h t (by simp [oR])]
 | const v=>rfl
 | glob g=>rfl
theorem JM:∀ {xs:List Yt} {l m:List AV},Agree (oRs xs) l m→opnds G l xs=opnds G m xs
 | [],_,_,_=>rfl
 | x :: xs,l,m,h=>by
  have h':Agree (oR x ++ oRs xs) l m:=by simpa [oRs] using h
  simp only [opnds]
  rw [Z7 h'.left,JM h'.right]
theorem Ez {x:Option Yt}{l m:List AV}(h:Agree (oRo x) l m):optOpnd G l x=optOpnd G m x:=by
 cases x with
 | none=>rfl
 | some x=>simp only [optOpnd]; rw [Z7 h]
theorem OC:∀ {args:List (Nat ⊕ Yt)} {l m:List AV} {vs sl:List AV},(args.all fun | .inr _=>true | .inl _=>false)=true →
  Agree (args.flatMap fun x=>match x with | .inl t=>[t] | .inr x=>oR x) l m→Qa G l args=some (vs,sl)→sl=l∧Qa G m args=some (vs,m)
 | [],l,m,vs,sl,_,_,h=>by
  simp only [Qa,Option.some.injEq,Prod.mk.injEq] at h ⊢
  exact ⟨h.2.symm,h.1,trivial⟩
 | .inl t :: args,_,_,_,_,hn,_,_=>by simp at hn
 | .inr x :: args,l,m,vs,sl,hn,ha,h=>by
  simp only [List.all_cons,Bool.and_eq_true] at hn
  have ha':Agree (oR x ++ (args.flatMap fun x=>match x with | .inl t=>[t] | .inr x=>oR x)) l m:=by simpa using ha
  simp only [Qa] at h ⊢
  rw [← Z7 (G := G) ha'.left]
  split at h <;> first | (cases h; done) | skip
  rename_i v hv
  obtain ⟨p,h1,h2⟩:=Option.map_eq_some_iff.1 h
  obtain ⟨rfl,rfl⟩:=Prod.mk.inj h2
  obtain ⟨e1,e2⟩:=OC hn.2 ha'.right h1
  refine ⟨e1,?_⟩
  simp only [hv,e2,Option.map_some]
end
def X4 (h h':List Zm):Prop:=(∀ p v,Y1 h p=some v→Y1 h' p=some v)∧∀ n p v,XF h n p=some v→XF h' n p=some v
theorem X4.refl (h:List Zm):X4 h h:=⟨fun _ _ h=>h,fun _ _ _ h=>h⟩
theorem X4.of_get {h h':List Zm}(hg:∀ (g:Nat) (cs:List AV) (t:TypeId),h[g]? = some (Zm.cells cs t)→∃ (cs':List AV) (t':TypeId),h'[g]? = some (Zm.cells cs' t')∧cs'.map AV.ro=cs.map AV.ro):X4 h h':=by
 refine ⟨fun p v hv=>?_,fun n p v hv=>?_⟩
 ·unfold Y1 at hv ⊢
  split at hv <;> first | exact hv | (cases hv; done) | skip
  split at hv <;> first | (cases hv; done) | skip
  rename_i g o _ cs t hcs
  obtain ⟨cs',t',h1,h2⟩:=hg _ _ _ hcs
  simp only [h1]
  rw [← List.getElem?_map] at hv ⊢
  rw [h2]; exact hv
 ·unfold XF at hv ⊢
  split at hv <;> first | exact hv | (cases hv; done) | skip
  split at hv <;> first | (cases hv; done) | skip
  rename_i g o _ cs t hcs
  obtain ⟨cs',t',h1,h2⟩:=hg _ _ _ hcs
  simp only [h1]
  have hl:cs'.length=cs.length:=by have:=congrArg List.length h2; simpa using this
  rw [hl]
  rw [List.map_take,List.map_drop] at hv ⊢
  rw [h2]; exact hv
theorem X4.app (h:List Zm)(o:Zm):X4 h (h ++ [o]):=.of_get fun g cs t hg=>⟨cs,t,by rw [List.getElem?_append_left (List.getElem?_eq_some_iff.1 hg).1]; exact hg,rfl⟩
theorem ZaM (v:AV):v.ro.ro=v.ro:=by cases v <;> rfl
theorem ZeC (cs:List AV)(o:Nat)(v:AV)(h:cs[o]? = some v):(cs.set o v.ro).map AV.ro=cs.map AV.ro:=by
 refine List.ext_getElem? fun i=>?_
 rw [List.getElem?_map,List.getElem?_map,List.getElem?_set]
 split
 ·rename_i e
  subst e
  have hl:=(List.getElem?_eq_some_iff.1 h).1
  rw [if_pos hl,h]
  simp [ZaM]
 ·rfl
theorem X4.mark {h:List Zm}{g o:Nat}{cs:List AV}{t:TypeId}{v:AV}(h1:h[g]? = some (.cells cs t))(h2:cs[o]? = some v):X4 h (h.set g (.cells (cs.set o v.ro) t))∧X4 (h.set g (.cells (cs.set o v.ro) t)) h:=by
 have hl:=(List.getElem?_eq_some_iff.1 h1).1
 constructor
 ·refine .of_get fun g' cs' t' hg=>?_
  rw [List.getElem?_set]
  split
  ·rename_i e; subst e
   rw [h1] at hg; cases hg
   exact ⟨cs.set o v.ro,t,by simp [hl],ZeC cs o v h2⟩
  ·exact ⟨_,_,hg,rfl⟩
 ·refine .of_get fun g' cs' t' hg=>?_
  rw [List.getElem?_set] at hg
  split at hg
  ·rename_i e; subst e
   simp only [hl,if_true,Option.some.injEq,Zm.cells.injEq] at hg
   obtain ⟨rfl,rfl⟩:=hg
   exact ⟨_,_,h1,(ZeC cs o v h2).symm⟩
  ·exact ⟨_,_,hg,rfl⟩
section
variable {G:Nat→Option (List AV)}{call:FuncId→List AV→List Zm→Option (AV×List Zm×Eff)}
def tkF (ao:AOp)(l:List AV):List AV :=
 match JL ao with
 | [t]=>l.modify t AV.ro
 | _=>l
theorem Zvy (ao:AOp):Ap (JL ao) (tkF ao):=by
 cases ao <;> first | exact Ap.id _ | exact Ap.mod _
structure Sr (G:Nat→Option (List AV))(call:FuncId→List AV→List Zm→Option (AV×List Zm×Eff))(ao:AOp)(k:HK)(s:Zb)(v:AV)(s':Zb):Prop where
 sl:s'.sl=tkF ao s.sl
 bs:s'.bs=s.bs
 any:∀ t,Agree (XG ao) s.sl t.sl→t.hp=s.hp→t.ef=s.ef→t.bs=s.bs→Ze G call t ao=some (v,⟨tkF ao t.sl,s'.hp,s'.ef,t.bs⟩)
 still:(match k with | .free | .look | .read=>True | _=>False)→s'.hp=s.hp∧s'.ef=s.ef
 free:k=.free→∀ t,Agree (XG ao) s.sl t.sl→Ze G call t ao=some (v,⟨tkF ao t.sl,t.hp,t.ef,t.bs⟩)
 look:k=.look→∀ t,Agree (XG ao) s.sl t.sl→X4 s.hp t.hp→Ze G call t ao=some (v,⟨tkF ao t.sl,t.hp,t.ef,t.bs⟩)
 read:(match k with | .free | .look | .read=>True | _=>False)→∀ t,Agree (XG ao) s.sl t.sl→t.hp=s.hp→Ze G call t ao=some (v,⟨tkF ao t.sl,t.hp,t.ef,t.bs⟩)
 alloc:k=.alloc→s'.ef=s.ef∧∃ obs,s'.hp=s.hp ++ obs∧∀ t,Agree (XG ao) s.sl t.sl→t.hp.length=s.hp.length→Ze G call t ao=some (v,⟨tkF ao t.sl,t.hp ++ obs,t.ef,t.bs⟩)
 mark:k=.mark→s'.hp.length=s.hp.length∧X4 s.hp s'.hp∧X4 s'.hp s.hp∧∀ t obs,Agree (XG ao) s.sl t.sl→t.hp=s.hp ++ obs→t.ef=s.ef→t.bs=s.bs→Ze G call t ao=some (v,⟨tkF ao t.sl,s'.hp ++ obs,s'.ef,t.bs⟩)
theorem Sr.of_free {ao:AOp}{s:Zb}{v:AV}{s':Zb}(h:s'=⟨tkF ao s.sl,s.hp,s.ef,s.bs⟩)(hf:∀ t,Agree (XG ao) s.sl t.sl→Ze G call t ao=some (v,⟨tkF ao t.sl,t.hp,t.ef,t.bs⟩)):Sr G call ao .free s v s':=by
 subst h
 refine ⟨rfl,rfl,fun t ha h1 h2 h3=>?_,fun _=>⟨rfl,rfl⟩,fun _=>hf,(fun h=>by cases h),fun _ t ha _=>hf t ha,(fun h=>by cases h),(fun h=>by cases h)⟩
 rw [hf t ha,h1,h2]
theorem Sr.of_read {ao:AOp}{s:Zb}{v:AV}{s':Zb}(h:s'=⟨tkF ao s.sl,s.hp,s.ef,s.bs⟩)(hf:∀ t,Agree (XG ao) s.sl t.sl→t.hp=s.hp→Ze G call t ao=some (v,⟨tkF ao t.sl,t.hp,t.ef,t.bs⟩)):Sr G call ao .read s v s':=by
 subst h
 refine ⟨rfl,rfl,fun t ha h1 h2 h3=>?_,fun _=>⟨rfl,rfl⟩,(fun h=>by cases h),(fun h=>by cases h),fun _ t ha h1=>hf t ha h1,(fun h=>by cases h),(fun h=>by cases h)⟩
 rw [hf t ha h1,h1,h2]
theorem Sr.of_look {ao:AOp}{s:Zb}{v:AV}{s':Zb}(h:s'=⟨tkF ao s.sl,s.hp,s.ef,s.bs⟩)(hf:∀ t,Agree (XG ao) s.sl t.sl→X4 s.hp t.hp→Ze G call t ao=some (v,⟨tkF ao t.sl,t.hp,t.ef,t.bs⟩)):Sr G call ao .look s v s':=by
 subst h
 refine ⟨rfl,rfl,fun t ha h1 h2 h3=>?_,fun _=>⟨rfl,rfl⟩,(fun h=>by cases h),fun _=>hf,fun _ t ha h1=>hf t ha (h1 ▸ .refl _),(fun h=>by cases h),(fun h=>by cases h)⟩
 rw [hf t ha (h1 ▸ .refl _),h1,h2]
theorem Sr.of_set {ao:AOp}{s:Zb}{v:AV}{s':Zb}(h1:s'.sl=tkF ao s.sl)(h2:s'.bs=s.bs)(hf:∀ t,Agree (XG ao) s.sl t.sl→t.hp=s.hp→t.ef=s.ef→t.bs=s.bs→Ze G call t ao=some (v,⟨tkF ao t.sl,s'.hp,s'.ef,t.bs⟩)):Sr G call ao .set s v s' :=
 ⟨h1,h2,hf,(fun h=>h.elim),(fun h=>by cases h),(fun h=>by cases h),(fun h=>h.elim),(fun h=>by cases h),(fun h=>by cases h)⟩
theorem Qr {α:Type}{x:Option AV}{s:α}{v:AV}{s':α}(h:x.map (·,s)=some (v,s')):x=some v∧s'=s:=by
 cases x with
 | none=>cases h
 | some a=>cases h; exact ⟨rfl,rfl⟩
theorem Zp0 (hq:∀ f args hp v hp' e,call f args hp=some (v,hp',e)→hp'=hp∧e=none){ao:AOp}{k:HK}{s:Zb}{v:AV}{s':Zb}(hk:hkind ao=some k)(h:Ze G call s ao=some (v,s')):Sr G call ao k s v s':=by
 cases ao <;> simp only [hkind,Option.some.injEq,reduceCtorEq] at hk <;> try subst hk
 case un op x =>
  simp only [Ze] at h
  split at h <;> first | (cases h; done) | skip
  rename_i a ha
  obtain ⟨h1,rfl⟩:=Qr h
  refine .of_free rfl fun t ht=>?_
  simp only [Ze,← Z7 (G := G) (x := x) ht,ha,h1,Option.map_some]
  rfl
 case fa off x =>
  simp only [Ze] at h
  split at h <;> first | (cases h; done) | skip
  rename_i a ha
  obtain ⟨h1,rfl⟩:=Qr h
  refine .of_free rfl fun t ht=>?_
  simp only [Ze,← Z7 (G := G) (x := x) ht,ha,h1,Option.map_some]
  rfl
 case fld off n agg x =>
  simp only [Ze] at h
  split at h <;> first | (cases h; done) | skip
  rename_i a ha
  obtain ⟨h1,rfl⟩:=Qr h
  refine .of_free rfl fun t ht=>?_
  simp only [Ze,← Z7 (G := G) (x := x) ht,ha,h1,Option.map_some]
  rfl
 case mv x =>
  simp only [Ze] at h
  obtain ⟨h1,rfl⟩:=Qr h
  refine .of_free rfl fun t ht=>?_
  simp only [Ze,← Z7 (G := G) (x := x) ht,h1,Option.map_some]
  rfl
 case take i =>
  simp only [Ze] at h
  split at h <;> first | (cases h; done) | skip
  rename_i a ha
  cases h
  refine .of_free rfl fun t ht=>?_
  simp only [Ze,← ht i (by simp [XG]),ha]
  rfl
 case pick c a b =>
  simp only [Ze] at h
  split at h <;> first | (cases h; done) | skip
  ·rename_i hc
   obtain ⟨h1,rfl⟩:=Qr h
   refine .of_free rfl fun t ht=>?_
   simp only [Ze,← Z7 (G := G) (x := c) ht.left,← Z7 (G := G) (x := a) ht.right.left,hc,h1,Option.map_some]
   rfl
  ·rename_i hc
   obtain ⟨h1,rfl⟩:=Qr h
   refine .of_free rfl fun t ht=>?_
   simp only [Ze,← Z7 (G := G) (x := c) ht.left,← Z7 (G := G) (x := b) ht.right.right,hc,h1,Option.map_some]
   rfl
 case nilchk x =>
  simp only [Ze] at h
  split at h <;> first | (cases h; done) | skip
  all_goals
   rename_i hc
   cases h
   refine .of_free rfl fun t ht=>?_
   simp only [Ze,← Z7 (G := G) (x := x) ht,hc]
   rfl
 case extract x i =>
  simp only [Ze] at h
  split at h <;> first | (cases h; done) | skip
  rename_i vs hc
  obtain ⟨u,h1,h2⟩:=Option.map_eq_some_iff.1 h
  cases h2
  refine .of_free rfl fun t ht=>?_
  simp only [Ze,← Z7 (G := G) (x := x) ht,hc,h1,Option.map_some]
  rfl
 case slice sh x lo hi =>
  simp only [Ze] at h
  split at h <;> first | (cases h; done) | skip
  rename_i a b c h0 h1 h2
  obtain ⟨h3,rfl⟩:=Qr h
  refine .of_free rfl fun t ht=>?_
  simp only [Ze,← Z7 (G := G) (x := x) ht.left,← Ez (G := G) (x := lo) ht.right.left,← Ez (G := G) (x := hi) ht.right.right,h0,h1,h2,h3,Option.map_some]
  rfl
 case slice3 sh x hi mx =>
  simp only [Ze] at h
  split at h <;> first | (cases h; done) | skip
  rename_i a b c h0 h1 h2
  obtain ⟨h3,rfl⟩:=Qr h
  refine .of_free rfl fun t ht=>?_
  simp only [Ze,← Z7 (G := G) (x := x) ht.left,← Z7 (G := G) (x := hi) ht.right.left,← Z7 (G := G) (x := mx) ht.right.right,h0,h1,h2,h3,Option.map_some]
  rfl
 case build zero parts =>
  simp only [Ze] at h
  split at h <;> first | (cases h; done) | skip
  rename_i vs hvs
  obtain ⟨u,h1,h2⟩:=Option.map_eq_some_iff.1 h
  cases h2
  refine .of_free rfl fun t ht=>?_
  simp only [Ze,← JM (G := G) (xs := List.map (fun (p:Nat×Nat×Yt)=>p.2.2) parts) ht,hvs,h1,Option.map_some]
  rfl
 case bin op sh x y =>
  simp only [Ze] at h
  split at h <;> first | (cases h; done) | skip
  rename_i a b ha hb
  obtain ⟨h1,rfl⟩:=Qr h
  refine .of_free rfl fun t ht=>?_
  simp only [Ze,← Z7 (G := G) (x := x) ht.left,← Z7 (G := G) (x := y) ht.right,ha,hb,h1,Option.map_some]
  rfl
 case ia sh x y =>
  simp only [Ze] at h
  split at h <;> first | (cases h; done) | skip
  rename_i a b ha hb
  obtain ⟨h1,rfl⟩:=Qr h
  refine .of_free rfl fun t ht=>?_
  simp only [Ze,← Z7 (G := G) (x := x) ht.left,← Z7 (G := G) (x := y) ht.right,ha,hb,h1,Option.map_some]
  rfl
 case idx x y =>
  simp only [Ze] at h
  split at h <;> first | (cases h; done) | skip
  rename_i a b ha hb
  obtain ⟨h1,rfl⟩:=Qr h
  refine .of_free rfl fun t ht=>?_
  simp only [Ze,← Z7 (G := G) (x := x) ht.left,← Z7 (G := G) (x := y) ht.right,ha,hb,h1,Option.map_some]
  rfl
 case min xs =>
  simp only [Ze] at h
  split at h <;> first | (cases h; done) | skip
  rename_i n l hxs
  obtain ⟨u,h1,h2⟩:=Option.map_eq_some_iff.1 h
  cases h2
  refine .of_free rfl fun t ht=>?_
  simp only [Ze,← JM (G := G) (xs := xs) ht,hxs,h1,Option.map_some]
  rfl
 case max xs =>
  simp only [Ze] at h
  split at h <;> first | (cases h; done) | skip
  rename_i n l hxs
  obtain ⟨u,h1,h2⟩:=Option.map_eq_some_iff.1 h
  cases h2
  refine .of_free rfl fun t ht=>?_
  simp only [Ze,← JM (G := G) (xs := xs) ht,hxs,h1,Option.map_some]
  rfl
 case ldc x =>
  simp only [Ze] at h
  split at h <;> first | (cases h; done) | skip
  rename_i a ha
  obtain ⟨h1,rfl⟩:=Qr h
  refine .of_look rfl fun t ht hl=>?_
  simp only [Ze,← Z7 (G := G) (x := x) ht,ha,hl.1 _ _ h1,Option.map_some]
  rfl
 case lda n x =>
  simp only [Ze] at h
  split at h <;> first | (cases h; done) | skip
  rename_i a ha
  obtain ⟨h1,rfl⟩:=Qr h
  refine .of_look rfl fun t ht hl=>?_
  simp only [Ze,← Z7 (G := G) (x := x) ht,ha,hl.2 _ _ _ h1,Option.map_some]
  rfl
 case len sh x =>
  simp only [Ze] at h
  split at h <;> first | (cases h; done) | skip
  rename_i a ha
  obtain ⟨h1,rfl⟩:=Qr h
  refine .of_read rfl fun t ht hl=>?_
  have e:Xf t.hp sh a=some v:=by rw [hl]; exact h1
  simp only [Ze,← Z7 (G := G) (x := x) ht,ha,e,Option.map_some]
  rfl
 case conv c x =>
  simp only [Ze] at h
  split at h <;> first | (cases h; done) | skip
  rename_i a ha
  obtain ⟨h1,rfl⟩:=Qr h
  refine .of_read rfl fun t ht hl=>?_
  have e:XD t.hp c a=some v:=by rw [hl]; exact h1
  simp only [Ze,← Z7 (G := G) (x := x) ht,ha,e,Option.map_some]
  rfl
 case app k b i x =>
  simp only [Ze] at h
  split at h <;> first | (cases h; done) | skip
  rename_i k' r a h0 ha
  split at h <;> first | (cases h; done) | skip
  rename_i k'' r' h1
  split at h <;> first | (cases h; done) | skip
  rename_i hc
  cases h
  refine .of_read rfl fun t ht hl=>?_
  have e0:=ht i (by simp [XG])
  have e1:Agree (oR x) s.sl t.sl:=fun j hj=>ht j (List.mem_cons_of_mem _ hj)
  have e:rowsOf t.hp a=some (k'',r'):=by rw [hl]; exact h1
  simp only [Ze,← Z7 (G := G) (x := x) e1,← e0,h0,ha,e]
  rw [if_pos hc]
  rfl
 case apps b i x =>
  simp only [Ze] at h
  split at h <;> first | (cases h; done) | skip
  rename_i k' r l h0 ha
  split at h <;> first | (cases h; done) | skip
  rename_i hc
  cases h
  refine .of_free rfl fun t ht=>?_
  have e0:=ht i (by simp [XG])
  have e1:Agree (oR x) s.sl t.sl:=fun j hj=>ht j (List.mem_cons_of_mem _ hj)
  simp only [Ze,← Z7 (G := G) (x := x) e1,← e0,h0,ha]
  rw [if_pos hc]
  rfl
 case appn k b x =>
  simp only [Ze] at h
  split at h <;> first | (cases h; done) | skip
  rename_i a ha
  split at h <;> first | (cases h; done) | skip
  rename_i k'' r' h1
  split at h <;> first | (cases h; done) | skip
  rename_i hc
  cases h
  refine .of_read rfl fun t ht hl=>?_
  have e:rowsOf t.hp a=some (k'',r'):=by rw [hl]; exact h1
  simp only [Ze,← Z7 (G := G) (x := x) ht,ha,e]
  rw [if_pos hc]
  rfl
 case call f args =>
  split at hk <;> first | (cases hk; done) | skip
  rename_i hn
  cases hk
  simp only [Ze] at h
  split at h <;> first | (cases h; done) | skip
  rename_i g first caps vs sl hf hvs
  split at h <;> first | (cases h; done) | skip
  rename_i u hp e hcall
  cases h
  obtain ⟨rfl,rfl⟩:=hq _ _ _ _ _ _ hcall
  have hall:(args.all fun | .inr _=>true | .inl _=>false)=true:=hn
  obtain ⟨rfl,_⟩:=OC (G := G) (m := s.sl) hall (fun _ _=>rfl) hvs
  refine .of_read rfl fun t ht hl=>?_
  obtain ⟨_,e2⟩:=OC (G := G) hall ht.right hvs
  have hcall':=hcall
  rw [← hl] at hcall'
  simp only [Ze,← Z7 (G := G) (x := f) ht.left,hf,e2,hcall']
  rfl
 case st n x y =>
  simp only [Ze] at h
  split at h <;> first | (cases h; done) | skip
  rename_i g o a ha hb
  split at h <;> first | (cases h; done) | skip
  rename_i cs ty hg
  split at h <;> first | (cases h; done) | skip
  rename_i hc
  cases h
  refine .of_set rfl rfl fun t ht h1 h2 h3=>?_
  simp only [Ze,← Z7 (G := G) (x := x) ht.left,← Z7 (G := G) (x := y) ht.right,ha,hb,h1,hg,Zb.note,h2,h3]
  rw [if_pos hc]
  rfl
 case stt x i =>
  simp only [Ze] at h
  split at h <;> first | (cases h; done) | skip
  rename_i g o a ha hb
  split at h <;> first | (cases h; done) | skip
  rename_i cs ty hg
  split at h <;> first | (cases h; done) | skip
  rename_i hc
  cases h
  refine .of_set rfl rfl fun t ht h1 h2 h3=>?_
  have e0:=ht i (by simp [XG])
  have e1:Agree (oR x) s.sl t.sl:=fun j hj=>ht j (List.mem_cons_of_mem _ hj)
  simp only [Ze,← Z7 (G := G) (x := x) e1,← e0,ha,hb,h1,hg,Zb.note,Zb.let_,h2,h3]
  rw [if_pos hc]
  rfl
 case copy k x y =>
  simp only [Ze] at h
  split at h <;> first | (cases h; done) | skip
  ·rename_i g off len k'' a ha hb
   split at h <;> first | (cases h; done) | skip
   rename_i k' r cs ty hr hg
   split at h <;> first | (cases h; done) | skip
   rename_i hc
   cases h
   refine .of_set rfl rfl fun t ht h1 h2 h3=>?_
   simp only [Ze,← Z7 (G := G) (x := x) ht.left,← Z7 (G := G) (x := y) ht.right,ha,hb,h1,hr,hg,Zb.note,h2,h3]
   rw [if_pos hc]
   rfl
  ·rename_i a ha hb
   split at h <;> first | (cases h; done) | skip
   rename_i k' r hr
   split at h <;> first | (cases h; done) | skip
   rename_i hc
   cases h
   refine .of_set rfl rfl fun t ht h1 h2 h3=>?_
   simp only [Ze,← Z7 (G := G) (x := x) ht.left,← Z7 (G := G) (x := y) ht.right,ha,hb,h1,hr]
   rw [if_pos hc,← h1,← h2]
   rfl
 case ldt x =>
  simp only [Ze] at h
  split at h <;> first | (cases h; done) | skip
  rename_i g o ha
  split at h <;> first | (cases h; done) | skip
  rename_i cs ty hg
  split at h <;> first | (cases h; done) | skip
  rename_i u hu
  cases h
  obtain ⟨l1,l2⟩:=X4.mark hg hu
  have hlt:=(List.getElem?_eq_some_iff.1 hg).1
  refine ⟨rfl,rfl,fun t ht h1 h2 h3=>?_,(fun h=>h.elim),(fun h=>by cases h),(fun h=>by cases h),(fun h=>h.elim),(fun h=>by cases h),fun _=>⟨by simp,l1,l2,fun t obs ht h1 h2 h3=>?_⟩⟩
  ·simp only [Ze,← Z7 (G := G) (x := x) ht,ha,h1,hg,hu,Zb.note,h2,h3]
   rfl
  ·have e:(s.hp ++ obs)[g]? = some (.cells cs ty):=by rw [List.getElem?_append_left hlt]; exact hg
   simp only [Ze,← Z7 (G := G) (x := x) ht,ha,h1,e,hu,Zb.note,h2,h3,List.set_append_left _ _ hlt]
   rfl
 case lit e k parts =>
  cases parts with
  | nil =>
   simp only [hkind,Option.some.injEq] at hk
   subst hk
   have key:∀ t:Zb,Ze G call t (.lit e k [])=some (.own k [],t):=fun t=>rfl
   rw [key] at h
   cases h
   exact .of_free rfl fun t _=>key t
  | cons p0 ps =>
  simp only [hkind,Option.some.injEq] at hk
  subst hk
  generalize hps:p0 :: ps=parts at *
  simp only [Ze] at h
  split at h <;> first | (cases h; done) | skip
  rename_i vs hvs
  split at h
  ·rename_i hc
   cases h
   have key:∀ t:Zb,Agree (XG (.lit e k parts)) s.sl t.sl→Ze G call t (.lit e k parts)=some (.own k (vs.map fun v=>v.cells.map AV.ro),t):=fun t ht=>by
    simp only [Ze,← JM (G := G) (xs := parts) ht,hvs]
    rw [if_pos hc]
   refine ⟨rfl,rfl,fun t ht h1 h2 h3=>?_,(fun h=>h.elim),(fun h=>by cases h),(fun h=>by cases h),(fun h=>h.elim),fun _=>⟨rfl,[],by simp,fun t ht _=>?_⟩,(fun h=>by cases h)⟩
   ·rw [key t ht,← h1,← h2]; rfl
   ·rw [key t ht,List.append_nil]; rfl
  ·rename_i hc0
   split at h <;> first | (cases h; done) | skip
   rename_i hc
   cases h
   have key:∀ t:Zb,Agree (XG (.lit e k parts)) s.sl t.sl→Ze G call t (.lit e k parts)=some (.arr t.hp.length 0 vs.length k,{ t with hp:=t.hp ++ [.cells (vs.map AV.cells).flatten e] }):=fun t ht=>by
    simp only [Ze,← JM (G := G) (xs := parts) ht,hvs]
    rw [if_neg hc0,if_pos hc]
   refine ⟨rfl,rfl,fun t ht h1 h2 h3=>?_,(fun h=>h.elim),(fun h=>by cases h),(fun h=>by cases h),(fun h=>h.elim),fun _=>⟨rfl,_,rfl,fun t ht hl=>?_⟩,(fun h=>by cases h)⟩
   ·rw [key t ht,h1,h2]; rfl
   ·rw [key t ht,hl]; rfl
theorem ZiH {s t:Zb}{g:Option (Nat×Bool)}(h:Agree (match g with | some (i,_)=>[i] | none=>[]) s.sl t.sl):Yl s g=Yl t g:=by
 cases g with
 | none=>rfl
 | some p =>
  obtain ⟨i,b⟩:=p
  simp only [Yl]
  rw [h i (by simp)]
def Zc8 (d:Option Nat)(v:AV)(l:List AV):List AV:=match d with | some d=>l.set d v | none=>l
theorem BU (d:Option Nat)(v:AV):Ap d.toList (Zc8 d v):=by
 cases d with
 | none=>exact Ap.id _
 | some d=>exact Ap.set d v
theorem Y5 (s:Zb)(d:Option Nat)(v:AV):s.put d v=⟨Zc8 d v s.sl,s.hp,s.ef,s.bs⟩:=by cases d <;> rfl
structure StepA (G:Nat→Option (List AV))(call:FuncId→List AV→List Zm→Option (AV×List Zm×Eff))(o:ZQ)(k:HK)(s s':Zb)(f:List AV→List AV):Prop where
 loc:Ap (Xt o) f
 sl:s'.sl=f s.sl
 bs:s'.bs=s.bs
 any:∀ t,Agree (Qq o) s.sl t.sl→t.hp=s.hp→t.ef=s.ef→t.bs=s.bs→Z8 G call o t=some ⟨f t.sl,s'.hp,s'.ef,t.bs⟩
 still:(match k with | .free | .look | .read=>True | _=>False)→s'.hp=s.hp∧s'.ef=s.ef
 free:k=.free→∀ t,Agree (Qq o) s.sl t.sl→Z8 G call o t=some ⟨f t.sl,t.hp,t.ef,t.bs⟩
 look:k=.look→∀ t,Agree (Qq o) s.sl t.sl→X4 s.hp t.hp→Z8 G call o t=some ⟨f t.sl,t.hp,t.ef,t.bs⟩
 read:(match k with | .free | .look | .read=>True | _=>False)→∀ t,Agree (Qq o) s.sl t.sl→t.hp=s.hp→Z8 G call o t=some ⟨f t.sl,t.hp,t.ef,t.bs⟩
 alloc:k=.alloc→s'.ef=s.ef∧∃ obs,s'.hp=s.hp ++ obs∧∀ t,Agree (Qq o) s.sl t.sl→t.hp.length=s.hp.length→Z8 G call o t=some ⟨f t.sl,t.hp ++ obs,t.ef,t.bs⟩
 mark:k=.mark→s'.hp.length=s.hp.length∧X4 s.hp s'.hp∧X4 s'.hp s.hp∧∀ t obs,Agree (Qq o) s.sl t.sl→t.hp=s.hp ++ obs→t.ef=s.ef→t.bs=s.bs→Z8 G call o t=some ⟨f t.sl,s'.hp ++ obs,s'.ef,t.bs⟩
theorem Zdc (hq:∀ f args hp v hp' e,call f args hp=some (v,hp',e)→hp'=hp∧e=none){o:ZQ}{k:HK}{s s':Zb}(hk:hkind o.op=some k)(h:Z8 G call o s=some s'):∃ f,StepA G call o k s s' f:=by
 have wg:∀ t:Zb,Agree (Qq o) s.sl t.sl→Yl t o.guard=Yl s o.guard:=fun t ht=>(ZiH ht.left).symm
 simp only [Z8] at h
 split at h <;> first | (cases h; done) | skip
 ·rename_i hw
  split at h <;> first | (cases h; done) | skip
  rename_i v s1 he
  obtain rfl:=Option.some.inj h
  have S:=Zp0 hq hk he
  have run:∀ (t:Zb) (hp:List Zm) (ef:Eff),Yl t o.guard=some true→Ze G call t o.op=some (v,⟨tkF o.op t.sl,hp,ef,t.bs⟩)→Z8 G call o t=some ⟨Zc8 o.dst v (tkF o.op t.sl),hp,ef,t.bs⟩:=fun t hp ef h1 h2=>by
   simp only [Z8,h1,h2,Y5]
  refine ⟨fun l=>Zc8 o.dst v (tkF o.op l),(Zvy o.op).comp (BU o.dst v),by rw [Y5,S.sl],by rw [Y5]; exact S.bs,fun t ht h1 h2 h3=>?_,fun hs=>?_,fun hk t ht=>?_,fun hk t ht hl=>?_,fun hk t ht hl=>?_,fun hk=>?_,fun hk=>?_⟩
  ·rw [Y5]; exact run t _ _ ((wg t ht).trans hw) (S.any t ht.right h1 h2 h3)
  ·rw [Y5]; exact S.still hs
  ·exact run t _ _ ((wg t ht).trans hw) (S.free hk t ht.right)
  ·exact run t _ _ ((wg t ht).trans hw) (S.look hk t ht.right hl)
  ·exact run t _ _ ((wg t ht).trans hw) (S.read hk t ht.right hl)
  ·obtain ⟨e1,obs,e2,e3⟩:=S.alloc hk
   rw [Y5]
   exact ⟨e1,obs,e2,fun t ht hl=>run t _ _ ((wg t ht).trans hw) (e3 t ht.right hl)⟩
  ·obtain ⟨e1,e2,e3,e4⟩:=S.mark hk
   rw [Y5]
   exact ⟨e1,e2,e3,fun t obs ht h1 h2 h3=>run t _ _ ((wg t ht).trans hw) (e4 t obs ht.right h1 h2 h3)⟩
 ·rename_i hw
  obtain rfl:=Option.some.inj h
  have run:∀ t:Zb,Yl t o.guard=some false→Z8 G call o t=some ⟨Zc8 o.dst .undef t.sl,t.hp,t.ef,t.bs⟩:=fun t h1=>by
   simp only [Z8,h1,Y5]
  have hl:Ap (Xt o) (Zc8 o.dst .undef):=by
   have:=(Ap.id (JL o.op)).comp (BU o.dst .undef)
   exact this
  rw [Y5]
  refine ⟨Zc8 o.dst .undef,hl,rfl,rfl,fun t ht h1 h2 h3=>?_,fun _=>⟨rfl,rfl⟩,fun _ t ht=>run t ((wg t ht).trans hw),fun _ t ht _=>run t ((wg t ht).trans hw),fun _ t ht _=>run t ((wg t ht).trans hw),fun _=>⟨rfl,[],by simp,fun t ht _=>?_⟩,fun _=>⟨rfl,.refl _,.refl _,fun t obs ht h1 h2 h3=>?_⟩⟩
  ·rw [run t ((wg t ht).trans hw),h1,h2]
  ·rw [run t ((wg t ht).trans hw),List.append_nil]
  ·rw [run t ((wg t ht).trans hw),h1,h2]
theorem Zs4 (hq:∀ f args hp v hp' e,call f args hp=some (v,hp',e)→hp'=hp∧e=none){o1 o2:ZQ}{s s1 s2:Zb}(hc:Zjc o1 o2=true)(h1:Z8 G call o1 s=some s1)(h2:Z8 G call o2 s1=some s2) :
  ∃ u,Z8 G call o2 s=some u∧Z8 G call o1 u=some s2:=by
 simp only [Zjc,Bool.and_eq_true] at hc
 obtain ⟨⟨⟨hk,ha⟩,hb⟩,hd⟩:=hc
 split at hk <;> first | (cases hk; done) | skip
 rename_i k1 k2 hk1 hk2
 obtain ⟨f1,S1⟩:=Zdc hq hk1 h1
 obtain ⟨f2,S2⟩:=Zdc hq hk2 h2
 have A2:Agree (Qq o2) s1.sl s.sl:=by rw [S1.sl]; exact (Agree.of_loc S1.loc ha s.sl).symm
 have A1:∀ u:Zb,u.sl=f2 s.sl→Agree (Qq o1) s.sl u.sl:=fun u hu=>by rw [hu]; exact Agree.of_loc S2.loc hd s.sl
 have fin:∀ (u:Zb) (hp:List Zm) (ef:Eff),u.sl=f2 s.sl→u.bs=s.bs→hp=s2.hp→ef=s2.ef→Z8 G call o1 u=some ⟨f1 u.sl,hp,ef,u.bs⟩→Z8 G call o1 u=some s2:=fun u hp ef e1 e2 e3 e4 h=>by
  rw [h]
  have q1:f1 u.sl=s2.sl:=by rw [e1,S2.sl,S1.sl]; exact S1.loc.swap S2.loc hb s.sl
  have q2:u.bs=s2.bs:=by rw [e2,S2.bs,S1.bs]
  rw [q1,q2,e3,e4]
 cases k1 with
 | free =>
  obtain ⟨p1,p2⟩:=S1.still trivial
  have e:=S2.any s A2 p1.symm p2.symm S1.bs.symm
  exact ⟨_,e,fin _ _ _ rfl rfl rfl rfl (S1.free rfl _ (A1 _ rfl))⟩
 | look =>
  obtain ⟨p1,p2⟩:=S1.still trivial
  have e:=S2.any s A2 p1.symm p2.symm S1.bs.symm
  cases k2 with
  | free=>obtain ⟨q1,q2⟩:=S2.still trivial; exact ⟨_,e,fin _ _ _ rfl rfl rfl rfl (S1.look rfl _ (A1 _ rfl) (by show X4 s.hp s2.hp; rw [q1,p1]; exact .refl _))⟩
  | look=>obtain ⟨q1,q2⟩:=S2.still trivial; exact ⟨_,e,fin _ _ _ rfl rfl rfl rfl (S1.look rfl _ (A1 _ rfl) (by show X4 s.hp s2.hp; rw [q1,p1]; exact .refl _))⟩
  | read=>obtain ⟨q1,q2⟩:=S2.still trivial; exact ⟨_,e,fin _ _ _ rfl rfl rfl rfl (S1.look rfl _ (A1 _ rfl) (by show X4 s.hp s2.hp; rw [q1,p1]; exact .refl _))⟩
  | mark=>obtain ⟨_,q2,_⟩:=S2.mark rfl; exact ⟨_,e,fin _ _ _ rfl rfl rfl rfl (S1.look rfl _ (A1 _ rfl) (by show X4 s.hp s2.hp; rw [← p1]; exact q2))⟩
  | alloc =>
   obtain ⟨_,obs,q2,_⟩:=S2.alloc rfl
   refine ⟨_,e,fin _ _ _ rfl rfl rfl rfl (S1.look rfl _ (A1 _ rfl) ?_)⟩
   show X4 s.hp s2.hp
   rw [q2,p1]
   exact .of_get fun g cs t hg=>⟨cs,t,by rw [List.getElem?_append_left (List.getElem?_eq_some_iff.1 hg).1]; exact hg,rfl⟩
  | set=>cases hk
 | read =>
  obtain ⟨p1,p2⟩:=S1.still trivial
  have e:=S2.any s A2 p1.symm p2.symm S1.bs.symm
  cases k2 with
  | free=>obtain ⟨q1,q2⟩:=S2.still trivial; exact ⟨_,e,fin _ _ _ rfl rfl rfl rfl (S1.read trivial _ (A1 _ rfl) (q1.trans p1))⟩
  | look=>obtain ⟨q1,q2⟩:=S2.still trivial; exact ⟨_,e,fin _ _ _ rfl rfl rfl rfl (S1.read trivial _ (A1 _ rfl) (q1.trans p1))⟩
  | read=>obtain ⟨q1,q2⟩:=S2.still trivial; exact ⟨_,e,fin _ _ _ rfl rfl rfl rfl (S1.read trivial _ (A1 _ rfl) (q1.trans p1))⟩
  | mark=>cases hk
  | alloc=>cases hk
  | set=>cases hk
 | set =>
  cases k2 with
  | free =>
   obtain ⟨q1,q2⟩:=S2.still trivial
   have e:=S2.free rfl s A2
   exact ⟨_,e,fin _ _ _ rfl rfl q1.symm q2.symm (S1.any _ (A1 _ rfl) rfl rfl rfl)⟩
  | _=>cases hk
 | alloc =>
  cases k2 with
  | free =>
   obtain ⟨q1,q2⟩:=S2.still trivial
   have e:=S2.free rfl s A2
   exact ⟨_,e,fin _ _ _ rfl rfl q1.symm q2.symm (S1.any _ (A1 _ rfl) rfl rfl rfl)⟩
  | _=>cases hk
 | mark =>
  obtain ⟨m1,m2,m3,m4⟩:=S1.mark rfl
  cases k2 with
  | free =>
   obtain ⟨q1,q2⟩:=S2.still trivial
   have e:=S2.free rfl s A2
   exact ⟨_,e,fin _ _ _ rfl rfl q1.symm q2.symm (S1.any _ (A1 _ rfl) rfl rfl rfl)⟩
  | look =>
   obtain ⟨q1,q2⟩:=S2.still trivial
   have e:=S2.look rfl s A2 m3
   exact ⟨_,e,fin _ _ _ rfl rfl q1.symm q2.symm (S1.any _ (A1 _ rfl) rfl rfl rfl)⟩
  | alloc =>
   obtain ⟨q1,obs,q2,q3⟩:=S2.alloc rfl
   have e:=q3 s A2 m1.symm
   refine ⟨_,e,fin _ _ _ rfl rfl q2.symm q1.symm (m4 _ obs (A1 _ rfl) rfl rfl rfl)⟩
  | _=>cases hk
end
end Go.Proofs.YtgjcjbhhhlelnaaGreatDoor.Abs
end
section
namespace Go.Proofs.YtgjcjbhhhlelnaaGreatDoor.Abs
open Go Go.RowKit
section
variable {P:Program}{G:Nat→Option (List AV)}{call:FuncId→List AV→List Zm→Option (AV×List Zm×Eff)}{E:Entry}{s s':Zb}{Γ:ZF}{a:Act}{w:World}{hand:Nat→Bool}{draw:Bool}
def Ed (ops:Array Oper):Option (Nat×Bool)→Option (Option (Nat×Bool))
 | none=>some none
 | some (j,want)=>match (ops[j]?).bind (·.dst) with
  | some d=>some (some (d,want))
  | none=>none
theorem XM (hI:Inv E s Γ a w){ops:Array Oper}{o:Oper}{g:Option (Nat×Bool)}{b:Bool}(hg:Ed ops o.guard=some g)(h:Yl s g=some b):Region.wanted o (yielded ops a.tmps)=b:=by
 unfold Region.wanted
 cases hq:o.guard with
 | none =>
  rw [hq] at hg
  obtain rfl:=Option.some.inj hg
  simp only [Yl,Option.some.injEq] at h
  exact h
 | some p =>
  obtain ⟨j,want⟩:=p
  rw [hq] at hg
  simp only [Ed] at hg
  split at hg
  ·rename_i d hd
   obtain rfl:=Option.some.inj hg
   simp only [Yl] at h
   split at h <;> first | (cases h; done) | skip
   ·rename_i c hc
    obtain rfl:=Option.some.inj h
    have hr:=hI.slots.rep d _ hc
    have hlt:d < a.tmps.size:=by rw [hI.slots.size]; exact Zx hc
    have ht:a.tmps[d]? = some (a.tmps.getD d Go.undef):=WE hlt
    generalize a.tmps.getD d Go.undef=u at hr ht
    cases hr
    simp only [yielded,hd,Option.bind_some,ht]
    cases c <;> cases want <;> rfl
   ·rename_i hc
    obtain rfl:=Option.some.inj h
    have hr:=hI.slots.rep d _ hc
    have hlt:d < a.tmps.size:=by rw [hI.slots.size]; exact Zx hc
    have ht:a.tmps[d]? = some (a.tmps.getD d Go.undef):=WE hlt
    generalize a.tmps.getD d Go.undef=u at hr ht
    cases hr
    simp only [yielded,hd,Option.bind_some,ht]
    rfl
  ·cases hg
theorem PO {ops:Array Oper}{o:Oper}{l:List Oper}{aops:List ZQ}(h:Us P hand draw ops (o :: l)=some aops) :
  ∃ g r,Ed ops o.guard=some g∧Us P hand draw ops l=some r∧aops=⟨o.dst,(cOp P hand draw o).getD .bad,g⟩ :: r:=by
 simp only [Us] at h
 split at h <;> first | (cases h; done) | skip
 rename_i g r h2 h3
 refine ⟨g,r,?_,h3,(Option.some.inj h).symm⟩
 rw [← h2]
 unfold Ed
 cases o.guard with
 | none=>rfl
 | some p=>rfl
theorem VP {o:Oper}{s s':Zb}{v:AV}{call:FuncId→List AV→List Zm→Option (AV×List Zm×Eff)}(h:Ze G call s ((cOp P hand draw o).getD .bad)=some (v,s')):cOp P hand draw o=some ((cOp P hand draw o).getD .bad):=by
 cases hc:cOp P hand draw o with
 | none=>rw [hc] at h; simp [Ze] at h
 | some ao=>rfl
theorem Zp2 (hG:GOk G E.W0)(hS:Y8 P E.W0 call){ops:Array Oper}{Q:Exit→Act→World→Prop}:∀ {l:List Oper} {aops:List ZQ} (k:Nat) {s s':Zb} {Γ:ZF} {a:Act} {w:World},(∀ j,l[j]? = ops[k + j]?) →
  Us P hand draw ops l=some aops→ZJ G call aops s=some s'→Inv E s Γ a w→(∀ Γ a w,Inv E s' Γ a w→Q .normal a w)→wpOps P ops Q (List.range' k l.length) a w
 | [],aops,k,s,s',Γ,a,w,_,hc,h,hI,hQ=>by
  obtain rfl:=Option.some.inj (by simpa [Us] using hc:some []=some aops)
  obtain rfl:=Option.some.inj (by simpa [ZJ] using h:some s=some s')
  exact hQ Γ a w hI
 | o :: l,aops,k,s,s',Γ,a,w,hl,hc,h,hI,hQ=>by
  obtain ⟨g,r,h2,h3,rfl⟩:=PO hc
  have ho:ops[k]? = some o:=by simpa using (hl 0).symm
  simp only [ZJ] at h
  split at h <;> first | (cases h; done) | skip
  rename_i s1 he
  have hl':∀ j,l[j]? = ops[k + 1 + j]?:=fun j=>by
   have:=hl (j + 1)
   simpa [Nat.add_assoc,Nat.add_comm 1 j] using this
  simp only [List.length_cons,List.range'_succ,wpOps,ho]
  simp only [Z8] at he
  split at he <;> first | (cases he; done) | skip
  ·rename_i hw
   rw [XM hI h2 hw]
   split at he <;> first | (cases he; done) | skip
   rename_i v s2 hev
   obtain rfl:=Option.some.inj he
   simp only [if_true]
   refine .inl (ZrQ hG hS hI (VP hev) hev fun Γ' cv w' i1 r1 o1=>?_)
   obtain ⟨Γ2,i2⟩:=i1.put o.dst r1 o1
   exact Zp2 hG hS (k + 1) hl' h3 h i2 hQ
  ·rename_i hw
   rw [XM hI h2 hw]
   obtain rfl:=Option.some.inj he
   simp only [Bool.false_eq_true,if_false]
   obtain ⟨Γ2,i2⟩:=hI.put o.dst (v := .undef) (cv := Go.undef) .undef (.of_ne (by simp))
   exact Zp2 hG hS (k + 1) hl' h3 h i2 hQ
theorem Zc3 (hG:GOk G E.W0)(hS:Y8 P E.W0 call){ops:Array Oper}{Q:Exit→Act→World→Prop}{w:World}:∀ {l:List Oper} {aops:List ZQ} {s s':Zb} {Γ:ZF} {a:Act},
  Us P hand draw ops l=some aops→Zbf aops=true→ZJ G (Wj call) aops s=some s'→Inv E s Γ a w→(∀ Γ a w,Inv E s' Γ a w→Q .normal a w) →
  wpQuiet P ops (Behind w) (fun a'=>∀ w',Behind w w'→Q .normal a' w') l a
 | [],aops,s,s',Γ,a,hc,_,h,hI,hQ=>by
  obtain rfl:=Option.some.inj (by simpa [Us] using hc:some []=some aops)
  obtain rfl:=Option.some.inj (by simpa [ZJ] using h:some s=some s')
  exact fun w' hw'=>hQ Γ a w' (hw'.inv hI)
 | o :: l,aops,s,s',Γ,a,hc,hq,h,hI,hQ=>by
  obtain ⟨g,r,h2,h3,rfl⟩:=PO hc
  simp only [Zbf,Bool.and_eq_true] at hq
  simp only [ZJ] at h
  split at h <;> first | (cases h; done) | skip
  rename_i s1 he
  simp only [wpQuiet]
  simp only [Z8] at he
  split at he <;> first | (cases he; done) | skip
  ·rename_i hw
   rw [XM hI h2 hw]
   split at he <;> first | (cases he; done) | skip
   rename_i v s2 hev
   obtain rfl:=Option.some.inj he
   simp only [if_true]
   refine ZlA hG hS hI (VP hev) hq.1.1 hq.1.2 hev fun cv e r1 o1=>?_
   subst e
   obtain ⟨Γ2,i2⟩:=hI.put o.dst r1 (o1 .res)
   exact Zc3 hG hS h3 hq.2 h i2 hQ
  ·rename_i hw
   rw [XM hI h2 hw]
   obtain rfl:=Option.some.inj he
   simp only [Bool.false_eq_true,if_false]
   obtain ⟨Γ2,i2⟩:=hI.put o.dst (v := .undef) (cv := Go.undef) .undef (.of_ne (by simp))
   exact Zc3 hG hS h3 hq.2 h i2 hQ
theorem bubble (hq:∀ f args hp v hp' e,call f args hp=some (v,hp',e)→hp'=hp∧e=none){o:ZQ}{l2:List ZQ}{sF:Zb}:∀ {l1:List ZQ} {s:Zb},(∀ x ∈ l1,Zjc x o=true)→ZJ G call (l1 ++ o :: l2) s=some sF →
  ∃ u,Z8 G call o s=some u∧ZJ G call (l1 ++ l2) u=some sF
 | [],s,_,h=>by
  simp only [List.nil_append,ZJ] at h
  split at h <;> first | (cases h; done) | skip
  rename_i u hu
  exact ⟨u,hu,h⟩
 | x :: l1,s,hx,h=>by
  simp only [List.cons_append,ZJ] at h
  split at h <;> first | (cases h; done) | skip
  rename_i s1 h1
  obtain ⟨u1,h2,h3⟩:=bubble hq (fun y hy=>hx y (List.mem_cons_of_mem _ hy)) h
  obtain ⟨u,h4,h5⟩:=Zs4 hq (hx x (List.mem_cons_self ..)) h1 h2
  refine ⟨u,h4,?_⟩
  simp only [List.cons_append,ZJ,h5]
  exact h3
theorem ZeQ:∀ f args hp v hp' e,Wj call f args hp=some (v,hp',e)→hp'=hp∧e=none:=by
 intro f args hp v hp' e h
 unfold Wj at h
 split at h <;> first | (cases h; done) | skip
 split at h <;> first | (cases h; done) | skip
 cases h
 exact ⟨rfl,rfl⟩
theorem JC:∀ {l:List Oper} {aops:List ZQ} {ops:Array Oper},Us P hand draw ops l=some aops→l.length=aops.length∧∀ (i:Nat) (o:Oper),l[i]? = some o→∃ g,Ed ops o.guard=some g∧aops[i]? = some ⟨o.dst,(cOp P hand draw o).getD .bad,g⟩
 | [],aops,ops,h=>by
  obtain rfl:=Option.some.inj (by simpa [Us] using h:some []=some aops)
  exact ⟨rfl,fun i o hi=>by simp at hi⟩
 | o :: l,aops,ops,h=>by
  obtain ⟨g,r,h2,h3,rfl⟩:=PO h
  obtain ⟨h4,h5⟩:=JC h3
  refine ⟨by simp [h4],fun i o' hi=>?_⟩
  cases i with
  | zero=>cases hi; exact ⟨g,h2,rfl⟩
  | succ i=>exact h5 i o' hi
theorem ZlB (hG:GOk G E.W0)(hS:Y8 P E.W0 call){ops:Array Oper}{o:Oper}{g:Option (Nat×Bool)}{u:Zb}{K:Act→World→Prop}{Q:Exit→Act→World→Prop}(hn:noHand ((cOp P hand draw o).getD .bad)=true)(h2:Ed ops o.guard=some g)
  (he:Z8 G (Wj call) ⟨o.dst,(cOp P hand draw o).getD .bad,g⟩ s=some u) (hI:Inv E s Γ a w) (hK:∀ Γ a w,Inv E u Γ a w→K a w) :
  if Region.wanted o (yielded ops a.tmps)=true then o.wp P a w K Q∨(o.asks P a w∧LetsOut Q) else K (a.put o.dst Go.undef) w:=by
 simp only [Z8] at he
 split at he <;> first | (cases he; done) | skip
 ·rename_i hw
  rw [XM hI h2 hw]
  split at he <;> first | (cases he; done) | skip
  rename_i v s2 hev
  obtain rfl:=Option.some.inj he
  simp only [if_true]
  refine .inl ?_
  by_cases hc:∃ f args,(cOp P hand draw o).getD .bad=.call f args
  ·obtain ⟨f,args,hcall⟩:=hc
   have hqt:ZcF ((cOp P hand draw o).getD .bad)=true:=by rw [hcall]; rfl
   refine Oper.wp_of_quiet (C := Behind w) (K := fun a'=>∀ w',Behind w w'→K a' w') (Behind.refl w) (fun a' w' hw' h=>h w' hw') ?_
   refine ZlA hG hS hI (VP hev) hqt hn hev fun cv e r1 o1=>?_
   subst e
   obtain ⟨Γ2,i2⟩:=hI.put o.dst r1 (o1 .res)
   exact fun w' hw'=>hK _ _ w' (hw'.inv i2)
  ·have hev':Ze G call s ((cOp P hand draw o).getD .bad)=some (v,s2):=by
    rw [← hev]
    cases hx:(cOp P hand draw o).getD .bad <;> first | rfl | exact absurd ⟨_,_,hx⟩ hc
   refine ZrQ hG hS hI (VP hev') hev' fun Γ' cv w' i1 r1 o1=>?_
   obtain ⟨Γ2,i2⟩:=i1.put o.dst r1 o1
   exact hK _ _ _ i2
 ·rename_i hw
  rw [XM hI h2 hw]
  obtain rfl:=Option.some.inj he
  simp only [Bool.false_eq_true,if_false]
  obtain ⟨Γ2,i2⟩:=hI.put o.dst (v := .undef) (cv := Go.undef) .undef (.of_ne (by simp))
  exact hK _ _ _ i2
theorem BO {listed:Array Bool}{i:Nat}(h:listed.getD i true=false):listed.getD i false=false:=by
 rcases Nat.lt_or_ge i listed.size with h' | h'
 ·simp [h'] at h ⊢; exact h
 ·simp [Array.getElem?_eq_none h'] at h
def Xa (n:Nat)(listed:Array Bool):List Nat:=(List.range n).filter fun i=>!listed.getD i true
theorem VO (n:Nat)(listed:Array Bool):(Xa n listed).Pairwise (· < ·):=List.Pairwise.filter _ List.pairwise_lt_range
theorem WL {n i:Nat}{listed:Array Bool}:i ∈ Xa n listed↔i < n∧listed.getD i true=false:=by simp [Xa]
theorem Ox {n i:Nat}{listed:Array Bool}{l1 l2:List Nat}(h:Xa n listed=l1 ++ i :: l2)(hi:i < listed.size):Xa n (listed.setIfInBounds i true)=l1 ++ l2:=by
 have hs:=VO n listed
 rw [h] at hs
 have h1:∀ j ∈ l1,j≠i:=fun j hj=>Nat.ne_of_lt ((List.pairwise_append.1 hs).2.2 j hj i (List.mem_cons_self ..))
 have h2:∀ j ∈ l2,j≠i:=fun j hj=>Nat.ne_of_gt ((List.pairwise_cons.1 (List.pairwise_append.1 hs).2.1).1 j hj)
 have e:Xa n (listed.setIfInBounds i true)=(Xa n listed).filter fun j=>decide (j≠i):=by
  unfold Xa
  rw [List.filter_filter]
  refine List.filter_congr fun j _=>?_
  by_cases hji:j=i
  ·subst hji
   have:(listed.setIfInBounds j true).getD j true=true:=by simp [hi]
   simp [this]
  ·rw [getD_set_ne true (Ne.symm hji)]; simp [hji]
 rw [e,h,List.filter_append,List.filter_cons]
 simp only [ne_eq,not_true_eq_false,decide_false,Bool.false_eq_true,if_false]
 rw [List.filter_eq_self.2 (fun j hj=>by simpa using h1 j hj),List.filter_eq_self.2 (fun j hj=>by simpa using h2 j hj)]
theorem ZuL (hG:GOk G E.W0)(hS:Y8 P E.W0 call){ops:Array Oper}{bops:List ZQ}{Q:Exit→Act→World→Prop}{sF:Zb}(hc:Us P hand draw ops ops.toList=some bops)(hd:Zoz ops bops=true)(hQ:∀ Γ a w,Inv E sF Γ a w→Q .normal a w) :
  ∀ (fuel:Nat) {listed:Array Bool} {s:Zb} {Γ:ZF} {a:Act} {w:World},listed.size=ops.size→UF ops listed→(Xa ops.size listed).length=fuel→ZJ G (Wj call) ((Xa ops.size listed).map fun i=>bops.getD i ⟨none,.bad,none⟩) s=some sF→Inv E s Γ a w→wpAny P .any ops Q fuel listed a w:=by
 simp only [Zoz,Bool.and_eq_true,List.all_eq_true,List.mem_range] at hd
 obtain ⟨⟨hord,hnh⟩,hpair⟩:=hd
 obtain ⟨hlen,hget⟩:=JC hc
 intro fuel
 induction fuel with
 | zero =>
  intro listed s Γ a w hsz hcl hl h hI
  have hn:=List.eq_nil_of_length_eq_zero hl
  rw [hn] at h
  obtain rfl:=Option.some.inj (by simpa [ZJ] using h:some s=some sF)
  refine ⟨List.eq_nil_iff_forall_not_mem.2 fun i hi=>?_,hQ _ _ _ hI⟩
  obtain ⟨h1,o,h2,_⟩:=mem_ready.1 hi
  have:i ∈ Xa ops.size listed:=WL.2 ⟨(Array.getElem?_eq_some_iff.1 h2).1,h1⟩
  rw [hn] at this
  cases this
 | succ fuel ih =>
  intro listed s Γ a w hsz hcl hl h hI
  have hlisted:∀ j,j < ops.size→listed.getD j true≠false→listed.getD j false=true:=fun j hj h=>by
   have hj':j < listed.size:=by omega
   simp [hj'] at h ⊢; exact h
  refine ⟨fun hr=>?_,fun i hi=>?_⟩
  ·obtain ⟨i,r,hir⟩:∃ i r,Xa ops.size listed=i :: r:=by
    cases hx:Xa ops.size listed with
    | nil=>rw [hx] at hl; cases hl
    | cons i r=>exact ⟨i,r,rfl⟩
   have him:=WL.1 (show i ∈ Xa ops.size listed by rw [hir]; exact List.mem_cons_self ..)
   have hoi:ops[i]? = some ops[i]:=Array.getElem?_eq_getElem him.1
   have hready:i ∈ Region.ready .any ops listed:=by
    refine mem_ready.2 ⟨him.2,_,hoi,fun e he hb=>?_⟩
    have:=hord i him.1
    rw [hoi] at this
    have hlt:=Array.all_eq_true'.1 this e he
    rw [hb] at hlt
    simp only [Bool.not_true,Bool.false_or,decide_eq_true_eq] at hlt
    refine hlisted e.on (by omega) fun hun=>?_
    have hm:=WL.2 ⟨show e.on < ops.size by omega,hun⟩
    rw [hir] at hm
    have hs:=VO ops.size listed
    rw [hir] at hs
    rcases List.mem_cons.1 hm with he | hm
    ·omega
    ·have:=(List.pairwise_cons.1 hs).1 _ hm
     omega
   rw [hr] at hready
   cases hready
  ·obtain ⟨hun,o,ho,hdeps⟩:=mem_ready.1 hi
   have hin:=(Array.getElem?_eq_some_iff.1 ho).1
   obtain ⟨l1,l2,hsplit⟩:=List.append_of_mem (WL.2 ⟨hin,hun⟩)
   have hs:=VO ops.size listed
   rw [hsplit] at hs
   obtain ⟨g,hg1,hg2⟩:=hget i o (by simpa using ho)
   have hbi:bops.getD i ⟨none,.bad,none⟩=⟨o.dst,(cOp P hand draw o).getD .bad,g⟩:=by rw [List.getD_eq_getElem?_getD,hg2]; rfl
   have hcomm:∀ x ∈ l1.map (fun i=>bops.getD i ⟨none,.bad,none⟩),Zjc x ⟨o.dst,(cOp P hand draw o).getD .bad,g⟩=true:=fun x hx=>by
    obtain ⟨j,hj,rfl⟩:=List.mem_map.1 hx
    have hji:j < i:=(List.pairwise_append.1 hs).2.2 j hj i (List.mem_cons_self ..)
    have hjm:=WL.1 (show j ∈ Xa ops.size listed by rw [hsplit]; exact List.mem_append_left _ hj)
    have:=hpair i hin j hji
    rw [Bool.or_eq_true] at this
    rcases this with h1 | h1
    ·exfalso
     have h2:=hcl.ready ho hdeps (Zbm h1)
     rw [BO hjm.2] at h2
     cases h2
    ·rw [hg2] at h1
     split at h1
     ·rename_i x y hx hy
      cases hy
      rw [List.getD_eq_getElem?_getD,hx]
      exact h1
     ·cases h1
   rw [hsplit,List.map_append,List.map_cons,hbi] at h
   obtain ⟨u,hu1,hu2⟩:=bubble ZeQ hcomm h
   rw [← List.map_append,← Ox hsplit (by omega)] at hu2
   have hkk:noHand ((cOp P hand draw o).getD .bad)=true:=hnh _ (List.mem_of_getElem? hg2)
   have hlen2:(Xa ops.size (listed.setIfInBounds i true)).length=fuel:=by
    rw [Ox hsplit (by omega)]
    rw [hsplit] at hl
    simp at hl ⊢
    omega
   unfold wpOp
   simp only [ho]
   exact ZlB hG hS hkk hg1 hu1 hI fun Γ' a' w' hI'=>ih (by simp [hsz]) (hcl.list ho hdeps) hlen2 hu2 hI'
theorem Zp1 (hG:GOk G E.W0)(hS:Y8 P E.W0 call){ops:Array Oper}{o:Oper}{g:Option (Nat×Bool)}{u:Zb}{K:Act→World→Prop}{Q:Exit→Act→World→Prop}(h2:Ed ops o.guard=some g)
  (he:Z8 G call ⟨o.dst,(cOp P hand draw o).getD .bad,g⟩ s=some u) (hI:Inv E s Γ a w) (hK:∀ Γ a w,Inv E u Γ a w→K a w) :
  if Region.wanted o (yielded ops a.tmps)=true then o.wp P a w K Q∨(o.asks P a w∧LetsOut Q) else K (a.put o.dst Go.undef) w:=by
 simp only [Z8] at he
 split at he <;> first | (cases he; done) | skip
 ·rename_i hw
  rw [XM hI h2 hw]
  split at he <;> first | (cases he; done) | skip
  rename_i v s2 hev
  obtain rfl:=Option.some.inj he
  simp only [if_true]
  refine .inl (ZrQ hG hS hI (VP hev) hev fun Γ' cv w' i1 r1 o1=>?_)
  obtain ⟨Γ2,i2⟩:=i1.put o.dst r1 o1
  exact hK _ _ _ i2
 ·rename_i hw
  rw [XM hI h2 hw]
  obtain rfl:=Option.some.inj he
  simp only [Bool.false_eq_true,if_false]
  obtain ⟨Γ2,i2⟩:=hI.put o.dst (v := .undef) (cv := Go.undef) .undef (.of_ne (by simp))
  exact hK _ _ _ i2
def Oy (n size:Nat)(listed:Array Bool):List Nat:=(List.range size).filter fun i=>decide (n≤i) && !listed.getD i true
theorem Zin (n size:Nat)(listed:Array Bool):(Oy n size listed).Pairwise (· < ·):=List.Pairwise.filter _ List.pairwise_lt_range
theorem En {n size i:Nat}{listed:Array Bool}:i ∈ Oy n size listed↔i < size∧n≤i∧listed.getD i true=false:=by simp [Oy]
theorem Zim {n size i:Nat}{listed:Array Bool}(hi:i < n):Oy n size (listed.setIfInBounds i true)=Oy n size listed:=by
 unfold Oy
 refine List.filter_congr fun j _=>?_
 by_cases hj:n≤j
 ·rw [getD_set_ne true (show i≠j by omega)]
 ·simp [hj]
theorem Zsv {n size i:Nat}{listed:Array Bool}(hi:i < listed.size)(hs:i < size)(hn:n≤i)(hun:listed.getD i true=false)(hb:∀ j,n≤j→j < i→listed.getD j true≠false):Oy n size listed=i :: Oy n size (listed.setIfInBounds i true):=by
 have e:Oy n size (listed.setIfInBounds i true)=(Oy n size listed).filter fun j=>decide (j≠i):=by
  unfold Oy
  rw [List.filter_filter]
  refine List.filter_congr fun j _=>?_
  by_cases hji:j=i
  ·subst hji
   have:(listed.setIfInBounds j true).getD j true=true:=by simp [hi]
   simp [this]
  ·rw [getD_set_ne true (Ne.symm hji)]; simp [hji]
 obtain ⟨l1,l2,hsp⟩:=List.append_of_mem (En.2 ⟨hs,hn,hun⟩)
 have hso:=Zin n size listed
 rw [hsp] at hso
 have h1:l1=[]:=List.eq_nil_iff_forall_not_mem.2 fun j hj=>by
  have hlt:=(List.pairwise_append.1 hso).2.2 j hj i (List.mem_cons_self ..)
  have hm:=En.1 (show j ∈ Oy n size listed by rw [hsp]; exact List.mem_append_left _ hj)
  exact hb j hm.2.1 hlt hm.2.2
 subst h1
 rw [e,hsp,List.nil_append,List.filter_cons]
 simp only [ne_eq,not_true_eq_false,decide_false,Bool.false_eq_true,if_false]
 rw [List.filter_eq_self.2 fun j hj=>?_]
 have:=(List.pairwise_cons.1 hso).1 j hj
 have:j≠i:=by omega
 simpa using this
theorem ZuM (hG:GOk G E.W0)(hS:Y8 P E.W0 call){ops:Array Oper}{bops:List ZQ}{n:Nat}{Q:Exit→Act→World→Prop}{sF:Zb}(hc:Us P hand draw ops ops.toList=some bops)(hd:Zsk ops bops n=true)(hQ:∀ Γ a w,Inv E sF Γ a w→Q .normal a w) :
  ∀ (fuel:Nat) {listed:Array Bool} {s s1:Zb} {Γ:ZF} {a:Act} {w:World},listed.size=ops.size→UF ops listed→(Xa n listed).length + (Oy n ops.size listed).length=fuel →
   ZJ G (Wj call) ((Xa n listed).map fun i=>bops.getD i ⟨none,.bad,none⟩) s=some s1→ZJ G call ((Oy n ops.size listed).map fun i=>bops.getD i ⟨none,.bad,none⟩) s1=some sF→Inv E s Γ a w→wpAny P .any ops Q fuel listed a w:=by
 simp only [Zsk,Bool.and_eq_true,List.all_eq_true,List.mem_range,decide_eq_true_eq] at hd
 obtain ⟨⟨⟨⟨hord,hnh⟩,hnle⟩,hpin⟩,hpair⟩:=hd
 obtain ⟨hlen,hget⟩:=JC hc
 intro fuel
 induction fuel with
 | zero =>
  intro listed s s1 Γ a w hsz hcl hl h h' hI
  have hn1:=List.eq_nil_of_length_eq_zero (show (Xa n listed).length=0 by omega)
  have hn2:=List.eq_nil_of_length_eq_zero (show (Oy n ops.size listed).length=0 by omega)
  rw [hn1] at h
  rw [hn2] at h'
  obtain rfl:=Option.some.inj (by simpa [ZJ] using h:some s=some s1)
  obtain rfl:=Option.some.inj (by simpa [ZJ] using h':some s=some sF)
  refine ⟨List.eq_nil_iff_forall_not_mem.2 fun i hi=>?_,hQ _ _ _ hI⟩
  obtain ⟨k1,o,k2,_⟩:=mem_ready.1 hi
  have hin:=(Array.getElem?_eq_some_iff.1 k2).1
  rcases Nat.lt_or_ge i n with hlt | hge
  ·have:i ∈ Xa n listed:=WL.2 ⟨hlt,k1⟩
   rw [hn1] at this; cases this
  ·have:i ∈ Oy n ops.size listed:=En.2 ⟨hin,hge,k1⟩
   rw [hn2] at this; cases this
 | succ fuel ih =>
  intro listed s s1 Γ a w hsz hcl hl h h' hI
  have hlisted:∀ j,j < ops.size→listed.getD j true≠false→listed.getD j false=true:=fun j hj h=>by
   have hj':j < listed.size:=by omega
   simp [hj'] at h ⊢; exact h
  refine ⟨fun hr=>?_,fun i hi=>?_⟩
  ·
   have hex:∃ i,i < ops.size∧listed.getD i true=false∧∀ j,j < i→listed.getD j true≠false:=by
    have hne:∃ i,i < ops.size∧listed.getD i true=false:=by
     cases hx:Xa n listed with
     | cons i r =>
      have:=WL.1 (show i ∈ Xa n listed by rw [hx]; exact List.mem_cons_self ..)
      exact ⟨i,by omega,this.2⟩
     | nil =>
      cases hy:Oy n ops.size listed with
      | nil=>rw [hx,hy] at hl; simp at hl
      | cons i r =>
       have:=En.1 (show i ∈ Oy n ops.size listed by rw [hy]; exact List.mem_cons_self ..)
       exact ⟨i,this.1,this.2.2⟩
    obtain ⟨i,h1,h2⟩:=hne
    induction i using Nat.strongRecOn with
    | _ i ihi =>
     by_cases hx:∃ j,j < i∧listed.getD j true=false
     ·obtain ⟨j,hj1,hj2⟩:=hx
      exact ihi j hj1 (by omega) hj2
     ·exact ⟨i,h1,h2,fun j hj hq=>hx ⟨j,hj,hq⟩⟩
   obtain ⟨i,him,hun,hleast⟩:=hex
   have hoi:ops[i]? = some ops[i]:=Array.getElem?_eq_getElem him
   have hready:i ∈ Region.ready .any ops listed:=by
    refine mem_ready.2 ⟨hun,_,hoi,fun e he hb=>?_⟩
    have:=hord i him
    rw [hoi] at this
    have hlt:=Array.all_eq_true'.1 this e he
    rw [hb] at hlt
    simp only [Bool.not_true,Bool.false_or,decide_eq_true_eq] at hlt
    exact hlisted e.on (by omega) (hleast _ hlt)
   rw [hr] at hready
   cases hready
  ·obtain ⟨hun,o,ho,hdeps⟩:=mem_ready.1 hi
   have hin:=(Array.getElem?_eq_some_iff.1 ho).1
   obtain ⟨g,hg1,hg2⟩:=hget i o (by simpa using ho)
   have hbi:bops.getD i ⟨none,.bad,none⟩=⟨o.dst,(cOp P hand draw o).getD .bad,g⟩:=by rw [List.getD_eq_getElem?_getD,hg2]; rfl
   unfold wpOp
   simp only [ho]
   rcases Nat.lt_or_ge i n with hlt | hge
   ·obtain ⟨l1,l2,hsplit⟩:=List.append_of_mem (WL.2 ⟨hlt,hun⟩)
    have hs:=VO n listed
    rw [hsplit] at hs
    have hcomm:∀ x ∈ l1.map (fun i=>bops.getD i ⟨none,.bad,none⟩),Zjc x ⟨o.dst,(cOp P hand draw o).getD .bad,g⟩=true:=fun x hx=>by
     obtain ⟨j,hj,rfl⟩:=List.mem_map.1 hx
     have hji:j < i:=(List.pairwise_append.1 hs).2.2 j hj i (List.mem_cons_self ..)
     have hjm:=WL.1 (show j ∈ Xa n listed by rw [hsplit]; exact List.mem_append_left _ hj)
     have:=hpair i hlt j hji
     rw [Bool.or_eq_true] at this
     rcases this with h1 | h1
     ·exfalso
      have h2:=hcl.ready ho hdeps (Zbm h1)
      rw [BO hjm.2] at h2
      cases h2
     ·rw [hg2] at h1
      split at h1
      ·rename_i x y hx hy
       cases hy
       rw [List.getD_eq_getElem?_getD,hx]
       exact h1
      ·cases h1
    rw [hsplit,List.map_append,List.map_cons,hbi] at h
    obtain ⟨u,hu1,hu2⟩:=bubble ZeQ hcomm h
    rw [← List.map_append,← Ox hsplit (by omega)] at hu2
    have hkk:noHand ((cOp P hand draw o).getD .bad)=true:=by
     have hm:(⟨o.dst,(cOp P hand draw o).getD .bad,g⟩:ZQ) ∈ bops.take n:=by
      refine List.mem_of_getElem? (i := i) ?_
      rw [List.getElem?_take_of_lt hlt]; exact hg2
     exact hnh _ hm
    rw [← Zim (size := ops.size) (listed := listed) hlt] at h'
    refine ZlB hG hS hkk hg1 hu1 hI fun Γ' a' w' hI'=>ih (by simp [hsz]) (hcl.list ho hdeps) ?_ hu2 h' hI'
    rw [Ox hsplit (by omega),Zim hlt]
    rw [hsplit] at hl
    simp at hl ⊢
    omega
   ·have hall:∀ j,j < i→listed.getD j true≠false:=fun j hj hq=>by
     have hw:Za7 ops i j=true:=by
      rcases Bool.or_eq_true _ _ ▸ hpin i hin with h1 | h1
      ·have:i < n:=by simpa using h1
       omega
      ·exact List.all_eq_true.1 h1 j (List.mem_range.2 hj)
     have h2:=hcl.ready ho hdeps (Zbm hw)
     rw [BO hq] at h2
     cases h2
    have hnil:Xa n listed=[]:=List.eq_nil_iff_forall_not_mem.2 fun j hj=>by
     have:=WL.1 hj
     exact hall j (by omega) this.2
    have hnil2:Xa n (listed.setIfInBounds i true)=[]:=List.eq_nil_iff_forall_not_mem.2 fun j hj=>by
     have hm:=WL.1 hj
     rw [getD_set_ne true (show i≠j by omega)] at hm
     exact hall j (by omega) hm.2
    rw [hnil] at h
    obtain rfl:=Option.some.inj (by simpa [ZJ] using h:some s=some s1)
    have hon:=Zsv (n := n) (size := ops.size) (listed := listed) (by omega) hin hge hun (fun j _ hj=>hall j hj)
    rw [hon,List.map_cons,hbi] at h'
    simp only [ZJ] at h'
    split at h' <;> first | (cases h'; done) | skip
    rename_i u hu
    refine Zp1 hG hS hg1 hu hI fun Γ' a' w' hI'=>ih (s1 := u) (by simp [hsz]) (hcl.list ho hdeps) ?_ (by rw [hnil2]; rfl) h' hI'
    rw [hnil2]
    rw [hnil,hon] at hl
    simp at hl ⊢
    omega
end
end Go.Proofs.YtgjcjbhhhlelnaaGreatDoor.Abs
end
end
