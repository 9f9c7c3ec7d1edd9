import Derived.Deep.Quiet
import Derived.Orders
import Derived.LoopN
import Derived.Scope
import Derived.IntWalk
import Derived.Test.YthkdlifcknpadaaGreatHSh0
set_option linter.all false
section
section
namespace Go.Proofs.YthkdlifcknpadaaGreat.Abs
open Go Go.RowKit
section
variable {P:Program}{w:World}
def Za5 (e:AV×AV)(m:MapEntry):Prop:=e.1.flat=true∧e.2.flat1=true∧m.key=e.1.conc∧m.val=e.2.conc1
theorem GM {c:CK}{a b:AV}(h:Wq c a b=some true):a.conc1=b.conc1:=by
 cases c <;> cases a <;> cases b <;> simp only [Wq] at h <;> first | (cases h; done) | skip
 ·split at h
  ·rename_i e
   subst e
   simp only [Option.some.injEq,beq_iff_eq] at h
   rw [h]
  ·cases h
 ·simp only [Option.some.injEq,beq_iff_eq] at h
  rw [h]
 ·simp only [Option.some.injEq,beq_iff_eq] at h
  rw [h]
theorem LC {c:CK}{a b:AV}{q:Bool}(h:Wq c a b=some q):a.flat1=true∧b.flat1=true:=by
 cases c <;> cases a <;> cases b <;> simp only [Wq] at h <;> first | (cases h; done) | exact ⟨rfl,rfl⟩
theorem Uz {a:AV}(h:a.flat1=true):a.conc=a.conc1:=by cases a <;> first | rfl | (cases h)
theorem BJ {kt:TypeId}{c:CK}(hk:BI P kt=some (.one c)):Ls P kt=some c:=by
 unfold BI at hk
 split at hk
 ·split at hk
  ·split at hk <;> cases hk
  ·cases hk
 ·obtain ⟨c',h1,h2⟩:=Option.map_eq_some_iff.1 hk
  cases h2; exact h1
theorem Pv {kt:TypeId}{c:CK}(hk:BI P kt=some (.pair c)):∃ e,P.underlying kt=some (.array 2 e)∧Ls P e=some c∧P.cellsOf e=1:=by
 unfold BI at hk
 split at hk
 ·rename_i n e hu
  split at hk
  ·rename_i c' hc
   split at hk
   ·rename_i h2
    cases hk
    obtain ⟨hsz,rfl⟩:=h2
    exact ⟨e,hu,hc,hsz⟩
   ·cases hk
  ·cases hk
 ·obtain ⟨_,_,e⟩:=Option.map_eq_some_iff.1 hk; cases e
theorem ZjU {kt:TypeId}{sh:KSh}{a b:AV}{q:Bool}(hk:BI P kt=some sh)(h:SB sh a b=some q)(w:World):(Op.equal kt a.conc b.conc).run P w=.ok q w∧(q=true→a.conc=b.conc):=by
 cases sh with
 | one c =>
  have hc:=BJ hk
  obtain ⟨f1,f2⟩:=LC h
  rw [Uz f1,Uz f2]
  exact ⟨Tm (Γ := fun _=>.imm) (w := w) hc (XR f1 _ w) (XR f2 _ w) h 9999 w,fun e=>by subst e; exact GM h⟩
 | pair c =>
  obtain ⟨e,hu,hc,hsz⟩:=Pv hk
  unfold SB at h
  split at h <;> first | (cases h; done) | skip
  ·rename_i e; cases e
  rename_i c' x0 x1 y0 y1 e'
  cases e'
  obtain ⟨g1,g2⟩:=Oo hc
  obtain ⟨ie,hie⟩:=info_of_underlying g2
  have hp:∀ (z0 z1:Value) (W:World),(part e #[z0,z1] 0).run P W=.ok z0 W∧(part e #[z0,z1] 1).run P W=.ok z1 W:=fun z0 z1 W=>⟨VB g1 g2 rfl W,VB g1 g2 rfl W⟩
  have he:∀ {x y:AV} {r:Bool},Wq c x y=some r→∀ W,(Op.equalIn 9999 e x.conc1 y.conc1).run P W=.ok r W:=fun hr W=>by
   obtain ⟨f1,f2⟩:=LC hr
   exact Tm (Γ := fun _=>.imm) (w := W) hc (XR f1 _ W) (XR f2 _ W) hr 9998 W
  have hrun:∀ {q0:Bool},Wq c x0 y0=some q0→∀ q1,(q0=true→Wq c x1 y1=some q1)→(Op.equal kt (AV.agg [x0,x1]).conc (AV.agg [y0,y1]).conc).run P w=.ok (q0 && q1) w:=by
   intro q0 h0 q1 h1
   have e0:=he h0 w
   have:=run_equalIn_array (P := P) w 9999 (AV.conc1 x0 :: [AV.conc1 x1]).toArray (AV.conc1 y0 :: [AV.conc1 y1]).toArray hu hie
   show (Op.equalIn (9999 + 1) kt (.agg (AV.conc1 x0 :: [AV.conc1 x1]).toArray) (.agg (AV.conc1 y0 :: [AV.conc1 y1]).toArray)).run P w=_
   rw [this,hsz]
   show (Op.eqItems 9999 e 1 #[x0.conc1,x1.conc1] #[y0.conc1,y1.conc1] [0,1]).run P w=_
   simp only [Op.eqItems,Sem.run_bind,Nat.mul_one,(hp _ _ w).1,Result.andThen_ok,e0]
   cases q0 with
   | false=>simp
   | true =>
    have e1:=he (h1 rfl) w
    simp only [Bool.not_true,Bool.false_eq_true,if_false,Sem.run_bind,(hp _ _ w).2,Result.andThen_ok,e1]
    cases q1 <;> simp
  cases h0:Wq c x0 y0 with
  | none=>rw [h0] at h; cases h
  | some q0 =>
   rw [h0] at h
   cases q0 with
   | false =>
    obtain rfl:=Option.some.inj h
    exact ⟨by simpa using hrun h0 false (fun h=>by cases h),fun h=>by cases h⟩
   | true =>
    have h1:Wq c x1 y1=some q:=h
    refine ⟨by simpa using hrun h0 q (fun _=>h1),fun e=>?_⟩
    subst e
    simp only [AV.conc,List.map_cons,List.map_nil,GM h0,GM h1]
structure Found (sh:KSh)(k:AV)(es:List (AV×AV))(st:Nat)(r:Option AV)(q:Option (Nat×Value)):Prop where
 no:r=none→q=none∧∀ v,update sh k v es=some (es ++ [(k,v)])
 yes:∀ v,r=some v→∃ i k',q=some (st + i,v.conc1)∧v.flat1=true∧es[i]? = some (k',v)∧k.conc=k'.conc∧∀ v2,update sh k v2 es=some (es.set i (k',v2))
theorem Found.here {sh:KSh}{k k' v:AV}{es:List (AV×AV)}{st:Nat}(hq:SB sh k k'=some true)(hc:k.conc=k'.conc)(hf:v.flat1=true):Found sh k ((k',v) :: es) st (some v) (some (st,v.conc1)) :=
 ⟨fun e=>(by cases e),fun u e=>by cases e; exact ⟨0,k',rfl,hf,rfl,hc,fun v2=>by simp [update,hq]⟩⟩
theorem Found.later {sh:KSh}{k k' v:AV}{es:List (AV×AV)}{st:Nat}{r:Option AV}{q:Option (Nat×Value)}(hq:SB sh k k'=some false)(h:Found sh k es (st + 1) r q):Found sh k ((k',v) :: es) st r q:=by
 refine ⟨fun e=>⟨(h.no e).1,fun v2=>by simp [update,hq,(h.no e).2 v2]⟩,fun u e=>?_⟩
 obtain ⟨i,k2,h1,h2,h3,h4,h5⟩:=h.yes u e
 exact ⟨i + 1,k2,by rw [h1,Nat.add_assoc,Nat.add_comm 1 i],h2,by simpa using h3,h4,fun v2=>by simp [update,hq,h5 v2]⟩
theorem Found.none_ {sh:KSh}{k:AV}{st:Nat}:Found sh k [] st none none:=⟨fun _=>⟨rfl,fun _=>rfl⟩,fun _ e=>by cases e⟩
theorem ZgQ {kt:TypeId}{sh:KSh}{k:AV}(hk:BI P kt=some sh)(w:World):∀ {es:List (AV×AV)} {ms:List MapEntry} {r:Option AV} (st:Nat),Zdc Za5 es ms→find sh k es=some r →
  ∃ q,(Instr.findAsking kt k.conc ms st).run P w=.ok q w∧Found sh k es st r q
 | _,_,r,st,.nil,h=>by
  obtain rfl:=Option.some.inj h
  exact ⟨none,rfl,.none_⟩
 | _,_,r,st,.cons (x := e) (y := m) (l := es) (m := ms) he hes,h=>by
  obtain ⟨k',v⟩:=e
  simp only [find] at h
  cases hq:SB sh k k' with
  | none=>rw [hq] at h; cases h
  | some q =>
   rw [hq] at h
   obtain ⟨e1,e2⟩:=ZjU hk hq w
   obtain ⟨r1,r2,r3,r4⟩:=he
   cases q with
   | true =>
    obtain rfl:=Option.some.inj h
    refine ⟨some (st,v.conc1),?_,.here hq (e2 rfl) r2⟩
    simp only [Instr.findAsking,Sem.run_bind,r3,e1,Result.andThen_ok,r4]
    rfl
   | false =>
    obtain ⟨q,h1,h2⟩:=ZgQ hk w (st + 1) hes h
    refine ⟨q,?_,.later hq h2⟩
    simp only [Instr.findAsking,Sem.run_bind,r3,e1,Result.andThen_ok]
    exact h1
theorem Zgm {kt:TypeId}{c:CK}{a b:AV}{q:Bool}{d:TypeDesc}(hc:Ls P kt=some c)(hd:P.underlying kt=some d)(h:Wq c a b=some q):Instr.sameNow d a.conc1 b.conc1=some q:=by
 unfold Ls at hc
 rw [hd] at hc
 cases d <;> simp only at hc <;> first | (cases hc; done) | skip
 all_goals
  cases hc
  cases a <;> cases b <;> simp only [Wq] at h <;> first | (cases h; done) | skip
 all_goals first
  | exact h
  | (simp only [AV.conc1,Instr.sameNow]; rw [← h]; congr 1; rw [Bool.eq_iff_iff,beq_toListBytes]; simp)
theorem Aq {kt:TypeId}{c:CK}{k:AV}{d:TypeDesc}(hk:BI P kt=some (.one c))(hd:P.underlying kt=some d):∀ {es:List (AV×AV)} {ms:List MapEntry} {r:Option AV} (st:Nat),Zdc Za5 es ms→find (.one c) k es=some r →
  ∃ q,Instr.findNow d k.conc ms st=some q∧Found (.one c) k es st r q
 | _,_,r,st,.nil,h=>by
  obtain rfl:=Option.some.inj h
  exact ⟨none,rfl,.none_⟩
 | _,_,r,st,.cons (x := e) (y := m) (l := es) (m := ms) he hes,h=>by
  obtain ⟨k',v⟩:=e
  simp only [find] at h
  cases hq:SB (.one c) k k' with
  | none=>rw [hq] at h; cases h
  | some q =>
   rw [hq] at h
   obtain ⟨r1,r2,r3,r4⟩:=he
   obtain ⟨f1,f2⟩:=LC hq
   have hs:=Zgm (BJ hk) hd hq
   rw [← Uz f1,← Uz f2] at hs
   cases q with
   | true =>
    obtain rfl:=Option.some.inj h
    refine ⟨some (st,v.conc1),?_,.here hq (by rw [Uz f1,Uz f2]; exact GM hq) r2⟩
    simp only [Instr.findNow,r3,hs,r4]
   | false =>
    obtain ⟨q,h1,h2⟩:=Aq hk hd (st + 1) hes h
    refine ⟨q,?_,.later hq h2⟩
    simp only [Instr.findNow,r3,hs]
    exact h1
theorem LG {kt:TypeId}{sh:KSh}{k:AV}(hk:BI P kt=some sh)(w:World){es:List (AV×AV)}{ms:List MapEntry}{r:Option AV}(he:Zdc Za5 es ms)(h:find sh k es=some r) :
  ∃ q,(Instr.findKey kt k.conc ms).run P w=.ok q w∧Found sh k es 0 r q:=by
 cases sh with
 | one c =>
  have hc:=BJ hk
  obtain ⟨d,hd⟩:=Option.isSome_iff_exists.1 (Oo hc).2
  obtain ⟨q,h1,h2⟩:=Aq hk hd 0 he h
  exact ⟨q,Go.MapKept.run_findKey hd h1,h2⟩
 | pair c =>
  obtain ⟨e,hu,_,_⟩:=Pv hk
  obtain ⟨q,h1,h2⟩:=ZgQ hk w 0 he h
  exact ⟨q,(run_findKey_eq w (by rw [hu]) _ _).trans h1,h2⟩
theorem LK {sh:KSh}{k:AV}(h:Kw sh k=true):k.flat=true:=by
 unfold Kw at h
 split at h <;> first | rfl | (cases h; done)
theorem Nr {kt:TypeId}{sh:KSh}{k:AV}(hk:BI P kt=some sh)(h:Kw sh k=true)(e:Bool)(w:World):(Instr.checkKey e 10000 kt k.conc).run P w=.ok () w:=by
 have plain:∀ {t:TypeId} {c:CK} (n:Nat) (v:Value),Ls P t=some c→(Instr.checkKey e (n + 1) t v).run P w=.ok () w:=fun {t c} n v hc=>by
  unfold Ls at hc
  cases hd:P.underlying t with
  | none=>rw [hd] at hc; cases hc
  | some d =>
   rw [hd] at hc
   cases d <;> simp only at hc <;> first | (cases hc; done) | skip
   all_goals simp [Instr.checkKey,run_underlying hd]
 cases sh with
 | one c=>exact plain 9999 _ (BJ hk)
 | pair c =>
  obtain ⟨el,hu,hc,hsz⟩:=Pv hk
  obtain ⟨g1,g2⟩:=Oo hc
  obtain ⟨ie,hie⟩:=info_of_underlying g2
  have hp:∀ (z0 z1:Value),(part el #[z0,z1] 0).run P w=.ok z0 w∧(part el #[z0,z1] 1).run P w=.ok z1 w:=fun z0 z1=>⟨VB g1 g2 rfl w,VB g1 g2 rfl w⟩
  have hs:=ZM hie w
  rw [hsz] at hs
  have key:∀ x0 x1:AV,(Instr.checkKey e (9999 + 1) kt (AV.agg [x0,x1]).conc).run P w=.ok () w:=fun x0 x1=>by
   have p1:=plain 9998 x0.conc1 hc
   have p2:=plain 9998 x1.conc1 hc
   simp only [AV.conc,List.map_cons,List.map_nil]
   unfold Instr.checkKey
   simp only [Sem.run_bind,run_underlying hu,Result.andThen_ok]
   simp only [Std.Legacy.Range.forIn_eq_forIn_range',Std.Legacy.Range.size,Nat.sub_zero,Nat.add_one_sub_one,Nat.div_one]
   simp only [List.range'_succ,List.range'_zero,List.forIn_cons,List.forIn_nil,Sem.run_bind,hs,Result.andThen_ok,Nat.zero_mul,Nat.zero_add,Nat.mul_one,(hp _ _).1,(hp _ _).2,p1,p2,Sem.run_pure]
  unfold Kw at h
  split at h <;> first | (cases h; done) | skip
  all_goals first | exact key _ _ | (rename_i e; cases e; done) | (rename_i e _; cases e; done) | (rename_i e _ _; cases e; done) | (rename_i e _ _ _; cases e; done)
end
end Go.Proofs.YthkdlifcknpadaaGreat.Abs
end
section
namespace Go.Proofs.YthkdlifcknpadaaGreat.Abs
open Go Go.RowKit
section
variable {P:Program}{G:Nat→Option (List AV)}{E:Entry}{s:Za}{Γ:Zu}{a:Act}{w:World}{o:Oper}
theorem L6 {v:AV}{cv:Value}(h:Rep Γ w v cv)(hf:v.flat=true):cv=v.conc:=by
 cases h with
 | agg cells cv hs h1 hn hr =>
  simp only [AV.flat,List.all_eq_true] at hf
  simp only [AV.conc,Value.agg.injEq]
  apply Array.ext'
  apply List.ext_getElem?
  intro j
  simp only [List.getElem?_map,Array.getElem?_toList]
  by_cases hj:j < cells.length
  ·have hc:=List.getElem?_eq_getElem hj
   have:=(hr j _ hc).conc1 (hf _ (List.getElem_mem hj))
   rw [hc,Option.map_some,← this]
   exact YX (by omega)
  ·rw [List.getElem?_eq_none (by omega),Array.getElem?_eq_none (by omega)]; rfl
 | tup vs cv hs hr =>
  simp only [AV.flat,List.all_eq_true] at hf
  simp only [AV.conc,Value.tuple.injEq]
  apply Array.ext'
  apply List.ext_getElem?
  intro j
  simp only [List.getElem?_map,Array.getElem?_toList]
  by_cases hj:j < vs.length
  ·have hc:=List.getElem?_eq_getElem hj
   have:=(hr j _ hc).conc1 (hf _ (List.getElem_mem hj))
   rw [hc,Option.map_some,← this]
   exact YX (by omega)
  ·rw [List.getElem?_eq_none (by omega),Array.getElem?_eq_none (by omega)]; rfl
 | fn f fst caps fv cv hs1 hr1 hs hr =>
  exact (Rep.fn f fst caps fv cv hs1 hr1 hs hr).conc1 hf
 | _=>first | rfl | (cases hf; done)
theorem EN {es:List (AV×AV)}{ms:Array MapEntry}(hs:ms.size=es.length)(h:∀ (i:Nat) (e:AV×AV),es[i]? = some e→∃ m,ms[i]? = some m∧e.1.flat=true∧e.2.flat1=true∧m.key=e.1.conc∧m.val=e.2.conc1):Zdc Za5 es ms.toList:=by
 refine Zdc.of_get (by simpa using hs.symm) fun j e m he hm=>?_
 obtain ⟨m',h1,h2⟩:=h j e he
 rw [Array.getElem?_toList,h1] at hm
 cases hm
 exact h2
theorem Zl0 {t:TypeId}{z:AV}(hz:zeroOf P t=some z)(hf:z.flat1=true)(w:World):(zeroValue t).run P w=.ok z.conc1 w:=by
 obtain ⟨i,zv,hi,hzv,hrep⟩:=Vm hz
 rw [← (hrep (fun _=>.imm) w).1.conc1 hf]
 simp [zeroValue,typeInfo,hi,hzv]
def Zki (ok:Bool)(z:AV):Option AV→Value
 | some v=>if ok then .tuple #[v.conc1,.bool true] else v.conc1
 | none=>if ok then .tuple #[z.conc1,.bool false] else z.conc1
def ZnX (ok:Bool)(z:AV):Option AV→AV
 | some v=>if ok then AV.tup [v,.bool true] else v
 | none=>if ok then AV.tup [z,.bool false] else z
theorem Zie {t kt et:TypeId}{sh:KSh}{k z:AV}{ok:Bool}{b:Nat}{ms:Array MapEntry}{clk:Nat}{es:List (AV×AV)}{r:Option AV}(ht:P.underlying t=some (.map kt et))(hk:BI P kt=some sh)(hb:w.heap[b]? = some (.map ms clk))(he:Zdc Za5 es ms.toList)(hf:find sh k es=some r)
  (hck:∀ emp,(Instr.checkKey emp 10000 kt k.conc).run P w=.ok () w) (hz:(zeroValue et).run P w=.ok z.conc1 w):(Instr.lookup t (.map (some b)) k.conc ok).run P w=.ok (Zki ok z r) w∧∀ v,r=some v→v.flat1=true:=by
 obtain ⟨q,e1,e2⟩:=LG hk w he hf
 cases r with
 | none =>
  obtain ⟨rfl,_⟩:=e2.no rfl
  refine ⟨?_,fun v e=>by cases e⟩
  simp only [Instr.lookup,Sem.run_bind,run_underlying ht,MapKept.run_getObj_map hb,hck,Result.andThen_ok,e1,hz,Sem.run_pure]
  rfl
 | some v =>
  obtain ⟨j,k',rfl,hv,_⟩:=e2.yes v rfl
  refine ⟨?_,fun v' e=>by cases e; exact hv⟩
  simp only [Instr.lookup,Sem.run_bind,run_underlying ht,MapKept.run_getObj_map hb,hck,Result.andThen_ok,e1,Sem.run_pure]
  rfl
theorem Zp7 (hG:GOk G E.W0)(hI:Inv E s Γ a w){t kt et:TypeId}{sh:KSh}{z:AV}{x i:Operand}{x' i':Yl}{u k v:AV}{ok:Bool}(ho:o.op=.lookup t x i ok)(ht:P.underlying t=some (.map kt et))(hk:BI P kt=some sh)(hz:zeroOf P et=some z)(hzf:z.flat1=true)
  (hcx:ZK P t x=some x') (hci:ZK P kt i=some i') (hx:opnd G s.sl x'=some u) (hi:opnd G s.sl i'=some k) (h:AZ s.hp sh z u k ok=some v):Ij P E s v a w o:=by
 have k1:=(Zm hG hI hcx hx).1
 have k2:=(Zm hG hI hci hi).1
 unfold AZ at h
 split at h
 ·cases h
 rename_i hfit
 have hfit:Kw sh k=true:=by simpa using hfit
 have hkc:=L6 k2 (LK hfit)
 have hzr:=Zl0 hz hzf w
 have hck:∀ emp,(Instr.checkKey emp 10000 kt k.conc).run P w=.ok () w:=fun emp=>Nr hk hfit emp w
 have fin:∀ (r:Option AV),(∀ v,r=some v→v.flat1=true)→(execOp a.eval o).run P w=.ok (.value (Zki ok z r)) w →
   ZnX ok z r=v→Ij P E s v a w o:=by
  intro r hr hrun hv
  have two:∀ (y:AV) (b:Bool),y.flat1=true→Rep Γ w (if ok then AV.tup [y,.bool b] else y) (if ok then Value.tuple #[y.conc1,.bool b] else y.conc1):=fun y b hy=>by
   cases ok with
   | false=>exact XR hy Γ w
   | true =>
    refine .tup _ #[y.conc1,.bool b] rfl fun j c hj=>?_
    match j with
    | 0=>cases hj; exact XR hy Γ w
    | 1=>cases hj; exact .bool b
    | j + 2=>simp at hj
  have nown:∀ (y:AV) (b:Bool),y.flat1=true→∀ k r,(if ok then AV.tup [y,.bool b] else y)≠.own k r:=fun y b hy=>by
   cases ok with
   | false=>exact Zd8 hy
   | true=>intro k r e; cases e
  cases r with
  | some y =>
   subst hv
   exact .pure hI hrun (two y true (hr y rfl)) fun k r e=>absurd e (nown y true (hr y rfl) k r)
  | none =>
   subst hv
   exact .pure hI hrun (two z false hzf) fun k r e=>absurd e (nown z false hzf k r)
 generalize hq:a.eval x=q at k1
 have hexec:∀ r,(Instr.lookup t q k.conc ok).run P w=.ok r w→(execOp a.eval o).run P w=.ok (.value r) w:=fun r hr=>by
  simp only [execOp,ho,hq,hkc]
  rw [Sem.run_bind,hr]; rfl
 have some_:∀ {g:Nat} {es:List (AV×AV)} {r:Option AV},s.hp[g]? = some (.map es)→find sh k es=some r→Rep Γ w (.map g) q→ZnX ok z r=v→Ij P E s v a w o:=by
  intro g es r hg hf hm hv
  cases hm with
  | map _ b hb =>
   obtain ⟨b',ms,clk,h1,h2,h3,h4⟩:=hI.rw.objs g _ hg
   obtain rfl:=hI.rw.inj b b' g hb h1
   obtain ⟨m1,m2⟩:=Zie (ok := ok) ht hk h2 (EN h3 h4) hf hck hzr
   exact fin r m2 (hexec _ m1) hv
 split at h
 ·rename_i y hy
  split at hy <;> first | (cases hy; done) | skip
  split at hy <;> first | (cases hy; done) | skip
  rename_i hg
  exact some_ hg hy k1 (Option.some.inj h)
 ·rename_i hy
  split at hy <;> first | (cases hy; done) | skip
  ·cases k1
   refine fin none (fun v e=>by cases e) (hexec _ ?_) (Option.some.inj h)
   simp only [Instr.lookup,Sem.run_bind,run_underlying ht,Result.andThen_ok,Sem.run_pure,hck]
   have:(Instr.findKey kt k.conc []).run P w=.ok none w:=by
    obtain ⟨q,e1,e2⟩:=LG (k := k) (r := none) hk w (.nil:Zdc Za5 [] []) rfl
    obtain ⟨rfl,_⟩:=e2.no rfl
    exact e1
   simp only [this,Result.andThen_ok,Sem.run_bind,hzr,Sem.run_pure]
   rfl
  ·split at hy <;> first | (cases hy; done) | skip
   rename_i hg
   exact some_ hg hy k1 (Option.some.inj h)
 ·cases h
theorem Hf {c:CK}{x y:AV}(n:Nat)(h:Wq c x y=some true):Instr.sameBits n y.conc1 x.conc1=true:=by
 cases c <;> cases x <;> cases y <;> simp only [Wq] at h <;> first | (cases h; done) | skip
 ·split at h
  ·rename_i e
   subst e
   simp only [Option.some.injEq,beq_iff_eq] at h
   subst h
   simp [AV.conc1,Instr.sameBits]
  ·cases h
 ·simp only [Option.some.injEq,beq_iff_eq] at h
  subst h
  simp [AV.conc1,Instr.sameBits]
 ·simp only [Option.some.injEq,beq_iff_eq] at h
  subst h
  simp [AV.conc1,Instr.sameBits,beq_toListBytes]
theorem ZcJ {sh:KSh}{k:AV}(h:Kw sh k=true):Instr.sameBits 10000 k.conc k.conc=true:=by
 have one:∀ (x:AV),(∃ k n,x=.int k n)∨(∃ b,x=.bool b)∨(∃ s,x=.str s)→∀ n,Instr.sameBits n x.conc1 x.conc1=true:=fun x hx n=>by
  rcases hx with ⟨k,m,rfl⟩ | ⟨b,rfl⟩ | ⟨s,rfl⟩
  ·exact Hf (c := .int) n (by simp [Wq])
  ·exact Hf (c := .bool) n (by simp [Wq])
  ·exact Hf (c := .str) n (by simp [Wq])
 have two:∀ x y:AV,((∃ k n,x=.int k n)∨(∃ b,x=.bool b)∨(∃ s,x=.str s))→((∃ k n,y=.int k n)∨(∃ b,y=.bool b)∨(∃ s,y=.str s))→Instr.sameBits (9999 + 1) (AV.agg [x,y]).conc (AV.agg [x,y]).conc=true:=fun x y hx hy=>by
  simp only [AV.conc,List.map_cons,List.map_nil,Instr.sameBits,List.zip_cons_cons,List.zip_nil_right,List.all_cons,List.all_nil,one x hx 9999,one y hy 9999,beq_self_eq_true,Bool.and_self]
 unfold Kw at h
 split at h <;> first | (cases h; done) | skip
 ·exact one _ (.inl ⟨_,_,rfl⟩) _
 ·exact one _ (.inr (.inl ⟨_,rfl⟩)) _
 ·exact one _ (.inr (.inr ⟨_,rfl⟩)) _
 ·exact two _ _ (.inl ⟨_,_,rfl⟩) (.inl ⟨_,_,rfl⟩)
 ·exact two _ _ (.inr (.inr ⟨_,rfl⟩)) (.inr (.inr ⟨_,rfl⟩))
theorem ZpA (hG:GOk G E.W0)(hI:Inv E s Γ a w){t kt et:TypeId}{sh:KSh}{m k v:Operand}{m' k' v':Yl}{g:Nat}{ka va:AV}{es es':List (AV×AV)}(ho:o.op=.mapUpdate t m k v)(ht:P.underlying t=some (.map kt et))(hk:BI P kt=some sh)
  (hcm:ZK P t m=some m') (hck:ZK P kt k=some k') (hcv:ZK P et v=some v') (hm:opnd G s.sl m'=some (.map g)) (hka:opnd G s.sl k'=some ka) (hva:opnd G s.sl v'=some va) (hg:s.hp[g]? = some (.map es)) (hfit:Kw sh ka=true) (hvf:va.flat1=true)
  (hf:∃ r,find sh ka es=some r) (hu:update sh ka va es=some es'):Ij P E { s with hp:=s.hp.set g (.map es'),ef := s.note g 0 } .undef a w o:=by
 obtain ⟨r,hf⟩:=hf
 have k1:=(Zm hG hI hcm hm).1
 have hkc:=L6 (Zm hG hI hck hka).1 (LK hfit)
 have hvc:=(Zm hG hI hcv hva).1.conc1 hvf
 generalize hq:a.eval m=q at k1
 cases k1 with
 | map _ b hb =>
  obtain ⟨b',ms,clk,h1,h2,h3,h4⟩:=hI.rw.objs g _ hg
  obtain rfl:=hI.rw.inj b b' g hb h1
  obtain ⟨q,e1,e2⟩:=LG hk w (EN h3 h4) hf
  have hlt:=lt_of_some h2
  have step:∀ (ms':Array MapEntry) (clk':Nat),(ms'.size=es'.length∧∀ (i:Nat) (e:AV×AV),es'[i]? = some e→∃ m,ms'[i]? = some m∧e.1.flat=true∧e.2.flat1=true∧m.key=e.1.conc∧m.val=e.2.conc1) →
    Inv E { s with hp:=s.hp.set g (.map es'),ef := s.note g 0 } Γ a { w with heap:=w.heap.setIfInBounds b (.map ms' clk') }:=fun ms' clk' hrel=>by
   have same:∀ b',b'≠b→({ w with heap:=w.heap.setIfInBounds b (.map ms' clk') }:World).heap[b']? = w.heap[b']?:=fun b' hne=>by simp [Ne.symm hne]
   refine hI.update hb ⟨rfl,rfl,rfl,by simp,fun b' _ hne=>⟨rfl,same b' hne⟩,fun b' q y k1 k2=>⟨k1,?_⟩,.refl _⟩ (Jc s g 0) (by simp) ⟨b,ms',clk',hb,by simp [hlt],hrel.1,hrel.2⟩
   have:b'≠b:=by
    rintro rfl
    unfold IC at k1
    rw [hb] at k1
    exact k1
   exact (J6 (same b' this)).trans k2
  have hexec:∀ w',(Instr.mapUpdate t (.map (some b)) ka.conc va.conc1).run P w=.ok () w'→(execOp a.eval o).run P w=.ok .skip w':=fun w' hr=>by
   simp only [execOp,ho,hq,hkc,hvc]
   rw [Sem.run_bind,hr]; rfl
  have hchk:=Nr hk hfit false w
  cases r with
  | none =>
   obtain ⟨rfl,hup⟩:=e2.no rfl
   have:=(hup va).symm.trans hu
   obtain rfl:=Option.some.inj this
   refine ⟨Γ,Go.undef,_,.inr ⟨hexec { w with heap:=w.heap.setIfInBounds b (.map (ms.push { key := ka.conc,val := va.conc1,born := clk }) (clk + 1)) } ?_,rfl⟩,step _ _ ⟨by simp [h3],fun i e he=>?_⟩,.undef,.of_ne (by simp)⟩
   ·simp only [Instr.mapUpdate,Sem.run_bind,run_underlying ht,Result.andThen_ok,MapKept.run_getObj_map h2,hchk,e1,MapKept.run_setObj_map _ h2]
   ·rw [List.getElem?_append] at he
    split at he
    ·rename_i hi
     obtain ⟨m,a1,a2⟩:=h4 i e he
     exact ⟨m,by rw [Array.getElem?_push,if_neg (by omega)]; exact a1,a2⟩
    ·rename_i hi
     have hi':i=es.length:=by
      rcases Nat.lt_or_ge (i - es.length) 1 with h' | h'
      ·omega
      ·rw [List.getElem?_eq_none (by simpa using h')] at he; cases he
     subst hi'
     simp only [Nat.sub_self,List.getElem?_cons_zero,Option.some.injEq] at he
     subst he
     exact ⟨_,by rw [Array.getElem?_push,if_pos h3.symm],LK hfit,hvf,rfl,rfl⟩
  | some u =>
   obtain ⟨i,k2,rfl,_,hei,hkk,hup⟩:=e2.yes u rfl
   have:=(hup va).symm.trans hu
   obtain rfl:=Option.some.inj this
   obtain ⟨mi,a1,a2,a3,a4,a5⟩:=h4 i _ hei
   have hkeep:(Instr.keyThatStays (((ms[0 + i]?).map (·.key)).getD ka.conc) ka.conc).run P w=.ok ka.conc w:=by
    rw [Nat.zero_add,a1]
    simp only [Option.map_some,Option.getD_some,a4]
    unfold Instr.keyThatStays
    rw [← hkk,if_pos (ZcJ hfit)]
    rfl
   refine ⟨Γ,Go.undef,_,.inr ⟨hexec { w with heap:=w.heap.setIfInBounds b (.map (ms.modify (0 + i) fun e=>{ e with key:=ka.conc,val := va.conc1 }) clk) } ?_,rfl⟩,step _ _ ⟨by simp [h3],fun j e he=>?_⟩,.undef,.of_ne (by simp)⟩
   ·simp only [Instr.mapUpdate,Sem.run_bind,run_underlying ht,Result.andThen_ok,MapKept.run_getObj_map h2,hchk,e1,hkeep,MapKept.run_setObj_map _ h2]
   ·rw [Nat.zero_add,Array.getElem?_modify]
    rw [List.getElem?_set] at he
    split at he
    ·rename_i hij
     subst hij
     split at he
     ·obtain rfl:=Option.some.inj he
      refine ⟨{ mi with key:=ka.conc,val := va.conc1 },by rw [if_pos rfl,a1]; rfl,a2,hvf,hkk,rfl⟩
     ·cases he
    ·rename_i hij
     obtain ⟨m,b1,b2⟩:=h4 j e he
     exact ⟨m,by rw [if_neg hij]; exact b1,b2⟩
end
end Go.Proofs.YthkdlifcknpadaaGreat.Abs
end
section
namespace Go.Proofs.YthkdlifcknpadaaGreat.Abs
open Go Go.RowKit
theorem Zab {sh:KSh}{k v:AV}:∀ {es es':List (AV×AV)},update sh k v es=some es'→∃ r,find sh k es=some r
 | [],_,_=>⟨none,rfl⟩
 | (k',v') :: l,es',h=>by
  simp only [update] at h
  simp only [find]
  split at h
  ·exact ⟨_,rfl⟩
  ·obtain ⟨l',h',_⟩:=Option.map_eq_some_iff.1 h
   exact Zab h'
  ·cases h
theorem YN {α β:Type}{x:Option α}{s s':β}{v:α}(h:x.map (·,s)=some (v,s')):x=some v∧s'=s:=by
 obtain ⟨y,h1,h2⟩:=Option.map_eq_some_iff.1 h
 cases h2
 exact ⟨h1,rfl⟩
section
variable {P:Program}{G:Nat→Option (List AV)}{call:FuncId→List AV→List Zh→Option (AV×List Zh×Eff)}{E:Entry}{s s':Za}{Γ:Zu}{a:Act}{w:World}{o:Oper}{hand:Nat→Bool}{draw:Bool}{ao:AOp}{v:AV}
theorem ZpF (hG:GOk G E.W0)(hI:Inv E s Γ a w){x:Operand}(hop:o.op=.move x)(hc:cOp P hand draw o=some ao)(h:Zc G call s ao=some (v,s')):KP P E Γ s s' v a w o ao:=by
 simp only [cOp,hop] at hc
 split at hc
 ·rename_i t
  split at hc
  ·obtain rfl:=Option.some.inj hc
   simp only [Zc] at h
   split at h <;> first | (cases h; done) | skip
   rename_i u hu
   cases h
   exact (Zk3 hI (.inl hop) hu).fit
  ·obtain rfl:=Option.some.inj hc
   replace h:=YN h; obtain ⟨h,hss⟩:=h
   subst hss
   exact (ZmP (t := 0) hG hI (.inl hop) rfl h).fit hI
 ·obtain ⟨y,hy,rfl⟩:=Option.map_eq_some_iff.1 hc
  replace h:=YN h; obtain ⟨h,hss⟩:=h
  subst hss
  exact (ZmP hG hI (.inl hop) hy h).fit hI
theorem Zk5 (hG:GOk G E.W0)(hI:Inv E s Γ a w){x:Operand}(hop:o.op=.assign x)(hc:cOp P hand draw o=some ao)(h:Zc G call s ao=some (v,s')):KP P E Γ s s' v a w o ao:=by
 simp only [cOp,hop] at hc
 split at hc
 ·rename_i t
  split at hc
  ·obtain rfl:=Option.some.inj hc
   replace h:=YN h; obtain ⟨h,hss⟩:=h
   subst hss
   exact (ZmP (t := 0) hG hI (.inr hop) rfl h).fit hI
  ·obtain rfl:=Option.some.inj hc
   simp only [Zc] at h
   split at h <;> first | (cases h; done) | skip
   rename_i u hu
   cases h
   exact (Zk3 hI (.inr hop) hu).fit
 ·obtain ⟨y,hy,rfl⟩:=Option.map_eq_some_iff.1 hc
  replace h:=YN h; obtain ⟨h,hss⟩:=h
  subst hss
  exact (ZmP hG hI (.inr hop) hy h).fit hI
theorem ZpG (hG:GOk G E.W0)(hI:Inv E s Γ a w){c x y:Operand}(hop:o.op=.pick c x y)(hc:cOp P hand draw o=some ao)(h:Zc G call s ao=some (v,s')):KP P E Γ s s' v a w o ao:=by
 simp only [cOp,hop] at hc
 split at hc <;> first | (cases hc; done) | skip
 rename_i c' x' y' h1 h2 h3
 obtain rfl:=Option.some.inj hc
 simp only [Zc] at h
 split at h <;> first | (cases h; done) | skip
 ·rename_i hb
  replace h:=YN h; obtain ⟨h,hss⟩:=h
  subst hss
  exact (Zk1 (b := true) hG hI hop h1 h2 h3 hb h).fit hI
 ·rename_i hb
  replace h:=YN h; obtain ⟨h,hss⟩:=h
  subst hss
  exact (Zk1 (b := false) hG hI hop h1 h2 h3 hb h).fit hI
theorem Zod (hG:GOk G E.W0)(hI:Inv E s Γ a w)(hop:(∃ e,o.op=.alloc e)∨(∃ e x,o.op=.box e x))(hc:cOp P hand draw o=some ao)(h:Zc G call s ao=some (v,s')):KP P E Γ s s' v a w o ao:=by
 rcases hop with ⟨e,hop⟩ | ⟨e,x,hop⟩
 ·simp only [cOp,hop] at hc
  split at hc <;> first | (cases hc; done) | skip
  rename_i z hz
  split at hc <;> first | (cases hc; done) | skip
  rename_i h1
  obtain rfl:=Option.some.inj hc
  simp only [Zc] at h
  cases h
  exact (Zub hI hop hz h1).fit
 ·simp only [cOp,hop] at hc
  obtain ⟨y,hy,rfl⟩:=Option.map_eq_some_iff.1 hc
  simp only [Zc] at h
  split at h <;> first | (cases h; done) | skip
  rename_i u hu
  split at h <;> first | (cases h; done) | skip
  rename_i hl
  cases h
  exact (ZrP hG hI hop hy hu hl.2).fit
theorem ZmT (hG:GOk G E.W0)(hI:Inv E s Γ a w){t:TypeId}{parts:Array (Nat×Operand)}(hop:o.op=.build t parts)(hc:cOp P hand draw o=some ao)(h:Zc G call s ao=some (v,s')):KP P E Γ s s' v a w o ao:=by
 simp only [cOp,hop] at hc
 split at hc <;> first | (cases hc; done) | skip
 rename_i hs
 split at hc <;> first | (cases hc; done) | skip
 rename_i z ps hz hp
 obtain rfl:=Option.some.inj hc
 simp only [Zc] at h
 split at h <;> first | (cases h; done) | skip
 rename_i vs hv
 obtain ⟨cs,h1,h2⟩:=Option.map_eq_some_iff.1 h
 cases h2
 exact (ZmI hG hI hop hs hz hp hv h1).fit
theorem Zsa (hG:GOk G E.W0)(hI:Inv E s Γ a w){t:TypeId}{len:Nat}{parts:Array (Nat×Operand)}(hop:o.op=.buildSlice t len parts)(hc:cOp P hand draw o=some ao)(h:Zc G call s ao=some (v,s')):KP P E Γ s s' v a w o ao:=by
 simp only [cOp,hop] at hc
 split at hc <;> first | (cases hc; done) | skip
 rename_i e ht
 split at hc <;> first | (cases hc; done) | skip
 rename_i hx
 obtain ⟨h1,h2,h3,h4⟩:=hx
 obtain ⟨ps,hp,rfl⟩:=Option.map_eq_some_iff.1 hc
 by_cases hm:(hand Ou || hand (Ou + 1 + e))=true
 ·simp only [hm,if_true,Zc] at h ⊢
  split at h <;> first | (cases h; done) | skip
  rename_i vs hv
  split at h <;> first | (cases h; done) | skip
  rename_i hall
  cases h
  exact (Zk0 hG hI hop ht h1 h2 h4 hp hv hall).fit
 ·simp only [if_neg hm,Zc] at h ⊢
  split at h <;> first | (cases h; done) | skip
  rename_i vs hv
  split at h
  ·rename_i hall
   cases h
   exact (ZrV hG hI hop ht h1 h2 h3 h4 hp hv hall).fit
  ·split at h <;> first | (cases h; done) | skip
   rename_i hall
   cases h
   exact (Zk0 hG hI hop ht h1 h2 h4 hp hv hall).fit
theorem ZpE (hG:GOk G E.W0)(hI:Inv E s Γ a w){t:TypeId}{p:Operand}(hop:o.op=.load t p)(hc:cOp P hand draw o=some ao)(h:Zc G call s ao=some (v,s')):KP P E Γ s s' v a w o ao:=by
 simp only [cOp,hop] at hc
 split at hc <;> first | (cases hc; done) | skip
 rename_i p' hp
 split at hc
 ·rename_i ht
  obtain rfl:=Option.some.inj hc
  simp only [Zc] at h
  split at h <;> first | (cases h; done) | skip
  rename_i x hx
  replace h:=YN h; obtain ⟨h,hss⟩:=h
  subst hss
  exact (ZrS hG hI hop ht hp hx h).fit hI
 ·rename_i ht
  have ht:J8 P t=false:=by simpa using ht
  split at hc <;> first | (cases hc; done) | skip
  rename_i hu
  split at hc
  ·obtain rfl:=Option.some.inj hc
   simp only [Zc] at h
   split at h <;> first | (cases h; done) | skip
   rename_i g q hx
   split at h <;> first | (cases h; done) | skip
   rename_i cs t' hg
   split at h <;> first | (cases h; done) | skip
   rename_i u hv
   cases h
   exact (ZrU hG hI hop ht hu hp hx hg hv).fit
  ·obtain rfl:=Option.some.inj hc
   simp only [Zc] at h
   split at h <;> first | (cases h; done) | skip
   rename_i x hx
   replace h:=YN h; obtain ⟨h,hss⟩:=h
   subst hss
   exact (ZrT hG hI hop ht hu hp hx h).fit hI
theorem ZmV (hG:GOk G E.W0)(hI:Inv E s Γ a w){t:TypeId}{p x:Operand}(hop:o.op=.store t p x)(hc:cOp P hand draw o=some ao)(h:Zc G call s ao=some (v,s')):KP P E Γ s s' v a w o ao:=by
 simp only [cOp,hop] at hc
 split at hc
 ·cases hc
 rename_i hti
 have hi:∃ i,P.info? t=some i:=by
  cases hq:P.info? t with
  | none=>rw [hq] at hti; exact absurd rfl hti
  | some i=>exact ⟨i,rfl⟩
 obtain ⟨i,hi⟩:=hi
 split at hc <;> first | (cases hc; done) | skip
 rename_i p' hp
 have st:∀ {y},ZK P t x=some y→Zc G call s (.st (P.cellsOf t) p' y)=some (v,s')→KP P E Γ s s' v a w o (.st (P.cellsOf t) p' y):=by
  intro y hy h
  simp only [Zc] at h
  split at h <;> first | (cases h; done) | skip
  rename_i g q u hpp hx
  split at h <;> first | (cases h; done) | skip
  ·rename_i cs t' hg
   split at h <;> first | (cases h; done) | skip
   rename_i hn
   cases h
   exact (Zuc hG hI hi hop hp hy hpp hx hg hn).fit
  ·rename_i l t' e0 m hg
   split at h <;> first | (cases h; done) | skip
   rename_i hn
   cases h
   exact (ZrW hG hI hi hop hp hy hpp hx hg hn).fit
 split at hc
 ·rename_i hag
  simp only [Bool.and_eq_true,Bool.not_eq_true',beq_iff_eq] at hag
  split at hc
  ·rename_i sl hsl
   have hx:x=.tmp sl:=by
    cases x <;> simp only [Zmx] at hsl <;> first | (cases hsl; done) | (cases hsl; rfl)
   subst hx
   obtain rfl:=Option.some.inj hc
   simp only [Zc] at h
   split at h <;> first | (cases h; done) | skip
   rename_i g q u hpp hx
   split at h <;> first | (cases h; done) | skip
   rename_i cs t' hg
   split at h <;> first | (cases h; done) | skip
   rename_i hn
   cases h
   exact (ZrX hG hI hi hag.2 hop hp hpp hx hg hn).fit
  ·obtain ⟨y,hy,rfl⟩:=Option.map_eq_some_iff.1 hc
   exact st hy h
 ·obtain ⟨y,hy,rfl⟩:=Option.map_eq_some_iff.1 hc
  exact st hy h
theorem F5 (hG:GOk G E.W0)(hI:Inv E s Γ a w)(hop:(∃ x,o.op=.nilCheck x)∨(∃ op t x y t',o.op=.binOp op t x y t')∨(∃ op t x,o.op=.unOp op t x))(hc:cOp P hand draw o=some ao)(h:Zc G call s ao=some (v,s')):KP P E Γ s s' v a w o ao:=by
 rcases hop with ⟨x,hop⟩ | ⟨op,t,x,y,t',hop⟩ | ⟨op,t,x,hop⟩
 ·simp only [cOp,hop] at hc
  obtain ⟨y,hy,rfl⟩:=Option.map_eq_some_iff.1 hc
  simp only [Zc] at h
  split at h <;> first | (cases h; done) | skip
  ·rename_i hx; cases h; exact (Fz hG hI hop hy hx (.inl ⟨_,rfl⟩)).fit hI
  ·rename_i hx; cases h; exact (Fz hG hI hop hy hx (.inr (.inl ⟨_,_,rfl⟩))).fit hI
  ·rename_i hx; cases h; exact (Fz hG hI hop hy hx (.inr (.inr ⟨_,_,_,rfl⟩))).fit hI
 ·simp only [cOp,hop] at hc
  split at hc <;> first | (cases hc; done) | skip
  rename_i sh x' y' h1 h2 h3
  obtain rfl:=Option.some.inj hc
  simp only [Zc] at h
  split at h <;> first | (cases h; done) | skip
  rename_i u u' hx hy
  replace h:=YN h; obtain ⟨h,hss⟩:=h
  subst hss
  exact (ZrO hG hI hop h1 h2 h3 hx hy h).fit hI
 ·simp only [cOp,hop] at hc
  obtain ⟨y,hy,rfl⟩:=Option.map_eq_some_iff.1 hc
  simp only [Zc] at h
  split at h <;> first | (cases h; done) | skip
  rename_i u hx
  replace h:=YN h; obtain ⟨h,hss⟩:=h
  subst hss
  exact (Zud hG hI hop hy hx h).fit hI
theorem Zil (hG:GOk G E.W0)(hI:Inv E s Γ a w){src dst:TypeId}{x:Operand}(hop:o.op=.convert src dst x)(hc:cOp P hand draw o=some ao)(h:Zc G call s ao=some (v,s')):KP P E Γ s s' v a w o ao:=by
 simp only [cOp,hop] at hc
 split at hc <;> first | (cases hc; done) | skip
 ·rename_i x' k k' hx' hs hd
  obtain rfl:=Option.some.inj hc
  simp only [Zc] at h
  split at h <;> first | (cases h; done) | skip
  rename_i u hu
  replace h:=YN h; obtain ⟨h,hss⟩:=h
  subst hss
  cases u <;> simp only [QL] at h <;> first | (cases h; done) | skip
  obtain rfl:=Option.some.inj h
  exact (Zf0 hG hI hop hs hd hx' hu).fit
 ·rename_i x' hx' hs hd
  obtain rfl:=Option.some.inj hc
  simp only [Zc] at h
  split at h <;> first | (cases h; done) | skip
  rename_i u hu
  replace h:=YN h; obtain ⟨h,hss⟩:=h
  subst hss
  cases u <;> simp only [QL] at h <;> first | (cases h; done) | skip
  obtain rfl:=Option.some.inj h
  exact (Zf1 hG hI hop hs hd hx' hu).fit
 ·rename_i x' e hx' hs hd
  split at hc <;> first | (cases hc; done) | skip
  rename_i he
  obtain rfl:=Option.some.inj hc
  simp only [Zc] at h
  split at h <;> first | (cases h; done) | skip
  rename_i u hu
  replace h:=YN h; obtain ⟨h,hss⟩:=h
  subst hss
  cases u <;> simp only [QL] at h <;> first | (cases h; done) | skip
  obtain rfl:=Option.some.inj h
  exact (Zch hG hI hop hs hd he hx' hu).fit
 ·rename_i x' e hx' hs hd
  split at hc <;> first | (cases hc; done) | skip
  rename_i he
  obtain rfl:=Option.some.inj hc
  simp only [Zc] at h
  split at h <;> first | (cases h; done) | skip
  rename_i u hu
  replace h:=YN h; obtain ⟨h,hss⟩:=h
  subst hss
  simp only [QL] at h
  split at h <;> first | (cases h; done) | skip
  rename_i r hr
  obtain ⟨l,hl,rfl⟩:=Option.map_eq_some_iff.1 h
  exact (Fv hG hI hop hs hd he hx' hu hr hl).fit
theorem Zf4 (hG:GOk G E.W0)(hI:Inv E s Γ a w)(hop:(∃ fn x y,o.op=.makeFunc fn x y)∨(∃ t r,o.op=.makeMap t r)∨(∃ t l c,o.op=.makeSlice t l c))(hc:cOp P hand draw o=some ao)(h:Zc G call s ao=some (v,s')):KP P E Γ s s' v a w o ao:=by
 rcases hop with ⟨fn,x,y,hop⟩ | ⟨t,r,hop⟩ | ⟨t,l,c,hop⟩
 ·cases fn with
  | func f =>
   simp only [cOp,hop] at hc
   split at hc <;> first | (cases hc; done) | skip
   rename_i us vs h1 h2
   obtain rfl:=Option.some.inj hc
   simp only [Zc] at h
   split at h <;> first | (cases h; done) | skip
   rename_i u1 u2 h3 h4
   cases h
   exact (Zp8 hG hI hop h1 h2 h3 h4).fit
  | _=>simp only [cOp,hop] at hc; cases hc
 ·cases r with
  | none =>
   simp only [cOp,hop] at hc
   obtain rfl:=Option.some.inj hc
   simp only [Zc] at h
   cases h
   exact (ZmO hI hop).fit
  | some r=>simp only [cOp,hop] at hc; cases hc
 ·have fin:∀ {e:TypeId} {z:AV} {i:TypeInfo} {n:Yl},P.underlying t=some (.slice e)→zeroOf P e=some z→P.info? e=some i→(z.cells.all AV.one=true∧z.cells.length=i.size∧i.bytes≤16384∧0 < i.size) →
    (∀ kd m,opnd G s.sl n=some (.int kd m)→a.eval l=.int kd m∧a.eval c=.int kd m)→Zc G call s (.mksl e z.cells n)=some (v,s')→KP P E Γ s s' v a w o (.mksl e z.cells n):=by
   intro e z i n ht hz hi hx hev h
   simp only [Zc] at h
   split at h <;> first | (cases h; done) | skip
   rename_i kd m hm
   split at h <;> first | (cases h; done) | skip
   rename_i hb
   cases h
   exact (Zp9 hI ⟨l,c,hop,(hev kd m hm).1,(hev kd m hm).2⟩ ht hi hz hx.1 hx.2.1 hx.2.2.2 hx.2.2.1 hb.1 hb.2).fit
  have slot:∀ {q:Nat} {kd:IntKind} {m:Int},opnd G s.sl (.tmp q)=some (.int kd m)→a.eval (.tmp q)=.int kd m:=fun {q kd m} hm=>by
   have:=(Zm (P := P) (t := 0) (x := .tmp q) (y := .tmp q) hG hI rfl hm).1
   generalize a.eval (.tmp q)=u at this
   cases this; rfl
  cases l <;> cases c <;> simp only [cOp,hop] at hc <;> first | (cases hc; done) | skip
  ·split at hc <;> first | (cases hc; done) | skip
   rename_i hlc
   subst hlc
   split at hc <;> first | (cases hc; done) | skip
   rename_i e ht
   split at hc <;> first | (cases hc; done) | skip
   rename_i z i hz hi
   split at hc <;> first | (cases hc; done) | skip
   rename_i hx
   obtain rfl:=Option.some.inj hc
   exact fin ht hz hi hx (fun kd m hm=>⟨slot hm,slot hm⟩) h
  ·rename_i x y
   cases x <;> cases y <;> simp only at hc <;> first | (cases hc; done) | skip
   split at hc <;> first | (cases hc; done) | skip
   rename_i hlc
   obtain ⟨rfl,rfl⟩:=hlc
   split at hc <;> first | (cases hc; done) | skip
   rename_i e ht
   split at hc <;> first | (cases hc; done) | skip
   rename_i z i hz hi
   split at hc <;> first | (cases hc; done) | skip
   rename_i hx
   obtain rfl:=Option.some.inj hc
   exact fin ht hz hi hx (fun kd m hm=>by cases hm; exact ⟨rfl,rfl⟩) h
theorem ZmU (hG:GOk G E.W0)(hI:Inv E s Γ a w){t:TypeId}{x:Operand}{lo hi mx:Option Operand}(hop:o.op=.slice t x lo hi mx)(hc:cOp P hand draw o=some ao)(h:Zc G call s ao=some (v,s')):KP P E Γ s s' v a w o ao:=by
 cases mx with
 | some m =>
  cases lo with
  | some l=>simp only [cOp,hop] at hc; cases hc
  | none =>
   cases hi with
   | none=>simp only [cOp,hop] at hc; cases hc
   | some hi =>
    simp only [cOp,hop] at hc
    split at hc <;> first | (cases hc; done) | skip
    rename_i sh x' hi' mx' h1 h2 h3 h4
    obtain rfl:=Option.some.inj hc
    simp only [Zc] at h
    split at h <;> first | (cases h; done) | skip
    rename_i u vh vm k1 k2 k3
    replace h:=YN h; obtain ⟨h,hss⟩:=h
    subst hss
    exact (Zk2 hG hI hop h1 h2 h3 h4 k1 k2 k3 h).fit hI
 | none =>
  simp only [cOp,hop] at hc
  split at hc <;> first | (cases hc; done) | skip
  rename_i sh x' lo' hi' h1 h2 h3 h4
  obtain rfl:=Option.some.inj hc
  simp only [Zc] at h
  split at h <;> first | (cases h; done) | skip
  rename_i u vl vh k1 k2 k3
  replace h:=YN h; obtain ⟨h,hss⟩:=h
  subst hss
  exact (ok_slice hG hI hop h1 h2 h3 h4 k1 k2 k3 h).fit hI
theorem Zci (hG:GOk G E.W0)(hI:Inv E s Γ a w)(hop:(∃ t x f,o.op=.fieldAddr t x f)∨(∃ t x f,o.op=.field t x f)∨(∃ t x i,o.op=.indexAddr t x i)∨(∃ t x i,o.op=.index t x i))(hc:cOp P hand draw o=some ao)(h:Zc G call s ao=some (v,s')):KP P E Γ s s' v a w o ao:=by
 rcases hop with ⟨t,x,f,hop⟩ | ⟨t,x,f,hop⟩ | ⟨t,x,i,hop⟩ | ⟨t,x,i,hop⟩
 ·simp only [cOp,hop] at hc
  split at hc <;> first | (cases hc; done) | skip
  rename_i off n agg x' h1 h2
  obtain rfl:=Option.some.inj hc
  simp only [Zc] at h
  split at h <;> first | (cases h; done) | skip
  rename_i u hx
  replace h:=YN h; obtain ⟨h,hss⟩:=h
  subst hss
  exact (ZtZ hG hI hop h1 h2 hx h).fit hI
 ·simp only [cOp,hop] at hc
  split at hc <;> first | (cases hc; done) | skip
  rename_i off n agg x' h1 h2
  obtain rfl:=Option.some.inj hc
  simp only [Zc] at h
  split at h <;> first | (cases h; done) | skip
  rename_i u hx
  replace h:=YN h; obtain ⟨h,hss⟩:=h
  subst hss
  exact (ZrQ hG hI hop h1 h2 hx h).fit hI
 ·simp only [cOp,hop] at hc
  split at hc <;> first | (cases hc; done) | skip
  all_goals
   rename_i x' i' h1 h2 h3
   obtain rfl:=Option.some.inj hc
   simp only [Zc] at h
   split at h <;> first | (cases h; done) | skip
   rename_i u n hx hi
   replace h:=YN h; obtain ⟨h,hss⟩:=h
   subst hss
   exact (Zua hG hI hop h1 h2 h3 hx hi h).fit hI
 ·simp only [cOp,hop] at hc
  split at hc <;> first | (cases hc; done) | skip
  rename_i x' i' h1 h2 h3
  obtain rfl:=Option.some.inj hc
  simp only [Zc] at h
  split at h <;> first | (cases h; done) | skip
  rename_i u n hx hi
  replace h:=YN h; obtain ⟨h,hss⟩:=h
  subst hss
  exact (ZrR hG hI hop h1 h2 h3 hx hi h).fit hI
theorem Zoc (hG:GOk G E.W0)(hI:Inv E s Γ a w)(hop:(∃ t x i ok,o.op=.lookup t x i ok)∨(∃ t m k x,o.op=.mapUpdate t m k x))(hc:cOp P hand draw o=some ao)(h:Zc G call s ao=some (v,s')):KP P E Γ s s' v a w o ao:=by
 rcases hop with ⟨t,x,i,ok,hop⟩ | ⟨t,m,k,x,hop⟩
 ·simp only [cOp,hop] at hc
  split at hc <;> first | (cases hc; done) | skip
  rename_i kt et ht
  split at hc <;> first | (cases hc; done) | skip
  rename_i sh z x' i' h1 h2 h3 h4
  split at hc <;> first | (cases hc; done) | skip
  rename_i hz
  obtain rfl:=Option.some.inj hc
  simp only [Zc] at h
  split at h <;> first | (cases h; done) | skip
  rename_i u n hx hi
  replace h:=YN h; obtain ⟨h,hss⟩:=h
  subst hss
  exact (Zp7 hG hI hop ht h1 h2 hz h3 h4 hx hi h).fit
 ·simp only [cOp,hop] at hc
  split at hc <;> first | (cases hc; done) | skip
  rename_i kt et ht
  split at hc <;> first | (cases hc; done) | skip
  rename_i sh m' k' x' h1 h2 h3 h4
  obtain rfl:=Option.some.inj hc
  simp only [Zc] at h
  split at h <;> first | (cases h; done) | skip
  rename_i g ka va hm hk hv
  split at h <;> first | (cases h; done) | skip
  rename_i es hg
  split at h <;> first | (cases h; done) | skip
  rename_i hf
  simp only [Bool.and_eq_true] at hf
  split at h <;> first | (cases h; done) | skip
  rename_i es' hu
  cases h
  exact (ZpA hG hI hop ht h1 h2 h3 h4 hm hk hv hg hf.1 hf.2 (Zab hu) hu).fit
theorem Zf3 (hG:GOk G E.W0)(hI:Inv E s Γ a w)(hop:(∃ t x,o.op=.range t x)∨(∃ x b,o.op=.next x b)∨(∃ x i,o.op=.extract x i))(hc:cOp P hand draw o=some ao)(h:Zc G call s ao=some (v,s')):KP P E Γ s s' v a w o ao:=by
 rcases hop with ⟨t,x,hop⟩ | ⟨x,b,hop⟩ | ⟨x,i,hop⟩
 ·simp only [cOp,hop] at hc
  split at hc <;> first | (cases hc; done) | skip
  rename_i ht
  obtain ⟨x',hx',rfl⟩:=Option.map_eq_some_iff.1 hc
  simp only [Zc] at h
  split at h <;> first | (cases h; done) | skip
  rename_i l hx
  cases h
  exact (ZmQ hG hI hop ht hx' hx).fit
 ·cases b with
  | false=>simp only [cOp,hop] at hc; cases hc
  | true =>
   simp only [cOp,hop] at hc
   obtain ⟨x',hx',rfl⟩:=Option.map_eq_some_iff.1 hc
   simp only [Zc] at h
   split at h <;> first | (cases h; done) | skip
   rename_i g hx
   split at h <;> first | (cases h; done) | skip
   rename_i l pos hg
   split at h
   ·rename_i hlt
    cases h
    exact (ZpB hG hI hop hx' hx hg hlt).fit
   ·rename_i hlt
    cases h
    exact (Zf2 hG hI hop hx' hx hg hlt).fit
 ·simp only [cOp,hop] at hc
  obtain ⟨x',hx',rfl⟩:=Option.map_eq_some_iff.1 hc
  simp only [Zc] at h
  split at h <;> first | (cases h; done) | skip
  rename_i vs hx
  obtain ⟨u,h1,h2⟩:=Option.map_eq_some_iff.1 h
  cases h2
  exact (Zii hG hI hop hx' hx h1).fit hI
end
end Go.Proofs.YthkdlifcknpadaaGreat.Abs
end
section
namespace Go.Proofs.YthkdlifcknpadaaGreat.Abs
open Go Go.RowKit
def Zox (P:Program)(f:FuncId)(xs:Array Value)(w:World)(R:Value→World→Prop):Prop :=
 (callFunc f xs).run P w=.ok (.enter f xs) w∧Calls P f xs w fun e w''=>∃ v,e=.returned v∧R v w''
theorem Zox.mono {P:Program}{f:FuncId}{xs:Array Value}{w:World}{R R':Value→World→Prop}(h:Zox P f xs w R)(hr:∀ v w',R v w'→R' v w'):Zox P f xs w R' :=
 ⟨h.1,h.2.mono fun _ w'' ⟨v,hv,h⟩=>⟨v,hv,hr v w'' h⟩⟩
structure Tidy (Γ:Zu)(n:Nat):Prop where
 res:∀ b m,Γ b≠.list m .res
 arg:∀ b m j,Γ b≠.list m (.arg j)
 cell:∀ b m g i,Γ b=.list m (.cell g i)→g < n
def ZT (P:Program)(W0:World)(F:FuncId→List AV→List Zh→Option (AV×List Zh×Eff)):Prop :=
 ∀ f args hp v hp' e,F f args hp=some (v,hp',e)→∀ (Γ:Zu) (w:World) (xs:Array Value),RW W0 Γ w hp→Tidy Γ hp.length→xs.size=args.length →
  (∀ j x,args[j]? = some x→Rep Γ w x (xs.getD j Go.undef)∧OwnAt Γ w (.slot j) x (xs.getD j Go.undef)) →
  Zox P f xs w fun cv w'=>∃ Γ',RW W0 Γ' w' hp'∧Rep Γ' w' v cv∧OwnAt Γ' w' .res v cv∧Frame Γ w Γ' w' e∧hp.length≤hp'.length∧∀ b g,Γ' b=.own g→g < hp.length→Γ b=.own g
theorem QR.own {o g:Nat}:¬ QR o (.own g):=fun h=>h
theorem RW.alike {W0 w:World}{Γ Γ':Zu}{hp:List Zh}(h:RW W0 Γ w hp)(hf:Yn Γ w Γ' w)(ho:∀ b g,Γ b=.own g↔Γ' b=.own g)
  (hc:∀ b n g i,g < hp.length→Γ b=.list n (.cell g i)→Γ' b=.list n (.cell g i)) (hi:∀ b,Γ b=.imm→Γ' b=.imm):RW W0 Γ' w hp:=by
 have hom:YB Γ Γ':=fun b g hb=>(ho b g).1 hb
 refine ⟨fun g o hg=>?_,fun b b' g h1 h2=>h.inj b b' g ((ho b g).2 h1) ((ho b' g).2 h2),fun b hb=>hi b (h.fresh b hb),fun b g hb=>h.lt b g ((ho b g).2 hb),h.old,fun b hb=>hi b (h.oldImm b hb),fun g hg b hb=>h.dead g hg b ((ho b g).2 hb)⟩
 have hlt:=Zn hg
 have:=h.objs g o hg
 cases o with
 | dead=>trivial
 | cells cs t =>
  obtain ⟨b,C,h1,h2,h3,h4⟩:=this
  refine ⟨b,C,hom b g h1,h2,h3,fun i c hc'=>?_⟩
  obtain ⟨a1,a2,a3⟩:=h4 i c hc'
  exact ⟨a1,a2.mono hf hom,a3.mono hf hom fun b n hb=>⟨hc b n g i hlt hb,rfl⟩⟩
 | map es =>
  obtain ⟨b,ms,clk,h1,h2,h3,h4⟩:=this
  exact ⟨b,ms,clk,hom b g h1,h2,h3,h4⟩
 | iter s pos =>
  obtain ⟨b,h1,h2⟩:=this
  exact ⟨b,hom b g h1,h2⟩
 | buf _ _ _ _ =>
  obtain ⟨b,C,h1,h2,h3⟩:=this
  exact ⟨b,C,hom b g h1,h2,h3.mono fun b n i hb=>⟨hc b n g i hlt hb,rfl⟩⟩
def XB (n:Nat):Kind→Kind
 | .list m (.slot _)=>.list m .outer
 | .list m .res=>.list m .outer
 | .list m (.arg j)=>.list m (.slot j)
 | .list m (.cell g i)=>if g < n then .list m (.cell g i) else .imm
 | k=>k
def Sr:Kind→Kind→Kind
 | .list m (.slot t),_=>.list m (.slot t)
 | _,.list _ (.slot _)=>.imm
 | _,.list _ (.arg _)=>.imm
 | _,k=>k
theorem Ci {n o:Nat}{k:Kind}(h:QR o k):QR o (XB n k):=by
 cases k with
 | imm=>trivial
 | own g=>exact h.elim
 | list m l =>
  cases l <;> simp only [XB] <;> first | exact h | skip
  split
  ·exact h
  ·trivial
theorem Dq {n g:Nat}{k:Kind}:k=.own g↔XB n k=.own g:=by
 cases k with
 | imm=>simp [XB]
 | own g=>simp [XB]
 | list m l =>
  cases l <;> simp only [XB] <;> try simp
  split <;> simp
theorem Zlh {n:Nat}{k:Kind}(h:k=.imm):XB n k=.imm:=by subst h; rfl
theorem Zli (Γ:Zu)(n:Nat):Tidy (fun b=>XB n (Γ b)) n:=by
 refine ⟨fun b m h=>?_,fun b m j h=>?_,fun b m g i h=>?_⟩ <;> revert h <;> cases Γ b with
 | imm=>simp [XB]
 | own g=>simp [XB]
 | list m l =>
  cases l <;> simp only [XB] <;> try simp
  try (split <;> simp <;> try omega)
theorem RW.seen {W0 w:World}{Γ:Zu}{hp:List Zh}(h:RW W0 Γ w hp):RW W0 (fun b=>XB hp.length (Γ b)) w hp :=
 h.alike (fun _ _ _ h1 h2=>⟨Ci h1,h2⟩) (fun _ _=>Dq) (fun b n g i hl hb=>by simp [hb,XB,hl]) (fun _=>Zlh)
end Go.Proofs.YthkdlifcknpadaaGreat.Abs
end
section
namespace Go.Proofs.YthkdlifcknpadaaGreat.Abs
open Go Go.RowKit
section
variable {P:Program}{G:Nat→Option (List AV)}{E:Entry}{s:Za}{Γ:Zu}{a:Act}{w:World}
theorem Inv.hand (h:Inv E s Γ a w)(m:Loc)(t:Nat){v:AV}(hv:s.sl[t]? = some v) :
  ∃ Γ',Inv E (s.let_ t) Γ' a w∧Rep Γ' w v (a.tmps.getD t Go.undef)∧OwnAt Γ' w m v (a.tmps.getD t Go.undef)∧Yn Γ w Γ' w∧YB Γ Γ'∧∀ b n j,Γ b=.list n (.arg j)→Γ' b=.list n (.arg j):=by
 have f1:=QW (Γ := Γ) (w := w) (l := .slot t) (W9 (l := m))
 have o1:YB Γ (relab Γ (.slot t) (II m)):=WO
 refine ⟨relab Γ (.slot t) (II m),⟨h.defers,⟨by simpa [Za.let_] using h.slots.size,fun u x hx=>?_,fun u x hx=>?_⟩,h.rw.relab W9 YZ (by simp),h.fr.relab (l := .slot t) W9 trivial,h.base,h.base2,h.le,fun b g hb=>h.back b g (Yv YZ hb)⟩,?_,?_,f1,o1,fun b n j hb=>Qo hb (by simp)⟩
 ·simp only [Za.let_,List.getElem?_modify] at hx
  obtain ⟨y,hy,e⟩:=Option.map_eq_some_iff.1 hx
  have:=(h.slots.rep u y hy).mono f1 o1
  split at e
  ·subst e; exact this.ro
  ·subst e; exact this
 ·simp only [Za.let_,List.getElem?_modify] at hx
  obtain ⟨y,hy,e⟩:=Option.map_eq_some_iff.1 hx
  split at e
  ·subst e; exact .of_ro _ _ _ _ _
  ·rename_i ne
   subst e
   exact (h.slots.own u y hy).mono f1 o1 fun b n hb=>⟨Qo hb (by simp; omega),rfl⟩
 ·exact (h.slots.rep t v hv).mono f1 o1
 ·exact (h.slots.own t v hv).mono f1 o1 fun b n hb=>⟨Di hb,rfl⟩
theorem Zb1 (hG:GOk G E.W0):∀ {args:List (Nat ⊕ Yl)} {ts:List TypeId} {xs:List Operand} {hand:Nat→Bool} {vs sl:List AV} (k:Nat) {s:Za} {Γ:Zu},Inv E s Γ a w→BD P hand ts xs=some args→WQ G s.sl args=some (vs,sl) →
  ∃ Γ',Inv E { s with sl:=sl } Γ' a w∧Yn Γ w Γ' w∧YB Γ Γ'∧(∀ b n j,j < k→Γ b=.list n (.arg j)→Γ' b=.list n (.arg j))∧vs.length=xs.length ∧
   ∀ j v,vs[j]? = some v→∃ x,xs[j]? = some x∧Rep Γ' w v (a.eval x)∧OwnAt Γ' w (.arg (k + j)) v (a.eval x):=by
 intro args
 induction args with
 | nil =>
  intro ts xs hand vs sl k s Γ hI hc h
  simp only [WQ,Option.some.injEq,Prod.mk.injEq] at h
  obtain ⟨rfl,rfl⟩:=h
  have:xs=[]:=by
   cases xs with
   | nil=>rfl
   | cons x xs =>
    cases ts with
    | nil=>simp [BD] at hc
    | cons t ts =>
     simp only [BD] at hc
     split at hc <;> simp at hc
  subst this
  exact ⟨Γ,hI,.refl _ _,.refl _,fun _ _ _ _ h=>h,rfl,fun j v hv=>by simp at hv⟩
 | cons p args ih =>
  intro ts xs hand vs sl k s Γ hI hc h
  cases xs with
  | nil=>cases ts <;> simp [BD] at hc
  | cons x xs =>
   cases ts with
   | nil=>simp [BD] at hc
   | cons t ts =>
    simp only [BD] at hc
    split at hc
    case h_2=>cases hc
    rename_i y l hy hl
    obtain ⟨rfl,rfl⟩:=List.cons.inj (Option.some.inj hc)
    have step:∀ (v:AV) (s1:Za) (Γ1:Zu) (vs1:List AV),Inv E s1 Γ1 a w→s1.hp=s.hp→s1.ef=s.ef→s1.bs=s.bs→Yn Γ w Γ1 w→YB Γ Γ1→(∀ b n j,j < k→Γ b=.list n (.arg j)→Γ1 b=.list n (.arg j)) →
      Rep Γ1 w v (a.eval x)→OwnAt Γ1 w (.arg k) v (a.eval x)→WQ G s1.sl l=some (vs1,sl)→vs=v :: vs1 →
      ∃ Γ',Inv E { s with sl:=sl } Γ' a w∧Yn Γ w Γ' w∧YB Γ Γ'∧(∀ b n j,j < k→Γ b=.list n (.arg j)→Γ' b=.list n (.arg j))∧vs.length=(x :: xs).length ∧
       ∀ j v,vs[j]? = some v→∃ x',(x :: xs)[j]? = some x'∧Rep Γ' w v (a.eval x')∧OwnAt Γ' w (.arg (k + j)) v (a.eval x'):=by
     intro v s1 Γ1 vs1 i1 e1 e2 e3 f1 o1 k1 r1 w1 h1 hvs
     obtain ⟨Γ2,i2,f2,o2,k2,hlen,hall⟩:=ih (k + 1) i1 hl h1
     subst hvs
     refine ⟨Γ2,by rw [← e1,← e2,← e3]; exact i2,f1.trans f2,o1.trans o2,fun b n j hj hb=>k2 b n j (by omega) (k1 b n j hj hb),by simp [hlen],fun j u hu=>?_⟩
     cases j with
     | zero =>
      obtain rfl:=Option.some.inj hu
      exact ⟨x,rfl,r1.mono f2 o2,w1.mono f2 o2 fun b n hb=>⟨k2 b n k (by omega) hb,rfl⟩⟩
     | succ j =>
      obtain ⟨x',hx',hr,ho⟩:=hall j u (by simpa using hu)
      exact ⟨x',by simpa using hx',hr,by rw [show k + (j + 1)=k + 1 + j by omega]; exact ho⟩
    have plain:∀ (q:Yl),ZK P t x=some q∨(∃ i,x=.tmp i∧q=.tmp i)→y=.inr q →
      ∃ Γ',Inv E { s with sl:=sl } Γ' a w∧Yn Γ w Γ' w∧YB Γ Γ'∧(∀ b n j,j < k→Γ b=.list n (.arg j)→Γ' b=.list n (.arg j))∧vs.length=(x :: xs).length ∧
       ∀ j v,vs[j]? = some v→∃ x',(x :: xs)[j]? = some x'∧Rep Γ' w v (a.eval x')∧OwnAt Γ' w (.arg (k + j)) v (a.eval x'):=by
     intro q hq hp
     subst hp
     have hq:ZK P t x=some q:=by
      rcases hq with h | ⟨i,rfl,rfl⟩
      ·exact h
      ·rfl
     simp only [WQ] at h
     split at h
     case h_2=>cases h
     rename_i v hv
     obtain ⟨p1,h1,h2⟩:=Option.map_eq_some_iff.1 h
     obtain ⟨rfl,rfl⟩:=Prod.mk.inj h2
     exact step v s Γ p1.1 hI rfl rfl rfl (.refl _ _) (.refl _) (fun _ _ _ _ h=>h) (Zm hG hI hq hv).1 (Zjb hG hI _ hq hv) h1 rfl
    split at hy
    ·rename_i i
     split at hy
     ·obtain rfl:=Option.some.inj hy
      simp only [WQ] at h
      split at h
      case h_2=>cases h
      rename_i v hv
      obtain ⟨p1,h1,h2⟩:=Option.map_eq_some_iff.1 h
      obtain ⟨rfl,rfl⟩:=Prod.mk.inj h2
      obtain ⟨Γ1,i1,r1,w1,f1,o1,k1⟩:=hI.hand (.arg k) i hv
      exact step v (s.let_ i) Γ1 p1.1 i1 rfl rfl rfl f1 o1 (fun b n j _ hb=>k1 b n j hb) r1 w1 h1 rfl
     ·exact plain _ (.inr ⟨i,rfl,rfl⟩) (Option.some.inj hy).symm
    ·obtain ⟨q,hq,rfl⟩:=Option.map_eq_some_iff.1 hy
     exact plain q (.inl hq) rfl
theorem NM {s:Za}{e:Eff}{g:Nat}(hg:g < s.bs)(h:Ik (s.after e) g):Ik s.ef g∧Ik e g:=by
 cases e with
 | none=>exact ⟨h,fun _ _ e=>by cases e⟩
 | some p =>
  obtain ⟨x,y⟩:=p
  simp only [Za.after] at h
  split at h
  ·obtain ⟨h1,h2⟩:=ZeE h
   exact ⟨h1,fun _ _ e=>by cases e; exact h2⟩
  ·exact ⟨h,fun _ _ e=>by cases e; omega⟩
theorem Inv.called (hI:Inv E s Γ a w){Γ':Zu}{w':World}{hp:List Zh}{e:Eff}{v:AV}{cv:Value}(hr:RW E.W0 Γ' w' hp)(hv:Rep Γ' w' v cv)(ho:OwnAt Γ' w' .res v cv)
  (hf:Frame (fun b=>XB s.hp.length (Γ b)) w Γ' w' e) (hle:s.hp.length≤hp.length∧∀ b g,Γ' b=.own g→g < s.hp.length→XB s.hp.length (Γ b)=.own g) :
  ∃ Γ'',Inv E { sl := s.sl,hp := hp,ef := s.after e,bs := s.bs } Γ'' a w'∧Rep Γ'' w' v cv∧OwnAt Γ'' w' .res v cv:=by
 have lt:∀ b,Γ b≠.imm→b < w.heap.size:=fun b hb=>by
  rcases Nat.lt_or_ge b w.heap.size with h' | h'
  ·exact h'
  ·exact absurd (hI.rw.fresh b h') hb
 have slot:∀ b m t,Γ b=.list m (.slot t)→Γ' b=.list m .outer∧w'.heap[b]? = w.heap[b]?:=fun b m t hb=>by
  obtain ⟨e1,e2⟩:=hf.keep b (lt b (by rw [hb]; simp)) (by simp only [hb,XB,Kept])
  exact ⟨by rw [e1]; simp [hb,XB],e2⟩
 have back:∀ b,(∃ m t,Γ b=.list m (.slot t)∧Γ' b=.list m .outer∧Sr (Γ b) (Γ' b)=.list m (.slot t))∨((∀ m t,Γ b≠.list m (.slot t))∧∀ k,(∀ m t,k≠.list m (.slot t))→(∀ m t,k≠.list m (.arg t))→Γ' b=k→Sr (Γ b) (Γ' b)=k):=by
  intro b
  cases hb:Γ b with
  | imm=>refine .inr ⟨by simp,fun k h1 h2 h3=>?_⟩; subst h3; cases hg:Γ' b with
   | list m l=>rw [hg] at h1 h2; cases l <;> first | rfl | exact absurd rfl (h1 _ _) | exact absurd rfl (h2 _ _)
   | _=>rfl
  | own g=>refine .inr ⟨by simp,fun k h1 h2 h3=>?_⟩; subst h3; cases hg:Γ' b with
   | list m l=>rw [hg] at h1 h2; cases l <;> first | rfl | exact absurd rfl (h1 _ _) | exact absurd rfl (h2 _ _)
   | _=>rfl
  | list n q =>
   cases q with
   | slot t=>exact .inl ⟨n,t,rfl,(slot b n t hb).1,rfl⟩
   | _ =>
    refine .inr ⟨by simp,fun k h1 h2 h3=>?_⟩; subst h3; cases hg:Γ' b with
    | list m l=>rw [hg] at h1 h2; cases l <;> first | rfl | exact absurd rfl (h1 _ _) | exact absurd rfl (h2 _ _)
    | _=>rfl
 have imm':∀ b,(∀ m t,Γ b≠.list m (.slot t))→(∃ m t,Γ' b=.list m (.slot t))∨(∃ m t,Γ' b=.list m (.arg t))→Sr (Γ b) (Γ' b)=.imm:=by
  intro b h h2
  cases hb:Γ b with
  | imm=>rcases h2 with ⟨m,t,e⟩ | ⟨m,t,e⟩ <;> rw [e] <;> rfl
  | own g=>rcases h2 with ⟨m,t,e⟩ | ⟨m,t,e⟩ <;> rw [e] <;> rfl
  | list n q=>cases q with
   | slot t=>exact absurd hb (h n t)
   | _=>rcases h2 with ⟨m,t,e⟩ | ⟨m,t,e⟩ <;> rw [e] <;> rfl
 have f3:Yn Γ' w' (fun b=>Sr (Γ b) (Γ' b)) w':=by
  intro b o v h1 h2
  refine ⟨?_,h2⟩
  unfold IC at h1 ⊢
  rcases back b with ⟨m,t,e1,e2,e3⟩ | ⟨h,h'⟩
  ·show QR o (Sr (Γ b) (Γ' b))
   rw [e3]
   rw [e2] at h1
   exact h1
  ·show QR o (Sr (Γ b) (Γ' b))
   by_cases hs:(∃ m t,Γ' b=.list m (.slot t))∨(∃ m t,Γ' b=.list m (.arg t))
   ·rw [imm' b h hs]; trivial
   ·rw [h' (Γ' b) (fun m t e=>hs (.inl ⟨m,t,e⟩)) (fun m t e=>hs (.inr ⟨m,t,e⟩)) rfl]; exact h1
 have own':∀ b g,Γ' b=.own g↔Sr (Γ b) (Γ' b)=.own g:=by
  intro b g
  rcases back b with ⟨m,t,e1,e2,e3⟩ | ⟨h,h'⟩
  ·rw [e3,e2]; simp
  ·by_cases hs:(∃ m t,Γ' b=.list m (.slot t))∨(∃ m t,Γ' b=.list m (.arg t))
   ·rw [imm' b h hs]
    rcases hs with ⟨m,t,e⟩ | ⟨m,t,e⟩ <;> rw [e] <;> simp
   ·rw [h' (Γ' b) (fun m t e=>hs (.inl ⟨m,t,e⟩)) (fun m t e=>hs (.inr ⟨m,t,e⟩)) rfl]
 have keepL:∀ b k,(∀ m,k≠.list m .outer)→(∀ m t,k≠.list m (.slot t))→(∀ m t,k≠.list m (.arg t))→Γ' b=k→Sr (Γ b) (Γ' b)=k:=by
  intro b k h0 h1 h2 hb
  rcases back b with ⟨m,t,e1,e2,e3⟩ | ⟨h,h'⟩
  ·rw [e2] at hb; exact absurd hb.symm (h0 m)
  ·exact h' k h1 h2 hb
 have o3:YB Γ' (fun b=>Sr (Γ b) (Γ' b)):=fun b g hb=>(own' b g).1 hb
 have f1:Yn Γ w (fun b=>XB s.hp.length (Γ b)) w:=fun _ _ _ h1 h2=>⟨Ci h1,h2⟩
 have o1:YB Γ (fun b=>XB s.hp.length (Γ b)):=fun b g hb=>Dq.1 hb
 have fAll:=(f1.trans hf.fix).trans f3
 have oAll:=(o1.trans hf.own).trans o3
 refine ⟨fun b=>Sr (Γ b) (Γ' b),⟨hI.defers,⟨hI.slots.size,fun t x hx=>(hI.slots.rep t x hx).mono fAll oAll,fun t x hx=>(hI.slots.own t x hx).mono fAll oAll fun b n hb=>?_⟩,?_,?_,hI.base,hI.base2,Nat.le_trans hI.le hle.1,fun b g hb hl=>hI.back b g (Dq.2 (hle.2 b g ((own' b g).2 hb) (Nat.lt_of_lt_of_le hl hI.le))) hl⟩,hv.mono f3 o3,ho.mono f3 o3 fun b n hb=>⟨keepL b _ (by simp) (by simp) (by simp) hb,rfl⟩⟩
 ·refine ⟨?_,(slot b n t hb).2⟩
  show Sr (Γ b) (Γ' b)=_
  rw [hb]; rfl
 ·exact hr.alike f3 own' (fun b n g i _ hb=>keepL b _ (by simp) (by simp) (by simp) hb) (fun b hb=>keepL b _ (by simp) (by simp) (by simp) hb)
 ·refine ⟨hf.os.trans hI.fr.os,hf.tape.trans hI.fr.tape,hf.output.trans hI.fr.output,Nat.le_trans hI.fr.size hf.size,hI.fr.fix.trans fAll,hI.fr.own.trans oAll,fun b hb hk=>?_⟩
  have hb':=Nat.lt_of_lt_of_le hb hI.fr.size
  cases hg:E.Γ0 b with
  | imm =>
   obtain ⟨e1,e2⟩:=hI.fr.keep b hb (by rw [hg]; trivial)
   rw [hg] at e1
   obtain ⟨e3,e4⟩:=hf.keep b hb' (by simp only [e1,XB,Kept])
   simp only [e1,XB] at e3
   exact ⟨keepL b _ (by simp) (by simp) (by simp) e3,e4.trans e2⟩
  | own g =>
   rw [hg] at hk
   obtain ⟨s1,s2⟩:=NM (hI.base b g hg) hk
   obtain ⟨e1,e2⟩:=hI.fr.keep b hb (by rw [hg]; exact s1)
   rw [hg] at e1
   obtain ⟨e3,e4⟩:=hf.keep b hb' (by simp only [e1,XB,Kept]; exact s2)
   simp only [e1,XB] at e3
   exact ⟨keepL b _ (by simp) (by simp) (by simp) e3,e4.trans e2⟩
  | list n m =>
   rw [hg] at hk
   cases m with
   | outer =>
    obtain ⟨e1,e2⟩:=hI.fr.keep b hb (by rw [hg]; trivial)
    rw [hg] at e1
    obtain ⟨e3,e4⟩:=hf.keep b hb' (by simp only [e1,XB,Kept])
    simp only [e1,XB] at e3
    refine ⟨?_,e4.trans e2⟩
    show Sr (Γ b) (Γ' b)=_
    rw [e1,e3]; rfl
   | cell g i =>
    have hgb:=hI.base2 b n g i hg
    obtain ⟨s1,s2⟩:=NM hgb hk
    obtain ⟨e1,e2⟩:=hI.fr.keep b hb (by rw [hg]; exact s1)
    rw [hg] at e1
    have hlt:g < s.hp.length:=Nat.lt_of_lt_of_le hgb hI.le
    obtain ⟨e3,e4⟩:=hf.keep b hb' (by simp only [e1,XB,if_pos hlt,Kept]; exact s2)
    simp only [e1,XB,if_pos hlt] at e3
    exact ⟨keepL b _ (by simp) (by simp) (by simp) e3,e4.trans e2⟩
   | slot t=>exact hk.elim
   | res=>exact hk.elim
   | arg j=>exact hk.elim
end
end Go.Proofs.YthkdlifcknpadaaGreat.Abs
end
section
namespace Go.Proofs.YthkdlifcknpadaaGreat.Abs
open Go Go.RowKit
section
variable {P:Program}{G:Nat→Option (List AV)}{call:FuncId→List AV→List Zh→Option (AV×List Zh×Eff)}{E:Entry}{s s':Za}{Γ:Zu}{a:Act}{w:World}{o:Oper}{hand:Nat→Bool}{draw:Bool}{ao:AOp}{v:AV}
theorem Zfc {c:Call}{b:Callee}{xs:List Operand}{ts:List TypeId}(h0:c.callee=b)(h1:c.args.toList=xs)(h2:c.argTypes.toList=ts):c={ callee := b,args := xs.toArray,argTypes := ts.toArray }:=by
 cases c with
 | mk q xs' ts'=>subst h0 h1 h2; simp
theorem Zik (hG:GOk G E.W0)(hI:Inv E s Γ a w){c:Call}(hop:o.op=.call c)(hnv:∀ f,c.callee≠.value f)(hc:cOp P hand draw o=some ao)(h:Zc G call s ao=some (v,s')):KP P E Γ s s' v a w o ao:=by
 simp only [cOp,hop] at hc
 split at hc
 ·rename_i f hf; exact absurd hf (hnv f)
 ·rename_i hf
  split at hc <;> first | (cases hc; done) | skip
  rename_i x t hx ht
  rw [Zfc hf hx ht] at hop
  split at hc <;> first | (cases hc; done) | skip
  all_goals
   rename_i hu
   obtain ⟨x',hx',rfl⟩:=Option.map_eq_some_iff.1 hc
   simp only [Zc] at h
   split at h <;> first | (cases h; done) | skip
   rename_i u hu'
   replace h:=YN h
   obtain ⟨h,hss⟩:=h
   subst hss
  ·exact (Zkz (sh := .str) hG hI hop hu hx' hu' h).fit hI
  ·exact (Zkz (sh := .slice) hG hI hop ⟨_,hu⟩ hx' hu' h).fit hI
  ·exact (Zkz (sh := .map) hG hI hop ⟨_,_,hu⟩ hx' hu' h).fit hI
 ·rename_i hf
  split at hc <;> first | (cases hc; done) | skip
  rename_i q x t u hx ht
  rw [Zfc hf hx ht] at hop
  split at hc <;> first | (cases hc; done) | skip
  rename_i e hu
  split at hc <;> first | (cases hc; done) | skip
  rename_i i z hi hz
  split at hc
  case isFalse =>
   split at hc <;> first | (cases hc; done) | skip
   rename_i hk
   obtain ⟨hk1,hk2,hk3,hk4⟩:=hk
   split at hc <;> first | (cases hc; done) | skip
   rename_i sl x' hx'
   obtain rfl:=Option.some.inj hc
   simp only [Zc] at h
   split at h <;> first | (cases h; done) | skip
   rename_i k' r l hsl hy
   split at h <;> first | (cases h; done) | skip
   rename_i hh
   obtain ⟨rfl,hb⟩:=hh
   cases h
   exact (Zp5 hG hI hop hu (Zmv hk4) hi hz (by rw [hk2,hk1]) hk1 hk3 hx' hsl hy hb).fit
  rename_i hk
  obtain ⟨rfl,hk1,hk2,hk3⟩:=hk
  split at hc <;> first | (cases hc; done) | skip
  ·rename_i sl x' hx'
   obtain rfl:=Option.some.inj hc
   simp only [Zc] at h
   split at h <;> first | (cases h; done) | skip
   rename_i k' r y hsl hy
   split at h <;> first | (cases h; done) | skip
   rename_i k'' r' hr
   split at h <;> first | (cases h; done) | skip
   rename_i hh
   obtain ⟨rfl,rfl,hid,hb⟩:=hh
   cases h
   exact (ZrN hG hI hop hu hi hz hk2 hk1 hk3 hx' hsl hy hr hid hb).fit
  ·rename_i x' hx'
   obtain rfl:=Option.some.inj hc
   simp only [Zc] at h
   split at h <;> first | (cases h; done) | skip
   rename_i y hy
   split at h <;> first | (cases h; done) | skip
   rename_i k'' r' hr
   split at h <;> first | (cases h; done) | skip
   rename_i hh
   obtain ⟨rfl,hid,hb⟩:=hh
   cases h
   exact (Zp4 hG hI hop hu hi hz hk2 hk1 hk3 hx' hy hr hid hb).fit
 ·rename_i hf
  split at hc <;> first | (cases hc; done) | skip
  rename_i q x t u hx ht
  rw [Zfc hf hx ht] at hop
  split at hc <;> first | (cases hc; done) | skip
  rename_i e hu
  split at hc <;> first | (cases hc; done) | skip
  rename_i i hi
  split at hc <;> first | (cases hc; done) | skip
  rename_i hk
  obtain ⟨rfl,hk1⟩:=hk
  split at hc <;> first | (cases hc; done) | skip
  rename_i d' x' hd' hx'
  obtain rfl:=Option.some.inj hc
  simp only [Zc] at h
  split at h <;> first | (cases h; done) | skip
  ·rename_i g off len k'' y hd hy
   split at h <;> first | (cases h; done) | skip
   rename_i k' r cs t' hr hg
   split at h <;> first | (cases h; done) | skip
   rename_i hh
   obtain ⟨rfl,rfl,hfit,hone⟩:=hh
   cases h
   exact (Zp6 hG hI hop hu hi hk1 hd' hx' hd hy hr hg hfit hone).fit
  ·rename_i k'' y hd hy
   split at h <;> first | (cases h; done) | skip
   rename_i k' r hr
   split at h <;> first | (cases h; done) | skip
   rename_i hh
   subst hh
   cases h
   exact (ZmJ hG hI hop hu hi hd' hx' hd hy hr).fit
 ·rename_i hf
  split at hc <;> first | (cases hc; done) | skip
  rename_i t l ht
  split at hc <;> first | (cases hc; done) | skip
  obtain ⟨ps,hps,rfl⟩:=Option.map_eq_some_iff.1 hc
  simp only [Zc] at h
  split at h <;> first | (cases h; done) | skip
  rename_i n vs hv
  obtain ⟨r,hr,e⟩:=Option.map_eq_some_iff.1 h
  cases e
  exact (ZdR (isMax := false) hG hI (by rw [hop]; cases c; simp only at hf; subst hf; rfl) hps hv hr).fit
 ·rename_i hf
  split at hc <;> first | (cases hc; done) | skip
  rename_i t l ht
  split at hc <;> first | (cases hc; done) | skip
  obtain ⟨ps,hps,rfl⟩:=Option.map_eq_some_iff.1 hc
  simp only [Zc] at h
  split at h <;> first | (cases h; done) | skip
  rename_i n vs hv
  obtain ⟨r,hr,e⟩:=Option.map_eq_some_iff.1 h
  cases e
  exact (ZdR (isMax := true) hG hI (by rw [hop]; cases c; simp only at hf; subst hf; rfl) hps hv hr).fit
 ·cases hc
theorem Zob (hG:GOk G E.W0)(hI:Inv E s Γ a w)(hnv:∀ c f,o.op=.call c→c.callee≠.value f)(hc:cOp P hand draw o=some ao)(h:Zc G call s ao=some (v,s')):KP P E Γ s s' v a w o ao:=by
 cases hop:o.op with
 | move x=>exact ZpF hG hI hop hc h
 | assign x=>exact Zk5 hG hI hop hc h
 | pick c x y=>exact ZpG hG hI hop hc h
 | alloc e=>exact Zod hG hI (.inl ⟨_,hop⟩) hc h
 | box e x=>exact Zod hG hI (.inr ⟨_,_,hop⟩) hc h
 | build t ps=>exact ZmT hG hI hop hc h
 | buildSlice t n ps=>exact Zsa hG hI hop hc h
 | load t p=>exact ZpE hG hI hop hc h
 | store t p x=>exact ZmV hG hI hop hc h
 | nilCheck x=>exact F5 hG hI (.inl ⟨_,hop⟩) hc h
 | binOp op t x y t'=>exact F5 hG hI (.inr (.inl ⟨_,_,_,_,_,hop⟩)) hc h
 | unOp op t x=>exact F5 hG hI (.inr (.inr ⟨_,_,_,hop⟩)) hc h
 | convert src dst x=>exact Zil hG hI hop hc h
 | makeFunc fn x y=>exact Zf4 hG hI (.inl ⟨_,_,_,hop⟩) hc h
 | makeMap t r=>exact Zf4 hG hI (.inr (.inl ⟨_,_,hop⟩)) hc h
 | makeSlice t l c=>exact Zf4 hG hI (.inr (.inr ⟨_,_,_,hop⟩)) hc h
 | slice t x lo hi mx=>exact ZmU hG hI hop hc h
 | fieldAddr t x f=>exact Zci hG hI (.inl ⟨_,_,_,hop⟩) hc h
 | field t x f=>exact Zci hG hI (.inr (.inl ⟨_,_,_,hop⟩)) hc h
 | indexAddr t x i=>exact Zci hG hI (.inr (.inr (.inl ⟨_,_,_,hop⟩))) hc h
 | index t x i=>exact Zci hG hI (.inr (.inr (.inr ⟨_,_,_,hop⟩))) hc h
 | lookup t x i ok=>exact Zoc hG hI (.inl ⟨_,_,_,_,hop⟩) hc h
 | mapUpdate t m k x=>exact Zoc hG hI (.inr ⟨_,_,_,_,hop⟩) hc h
 | range t x=>exact Zf3 hG hI (.inl ⟨_,_,hop⟩) hc h
 | next x b=>exact Zf3 hG hI (.inr (.inl ⟨_,_,hop⟩)) hc h
 | extract x i=>exact Zf3 hG hI (.inr (.inr ⟨_,_,hop⟩)) hc h
 | call c=>exact Zik hG hI hop (fun f=>hnv c f hop) hc h
 | _=>simp [cOp,hop] at hc
end
end Go.Proofs.YthkdlifcknpadaaGreat.Abs
end
section
namespace Go.Proofs.YthkdlifcknpadaaGreat.Abs
open Go Go.RowKit
section
variable {P:Program}{G:Nat→Option (List AV)}{call:FuncId→List AV→List Zh→Option (AV×List Zh×Eff)}{E:Entry}{s s':Za}{Γ:Zu}{a:Act}{w:World}{o:Oper}{hand:Nat→Bool}{draw:Bool}{ao:AOp}{v:AV}
theorem Gv {x:AV}{k:Nat}{r:List (List AV)}:x.nm≠.own k r:=by cases x <;> simp [AV.nm]
theorem three {first vs caps:List AV}{fv cv:Array Value}{xs:Array Value}(h1:fv.size=first.length)(h2:xs.size=vs.length)(h3:cv.size=caps.length){R:Nat→AV→Value→Prop}
  (k1:∀ j x,first[j]? = some x→R j x.nm (fv.getD j Go.undef)) (k2:∀ j x,vs[j]? = some x→R (first.length + j) x (xs.getD j Go.undef)) (k3:∀ j x i,caps[j]? = some x→R i x.nm (cv.getD j Go.undef)) :
  ((fv ++ xs) ++ cv).size=(first.map AV.nm ++ vs ++ caps.map AV.nm).length∧∀ j x,(first.map AV.nm ++ vs ++ caps.map AV.nm)[j]? = some x→R j x (((fv ++ xs) ++ cv).getD j Go.undef):=by
 refine ⟨by simp [h1,h2,h3],fun j x hx=>?_⟩
 have hget:∀ i,((fv ++ xs) ++ cv).getD i Go.undef=if i < first.length then fv.getD i Go.undef else if i < first.length + vs.length then xs.getD (i - first.length) Go.undef else cv.getD (i - (first.length + vs.length)) Go.undef:=by
  intro i
  simp only [Array.getD_eq_getD_getElem?,Array.getElem?_append,Array.size_append,h1,h2]
  split
  ·split
   ·rfl
   ·rfl
  ·rename_i hge
   rw [if_neg (by omega)]
 rw [hget]
 by_cases c1:j < first.length
 ·rw [if_pos c1]
  rw [List.append_assoc,List.getElem?_append_left (by simpa using c1),List.getElem?_map] at hx
  obtain ⟨y,hy,rfl⟩:=Option.map_eq_some_iff.1 hx
  exact k1 j y hy
 ·rw [if_neg c1]
  by_cases c2:j < first.length + vs.length
  ·rw [if_pos c2]
   rw [List.append_assoc,List.getElem?_append_right (by simpa using c1),List.getElem?_append_left (by simp; omega)] at hx
   simp only [List.length_map] at hx
   have:=k2 _ x hx
   rwa [show first.length + (j - first.length)=j by omega] at this
  ·rw [if_neg c2]
   rw [List.getElem?_append_right (by simp; omega),List.getElem?_map] at hx
   simp only [List.length_append,List.length_map] at hx
   obtain ⟨y,hy,rfl⟩:=Option.map_eq_some_iff.1 hx
   exact k3 _ y j hy
theorem ZgE {c:Call}{f:Operand}(hop:o.op=.call c)(hcal:c.callee=.value f){g:FuncId}{fv cv:Array Value}(hf:a.eval f=.func (.func g) fv cv)(w:World) :
  (execOp a.eval o).run P w=(callFunc g ((fv ++ c.args.map a.eval) ++ cv)).run P w:=by
 simp only [execOp,hop]
 simp only [resolve,hcal,Deferred.ofValue,hf,Sem.run_bind,Sem.run_pure,Result.andThen_ok,invoke]
theorem ZpD (hG:GOk G E.W0)(hS:ZT P E.W0 call)(hI:Inv E s Γ a w){c:Call}{f:Operand}(hop:o.op=.call c)(hcal:c.callee=.value f)(hc:cOp P hand draw o=some ao)(h:Zc G call s ao=some (v,s'))
  {K:Act→World→Prop} {Q:Exit→Act→World→Prop} (hK:∀ Γ' cv w',Inv E s' Γ' a w'→Rep Γ' w' v cv→OwnAt Γ' w' .res v cv→K (a.put o.dst cv) w'):o.wp P a w K Q:=by
 simp only [cOp,hop,hcal] at hc
 split at hc <;> first | (cases hc; done) | skip
 rename_i f' args hf hargs
 obtain rfl:=Option.some.inj hc
 simp only [Zc] at h
 split at h <;> first | (cases h; done) | skip
 rename_i g first caps vs sl hfv hvs
 split at h <;> first | (cases h; done) | skip
 rename_i u hp e hcall
 cases h
 obtain ⟨Γ1,i1,f1,o1,_,hlen,hall⟩:=Zb1 hG first.length hI hargs hvs
 have hfn:=((Zm hG hI hf hfv).1).mono f1 o1
 generalize hq:a.eval f=q at hfn
 cases hfn with
 | fn _ _ _ fv cv hs1 hr1 hs hr =>
  have f2:Yn Γ1 w (fun b=>XB s.hp.length (Γ1 b)) w:=fun _ _ _ h1 h2=>⟨Ci h1,h2⟩
  have o2:YB Γ1 (fun b=>XB s.hp.length (Γ1 b)):=fun b g hb=>Dq.1 hb
  obtain ⟨t1,t2⟩:=three (first := first) (vs := vs) (caps := caps) (fv := fv) (cv := cv) (xs := c.args.map a.eval) hs1 (by simp [hlen]) hs
   (R := fun j x y=>Rep (fun b=>XB s.hp.length (Γ1 b)) w x y∧OwnAt (fun b=>XB s.hp.length (Γ1 b)) w (.slot j) x y)
   (fun j x hx=>⟨((hr1 j x hx).mono f2 o2).nm,.of_ne fun _ _=>Gv⟩)
   (fun j x hx=>by
    obtain ⟨y,hy,hr,ho⟩:=hall j x hx
    have:(c.args.map a.eval).getD j Go.undef=a.eval y:=by
     rw [Array.getElem?_toList] at hy
     rw [Array.getD_eq_getD_getElem?,Array.getElem?_map,hy]; rfl
    rw [this]
    exact ⟨hr.mono f2 o2,ho.mono f2 o2 fun b n hb=>⟨by simp [hb,XB],rfl⟩⟩)
   (fun j x i hx=>⟨((hr j x hx).mono f2 o2).nm,.of_ne fun _ _=>Gv⟩)
  have hw:=hS g _ _ _ _ _ hcall _ w _ i1.rw.seen (Zli Γ1 _) t1 t2
  unfold Oper.wp
  rw [ZgE hop hcal hq]
  have fin:∀ cv w',(∃ Γ',RW E.W0 Γ' w' hp∧Rep Γ' w' v cv∧OwnAt Γ' w' .res v cv∧Frame (fun b=>XB s.hp.length (Γ1 b)) w Γ' w' e∧s.hp.length≤hp.length∧∀ b g,Γ' b=.own g→g < s.hp.length→XB s.hp.length (Γ1 b)=.own g)→K (a.put o.dst cv) w':=by
   rintro cv w' ⟨Γ',r1,r2,r3,r4,r5⟩
   obtain ⟨Γ'',j1,j2,j3⟩:=i1.called r1 r2 r3 r4 r5
   exact hK Γ'' cv w' j1 j2 j3
  obtain ⟨hrun,hw⟩:=hw
  rw [hrun,Oper.upon_enter]
  refine hw.mono fun en w'' ⟨cv',hv,hR⟩=>?_
  subst hv
  exact fin cv' w'' hR
theorem Zk7 (hG:GOk G E.W0)(hS:ZT P E.W0 call)(hI:Inv E s Γ a w)(hc:cOp P hand draw o=some ao)(h:Zc G call s ao=some (v,s'))
  {K:Act→World→Prop} {Q:Exit→Act→World→Prop} (hK:∀ Γ' cv w',Inv E s' Γ' a w'→Rep Γ' w' v cv→OwnAt Γ' w' .res v cv→K (a.put o.dst cv) w'):o.wp P a w K Q:=by
 by_cases hv:∃ c f,o.op=.call c∧c.callee=.value f
 ·obtain ⟨c,f,h1,h2⟩:=hv
  exact ZpD hG hS hI h1 h2 hc h hK
 ·exact (Zob hG hI (fun c f h1 h2=>hv ⟨c,f,h1,h2⟩) hc h).1.wp hK
structure Behind (W w:World):Prop where
 os:w.os=W.os
 tape:w.tape=W.tape
 output:w.output=W.output
 size:W.heap.size≤w.heap.size
 upon:Upon W w
theorem Behind.inv (hI:Inv E s Γ a w){w':World}(h:Behind w w'):Inv E s Γ a w' :=
 hI.plain (X := fun _=>False) ⟨h.os,h.tape,h.output,h.size,fun b hb _=>⟨rfl,h.upon b hb⟩,fun _ _ _ h1 h2=>⟨h1,h.upon.cell h2⟩,.refl _⟩ (fun _ hx=>hx.elim) (fun _ _ h=>h) (fun b hb=>hI.rw.fresh b (Nat.le_trans h.size hb))
def XV (n:Nat):Kind→Kind
 | .list m (.cell g i)=>if g < n then .list m (.cell g i) else .imm
 | .list m _=>.list m .outer
 | k=>k
theorem Zbf {n o:Nat}{k:Kind}(h:QR o k):QR o (XV n k):=by
 cases k with
 | imm=>trivial
 | own g=>exact h.elim
 | list m l =>
  cases l <;> simp only [XV] <;> first | exact h | skip
  split
  ·exact h
  ·trivial
theorem Zbg {n g:Nat}{k:Kind}:k=.own g↔XV n k=.own g:=by
 cases k with
 | imm=>simp [XV]
 | own g=>simp [XV]
 | list m l =>
  cases l <;> simp only [XV] <;> try simp
  split <;> simp
theorem Zi0 (Γ:Zu)(n:Nat):Tidy (fun b=>XV n (Γ b)) n:=by
 refine ⟨fun b m h=>?_,fun b m j h=>?_,fun b m g i h=>?_⟩ <;> revert h <;> cases Γ b with
 | imm=>simp [XV]
 | own g=>simp [XV]
 | list m l =>
  cases l <;> simp only [XV] <;> try simp
  try (split <;> simp <;> try omega)
theorem Ziz (n:Nat)(k:Kind):Kept none (XV n k):=by
 cases k with
 | imm=>trivial
 | own g=>exact fun _ _ e=>by cases e
 | list m l =>
  cases l <;> simp only [XV] <;> try trivial
  split
  ·exact fun _ _ e=>by cases e
  ·trivial
theorem RW.quiet {W0 w:World}{Γ:Zu}{hp:List Zh}(h:RW W0 Γ w hp):RW W0 (fun b=>XV hp.length (Γ b)) w hp :=
 h.alike (fun _ _ _ h1 h2=>⟨Zbf h1,h2⟩) (fun _ _=>Zbg) (fun b n g i hl hb=>by simp [hb,XV,hl]) (fun b hb=>by simp [hb,XV])
theorem ZaH (hG:GOk G E.W0)(hI:Inv E s Γ a w):∀ {args:List (Nat ⊕ Yl)} {ts:List TypeId} {xs:List Operand} {hand:Nat→Bool} {vs sl:List AV},BD P hand ts xs=some args→noHand (.call (.glob 0) args)=true →
  WQ G s.sl args=some (vs,sl)→sl=s.sl∧vs.length=xs.length∧∀ (j:Nat) (v:AV),vs[j]? = some v→∃ x,xs[j]? = some x∧Rep Γ w v (a.eval x)∧∀ k r,v=.own k r→r=[]∧a.eval x=.slice none 0 0:=by
 intro args
 induction args with
 | nil =>
  intro ts xs hand vs sl hc _ h
  simp only [WQ,Option.some.injEq,Prod.mk.injEq] at h
  obtain ⟨rfl,rfl⟩:=h
  have:xs=[]:=by
   cases xs with
   | nil=>rfl
   | cons x xs =>
    cases ts with
    | nil=>simp [BD] at hc
    | cons t ts =>
     simp only [BD] at hc
     split at hc <;> simp at hc
  subst this
  exact ⟨rfl,rfl,fun j v hv=>by simp at hv⟩
 | cons p args ih =>
  intro ts xs hand vs sl hc hq h
  cases xs with
  | nil=>cases ts <;> simp [BD] at hc
  | cons x xs =>
   cases ts with
   | nil=>simp [BD] at hc
   | cons t ts =>
    simp only [BD] at hc
    split at hc
    case h_2=>cases hc
    rename_i y l hy hl
    obtain ⟨rfl,rfl⟩:=List.cons.inj (Option.some.inj hc)
    simp only [noHand,List.all_cons,Bool.and_eq_true] at hq
    cases y with
    | inl i=>exact absurd hq.1 (by simp)
    | inr q =>
     have hqx:ZK P t x=some q:=by
      split at hy
      ·rename_i i
       split at hy
       ·cases hy
       ·cases hy; rfl
      ·obtain ⟨q',h1,h2⟩:=Option.map_eq_some_iff.1 hy
       cases h2; exact h1
     simp only [WQ] at h
     split at h
     case h_2=>cases h
     rename_i v hv
     obtain ⟨p1,h1,h2⟩:=Option.map_eq_some_iff.1 h
     obtain ⟨rfl,rfl⟩:=Prod.mk.inj h2
     obtain ⟨e1,e2,e3⟩:=ih hl hq.2 h1
     obtain ⟨r1,r2⟩:=Zm hG hI hqx hv
     refine ⟨e1,by simp [e2],fun j u hu=>?_⟩
     cases j with
     | zero =>
      obtain rfl:=Option.some.inj hu
      exact ⟨x,rfl,r1,r2⟩
     | succ j =>
      obtain ⟨x',hx',hr⟩:=e3 j u (by simpa using hu)
      exact ⟨x',by simpa using hx',hr⟩
theorem Gq {Γ Γ':Zu}{w w':World}{v:AV}{cv:Value}(h:Rep Γ w v cv)(hf:v.flat1=true):Rep Γ' w' v cv:=by
 rw [h.conc1 hf]; exact XR hf Γ' w'
theorem ZgT {Γ Γ':Zu}{w w':World}{v:AV}{cv:Value}(h:Rep Γ w v cv)(hf:v.flat=true):Rep Γ' w' v cv:=by
 cases h with
 | agg cells cv hs h1 hn hr =>
  simp only [AV.flat,List.all_eq_true] at hf
  exact .agg cells cv hs h1 hn fun j c hc=>Gq (hr j c hc) (hf c (List.mem_of_getElem? hc))
 | tup vs cv hs hr =>
  simp only [AV.flat,List.all_eq_true] at hf
  exact .tup vs cv hs fun j c hc=>Gq (hr j c hc) (hf c (List.mem_of_getElem? hc))
 | fn f fst caps fv cv hs1 hr1 hs hr=>exact Gq (Rep.fn f fst caps fv cv hs1 hr1 hs hr) hf
 | undef=>exact .undef
 | bool=>exact .bool _
 | int=>exact .int _ _
 | str=>exact .str _
 | nilp=>exact .nilp
 | nilf=>exact .nilf
 | nilm=>exact .nilm
 | nili=>exact .nili
 | _=>cases hf
theorem Behind.refl (w:World):Behind w w:=⟨rfl,rfl,rfl,Nat.le_refl _,.refl w⟩
theorem Zme {v:AV}(h:v.flat=true):∀ k r,v≠.own k r:=by cases v <;> first | (cases h; done) | simp
theorem Zhi (hG:GOk G E.W0)(hS:ZT P E.W0 call)(hI:Inv E s Γ a w)(hc:cOp P hand draw o=some ao)(hq:FN ao=true)(hn:noHand ao=true)(h:Zc G (WX call) s ao=some (v,s'))
  {K:Act→Prop} (hK:∀ cv,s'=s→Rep Γ w v cv→(∀ l,OwnAt Γ w l v cv)→K (a.put o.dst cv)):o.quiet P a (Behind w) K:=by
 by_cases hv:∃ c f,o.op=.call c∧c.callee=.value f
 ·obtain ⟨c,f,hop,hcal⟩:=hv
  simp only [cOp,hop,hcal] at hc
  split at hc <;> first | (cases hc; done) | skip
  rename_i f' args hf hargs
  obtain rfl:=Option.some.inj hc
  simp only [Zc] at h
  split at h <;> first | (cases h; done) | skip
  rename_i g first caps vs sl hfv hvs
  split at h <;> first | (cases h; done) | skip
  rename_i u hp e hcall
  cases h
  unfold WX at hcall
  split at hcall <;> first | (cases hcall; done) | skip
  rename_i u' hp1 hcall1
  split at hcall <;> first | (cases hcall; done) | skip
  rename_i hflat
  cases hcall
  obtain ⟨q1,q2,q3⟩:=ZaH hG hI hargs hn hvs
  subst q1
  have main:∀ w',Behind w w'→o.quietAt P a (Behind w) w' v.conc∧∃ Γ' w'',Rep Γ' w'' v v.conc:=by
   intro w' hw'
   have hI':=hw'.inv hI
   obtain ⟨_,_,q3⟩:=ZaH hG hI' hargs hn hvs
   have hfn:=(Zm hG hI' hf hfv).1
   generalize hq:a.eval f=q at hfn
   cases hfn with
   | fn _ _ _ fv cv hs1 hr1 hs hr =>
    have f2:Yn Γ w' (fun b=>XV s.hp.length (Γ b)) w':=fun _ _ _ h1 h2=>⟨Zbf h1,h2⟩
    have o2:YB Γ (fun b=>XV s.hp.length (Γ b)):=fun b g hb=>Zbg.1 hb
    obtain ⟨t1,t2⟩:=three (first := first) (vs := vs) (caps := caps) (fv := fv) (cv := cv) (xs := c.args.map a.eval) hs1 (by simp [q2]) hs
     (R := fun j x y=>Rep (fun b=>XV s.hp.length (Γ b)) w' x y∧OwnAt (fun b=>XV s.hp.length (Γ b)) w' (.slot j) x y)
     (fun j x hx=>⟨((hr1 j x hx).mono f2 o2).nm,.of_ne fun _ _=>Gv⟩)
     (fun j x hx=>by
      obtain ⟨y,hy,hr,ho⟩:=q3 j x hx
      have:(c.args.map a.eval).getD j Go.undef=a.eval y:=by
       rw [Array.getElem?_toList] at hy
       rw [Array.getD_eq_getD_getElem?,Array.getElem?_map,hy]; rfl
      rw [this]
      exact ⟨hr.mono f2 o2,.nil ho⟩)
     (fun j x i hx=>⟨((hr j x hx).mono f2 o2).nm,.of_ne fun _ _=>Gv⟩)
    have hw:=hS g _ _ _ _ _ hcall1 _ w' _ hI'.rw.quiet (Zi0 Γ _) t1 t2
    unfold Oper.quietAt
    rw [ZgE hop hcal hq]
    have fin:∀ cv w'',(∃ Γ',RW E.W0 Γ' w'' hp1∧Rep Γ' w'' v cv∧OwnAt Γ' w'' .res v cv∧Frame (fun b=>XV s.hp.length (Γ b)) w' Γ' w'' none∧s.hp.length≤hp1.length∧∀ b g,Γ' b=.own g→g < s.hp.length→XV s.hp.length (Γ b)=.own g)→cv=v.conc∧Behind w w''∧Upon w' w'':=by
     rintro cv w'' ⟨Γ',r1,r2,r3,r4,r5⟩
     have hup:Upon w' w'':=fun b hb=>(r4.keep b hb (Ziz _ _)).2
     exact ⟨L6 r2 hflat,⟨r4.os.trans hw'.os,r4.tape.trans hw'.tape,r4.output.trans hw'.output,Nat.le_trans hw'.size r4.size,fun b hb=>(hup b (Nat.lt_of_lt_of_le hb hw'.size)).trans (hw'.upon b hb)⟩,hup⟩
    obtain ⟨hrun,hw⟩:=hw
    obtain ⟨en,w1,_,⟨cv1,_,hR1⟩,_⟩:=hw []
    rw [hrun]
    refine ⟨⟨rfl,hw.mono fun en w'' ⟨cv',hv,hR⟩=>?_⟩,?_⟩
    ·subst hv
     obtain ⟨e1,e2,_⟩:=fin cv' w'' hR
     exact ⟨by rw [e1],e2⟩
    ·obtain ⟨e1,_,_⟩:=fin cv1 w1 hR1
     obtain ⟨Γ',_,r2,_⟩:=hR1
     rw [e1] at r2
     exact ⟨Γ',w1,r2⟩
  obtain ⟨Γ',w'',hrep⟩:=(main w (.refl w)).2
  exact ⟨v.conc,fun w' hw'=>(main w' hw').1,hK _ rfl (ZgT hrep hflat) fun l=>.of_ne (Zme hflat)⟩
 ·obtain ⟨h1,h2⟩:=Zob hG hI (fun c f h1 h2=>hv ⟨c,f,h1,h2⟩) hc h
  obtain ⟨e,cv,hr,r1,r2⟩:=h2 hq
  exact ⟨cv,fun w' hw'=>by
   unfold Oper.quietAt
   rw [hr w' hw'.upon]
   exact ⟨rfl,rfl⟩,hK cv e r1 fun l=>.nil r2⟩
end
end Go.Proofs.YthkdlifcknpadaaGreat.Abs
end
section
namespace Go.Proofs.YthkdlifcknpadaaGreat.Abs
open Go Go.RowKit
structure DU (W:List Nat)(f:List AV→List AV):Prop where
 len:∀ l,(f l).length=l.length
 out:∀ (l:List AV) (i:Nat),i ∉ W→(f l)[i]? = l[i]?
 on:∀ (l m:List AV) (i:Nat),i ∈ W→l.length=m.length→l[i]? = m[i]?→(f l)[i]? = (f m)[i]?
theorem DU.id (W:List Nat):DU W id:=⟨fun _=>rfl,fun _ _ _=>rfl,fun _ _ _ _ _ h=>h⟩
theorem DU.set (d:Nat)(v:AV):DU [d] (fun l=>l.set d v):=by
 refine ⟨fun l=>by simp,fun l i hi=>?_,fun l m i hi hl h=>?_⟩
 ·have:d≠i:=fun e=>hi (by simp [e])
  rw [List.getElem?_set_ne this]
 ·have:i=d:=by simpa using hi
  subst this
  simp only [List.getElem?_set_self']
  rw [h]
theorem DU.mod (t:Nat):DU [t] (fun l=>l.modify t AV.ro):=by
 refine ⟨fun l=>by simp,fun l i hi=>?_,fun l m i hi hl h=>?_⟩
 ·have:t≠i:=fun e=>hi (by simp [e])
  rw [List.getElem?_modify]; simp [this]
 ·rw [List.getElem?_modify,List.getElem?_modify,h]
theorem DU.comp {V W:List Nat}{f g:List AV→List AV}(hf:DU V f)(hg:DU W g):DU (W ++ V) (fun l=>g (f l)):=by
 refine ⟨fun l=>by rw [hg.len,hf.len],fun l i hi=>?_,fun l m i hi hl h=>?_⟩
 ·rw [List.mem_append,not_or] at hi
  rw [hg.out _ _ hi.1,hf.out _ _ hi.2]
 ·have hfi:(f l)[i]? = (f m)[i]?:=by
   by_cases h2:i ∈ V
   ·exact hf.on l m i h2 hl h
   ·rw [hf.out _ _ h2,hf.out _ _ h2,h]
  by_cases h1:i ∈ W
  ·exact hg.on _ _ i h1 (by rw [hf.len,hf.len,hl]) hfi
  ·rw [hg.out _ _ h1,hg.out _ _ h1,hfi]
theorem DU.swap {V W:List Nat}{f g:List AV→List AV}(hf:DU V f)(hg:DU W g)(hd:apartB V W=true)(l:List AV):f (g l)=g (f l):=by
 have hd':∀ i,i ∈ V→i ∉ W:=fun i hi hw=>by
  have:=List.all_eq_true.1 hd i hi
  simp at this
  exact this hw
 refine List.ext_getElem? fun i=>?_
 by_cases h1:i ∈ V
 ·have h2:=hd' i h1
  rw [hg.out (f l) i h2,hf.on (g l) l i h1 (hg.len l) (hg.out l i h2)]
 ·rw [hf.out (g l) i h1]
  by_cases h2:i ∈ W
  ·exact (hg.on (f l) l i h2 (hf.len l) (hf.out l i h1)).symm
  ·rw [hg.out l i h2,hg.out (f l) i h2,hf.out l i h1]
def Agree (R:List Nat)(l m:List AV):Prop:=∀ i ∈ R,l[i]? = m[i]?
theorem Agree.left {R S:List Nat}{l m:List AV}(h:Agree (R ++ S) l m):Agree R l m:=fun i hi=>h i (List.mem_append_left _ hi)
theorem Agree.right {R S:List Nat}{l m:List AV}(h:Agree (R ++ S) l m):Agree S l m:=fun i hi=>h i (List.mem_append_right _ hi)
theorem Agree.of_loc {W R:List Nat}{f:List AV→List AV}(hf:DU W f)(hd:apartB W R=true)(l:List AV):Agree R l (f l):=fun i hi=>by
 refine (hf.out l i fun hw=>?_).symm
 have:=List.all_eq_true.1 hd i hw
 simp at this
 exact this hi
theorem Agree.symm {R:List Nat}{l m:List AV}(h:Agree R l m):Agree R m l:=fun i hi=>(h i hi).symm
section
variable {G:Nat→Option (List AV)}
theorem Zv {x:Yl}{l m:List AV}(h:Agree (oR x) l m):opnd G l x=opnd G m x:=by
 cases x with
 | tmp t=>simp only [opnd]; rw [h t (by simp [oR])]
 | const v=>rfl
 | glob g=>rfl
theorem Je:∀ {xs:List Yl} {l m:List AV},Agree (oRs xs) l m→opnds G l xs=opnds G m xs
 | [],_,_,_=>rfl
 | x :: xs,l,m,h=>by
  have h':Agree (oR x ++ oRs xs) l m:=by simpa [oRs] using h
  simp only [opnds]
  rw [Zv h'.left,Je h'.right]
theorem Dc {x:Option Yl}{l m:List AV}(h:Agree (oRo x) l m):optOpnd G l x=optOpnd G m x:=by
 cases x with
 | none=>rfl
 | some x=>simp only [optOpnd]; rw [Zv h]
theorem GK:∀ {args:List (Nat ⊕ Yl)} {l m:List AV} {vs sl:List AV},(args.all fun | .inr _=>true | .inl _=>false)=true →
  Agree (args.flatMap fun x=>match x with | .inl t=>[t] | .inr x=>oR x) l m→WQ G l args=some (vs,sl)→sl=l∧WQ G m args=some (vs,m)
 | [],l,m,vs,sl,_,_,h=>by
  simp only [WQ,Option.some.injEq,Prod.mk.injEq] at h ⊢
  exact ⟨h.2.symm,h.1,trivial⟩
 | .inl t :: args,_,_,_,_,hn,_,_=>by simp at hn
 | .inr x :: args,l,m,vs,sl,hn,ha,h=>by
  simp only [List.all_cons,Bool.and_eq_true] at hn
  have ha':Agree (oR x ++ (args.flatMap fun x=>match x with | .inl t=>[t] | .inr x=>oR x)) l m:=by simpa using ha
  simp only [WQ] at h ⊢
  rw [← Zv (G := G) ha'.left]
  split at h <;> first | (cases h; done) | skip
  rename_i v hv
  obtain ⟨p,h1,h2⟩:=Option.map_eq_some_iff.1 h
  obtain ⟨rfl,rfl⟩:=Prod.mk.inj h2
  obtain ⟨e1,e2⟩:=GK hn.2 ha'.right h1
  refine ⟨e1,?_⟩
  simp only [hv,e2,Option.map_some]
end
def Xm (h h':List Zh):Prop:=(∀ p v,ZN h p=some v→ZN h' p=some v)∧∀ n p v,YA h n p=some v→YA h' n p=some v
theorem Xm.refl (h:List Zh):Xm h h:=⟨fun _ _ h=>h,fun _ _ _ h=>h⟩
theorem Xm.of_get {h h':List Zh}(hg:∀ (g:Nat) (cs:List AV) (t:TypeId),h[g]? = some (Zh.cells cs t)→∃ (cs':List AV) (t':TypeId),h'[g]? = some (Zh.cells cs' t')∧cs'.map AV.ro=cs.map AV.ro)
  (hb:∀ (g:Nat) (l:List UInt8) (t e:TypeId) (m:List AV),h[g]? = some (Zh.buf l t e m)→h'[g]? = some (Zh.buf l t e m)):Xm h h':=by
 refine ⟨fun p v hv=>?_,fun n p v hv=>?_⟩
 ·unfold ZN at hv ⊢
  split at hv <;> first | exact hv | (cases hv; done) | skip
  split at hv <;> first | (cases hv; done) | skip
  ·rename_i g o _ cs t hcs
   obtain ⟨cs',t',h1,h2⟩:=hg _ _ _ hcs
   simp only [h1]
   rw [← List.getElem?_map] at hv ⊢
   rw [h2]; exact hv
  ·rename_i g o _ l t e m hbs
   simp only [hb _ _ _ _ _ hbs]
   exact hv
 ·unfold YA at hv ⊢
  split at hv <;> first | exact hv | (cases hv; done) | skip
  split at hv <;> first | (cases hv; done) | skip
  rename_i g o _ cs t hcs
  obtain ⟨cs',t',h1,h2⟩:=hg _ _ _ hcs
  simp only [h1]
  have hl:cs'.length=cs.length:=by have:=congrArg List.length h2; simpa using this
  rw [hl]
  rw [List.map_take,List.map_drop] at hv ⊢
  rw [h2]; exact hv
theorem Xm.app (h:List Zh)(o:Zh):Xm h (h ++ [o]):=.of_get (fun g cs t hg=>⟨cs,t,by rw [List.getElem?_append_left (List.getElem?_eq_some_iff.1 hg).1]; exact hg,rfl⟩) (fun g l t e m hg=>by rw [List.getElem?_append_left (List.getElem?_eq_some_iff.1 hg).1]; exact hg)
theorem SK (v:AV):v.ro.ro=v.ro:=by cases v <;> rfl
theorem ZaW (cs:List AV)(o:Nat)(v:AV)(h:cs[o]? = some v):(cs.set o v.ro).map AV.ro=cs.map AV.ro:=by
 refine List.ext_getElem? fun i=>?_
 rw [List.getElem?_map,List.getElem?_map,List.getElem?_set]
 split
 ·rename_i e
  subst e
  have hl:=(List.getElem?_eq_some_iff.1 h).1
  rw [if_pos hl,h]
  simp [SK]
 ·rfl
theorem Xm.mark {h:List Zh}{g o:Nat}{cs:List AV}{t:TypeId}{v:AV}(h1:h[g]? = some (.cells cs t))(h2:cs[o]? = some v):Xm h (h.set g (.cells (cs.set o v.ro) t))∧Xm (h.set g (.cells (cs.set o v.ro) t)) h:=by
 have hl:=(List.getElem?_eq_some_iff.1 h1).1
 constructor
 ·refine .of_get (fun g' cs' t' hg=>?_) fun g' l t e m hg=>by
   have hne:g≠g':=fun e=>by subst e; rw [h1] at hg; cases hg
   rw [List.getElem?_set_ne hne]; exact hg
  rw [List.getElem?_set]
  split
  ·rename_i e; subst e
   rw [h1] at hg; cases hg
   exact ⟨cs.set o v.ro,t,by simp [hl],ZaW cs o v h2⟩
  ·exact ⟨_,_,hg,rfl⟩
 ·refine .of_get (fun g' cs' t' hg=>?_) fun g' l t e m hg=>by
   have hne:g≠g':=fun e=>by subst e; rw [List.getElem?_set_self hl] at hg; cases hg
   rw [List.getElem?_set_ne hne] at hg; exact hg
  rw [List.getElem?_set] at hg
  split at hg
  ·rename_i e; subst e
   simp only [hl,if_true,Option.some.injEq,Zh.cells.injEq] at hg
   obtain ⟨rfl,rfl⟩:=hg
   exact ⟨_,_,h1,(ZaW cs o v h2).symm⟩
  ·exact ⟨_,_,hg,rfl⟩
section
variable {G:Nat→Option (List AV)}{call:FuncId→List AV→List Zh→Option (AV×List Zh×Eff)}
def tkF (ao:AOp)(l:List AV):List AV :=
 match Jd ao with
 | [t]=>l.modify t AV.ro
 | _=>l
theorem Zqt (ao:AOp):DU (Jd ao) (tkF ao):=by
 cases ao <;> first | exact DU.id _ | exact DU.mod _
structure RS (G:Nat→Option (List AV))(call:FuncId→List AV→List Zh→Option (AV×List Zh×Eff))(ao:AOp)(k:HK)(s:Za)(v:AV)(s':Za):Prop where
 sl:s'.sl=tkF ao s.sl
 bs:s'.bs=s.bs
 any:∀ t,Agree (Xr ao) s.sl t.sl→t.hp=s.hp→t.ef=s.ef→t.bs=s.bs→Zc G call t ao=some (v,⟨tkF ao t.sl,s'.hp,s'.ef,t.bs⟩)
 still:(match k with | .free | .look | .read=>True | _=>False)→s'.hp=s.hp∧s'.ef=s.ef
 free:k=.free→∀ t,Agree (Xr ao) s.sl t.sl→Zc G call t ao=some (v,⟨tkF ao t.sl,t.hp,t.ef,t.bs⟩)
 look:k=.look→∀ t,Agree (Xr ao) s.sl t.sl→Xm s.hp t.hp→Zc G call t ao=some (v,⟨tkF ao t.sl,t.hp,t.ef,t.bs⟩)
 read:(match k with | .free | .look | .read=>True | _=>False)→∀ t,Agree (Xr ao) s.sl t.sl→t.hp=s.hp→Zc G call t ao=some (v,⟨tkF ao t.sl,t.hp,t.ef,t.bs⟩)
 alloc:k=.alloc→s'.ef=s.ef∧∃ obs,s'.hp=s.hp ++ obs∧∀ t,Agree (Xr ao) s.sl t.sl→t.hp.length=s.hp.length→Zc G call t ao=some (v,⟨tkF ao t.sl,t.hp ++ obs,t.ef,t.bs⟩)
 mark:k=.mark→s'.hp.length=s.hp.length∧Xm s.hp s'.hp∧Xm s'.hp s.hp∧∀ t obs,Agree (Xr ao) s.sl t.sl→t.hp=s.hp ++ obs→t.ef=s.ef→t.bs=s.bs→Zc G call t ao=some (v,⟨tkF ao t.sl,s'.hp ++ obs,s'.ef,t.bs⟩)
theorem RS.of_free {ao:AOp}{s:Za}{v:AV}{s':Za}(h:s'=⟨tkF ao s.sl,s.hp,s.ef,s.bs⟩)(hf:∀ t,Agree (Xr ao) s.sl t.sl→Zc G call t ao=some (v,⟨tkF ao t.sl,t.hp,t.ef,t.bs⟩)):RS G call ao .free s v s':=by
 subst h
 refine ⟨rfl,rfl,fun t ha h1 h2 h3=>?_,fun _=>⟨rfl,rfl⟩,fun _=>hf,(fun h=>by cases h),fun _ t ha _=>hf t ha,(fun h=>by cases h),(fun h=>by cases h)⟩
 rw [hf t ha,h1,h2]
theorem RS.of_read {ao:AOp}{s:Za}{v:AV}{s':Za}(h:s'=⟨tkF ao s.sl,s.hp,s.ef,s.bs⟩)(hf:∀ t,Agree (Xr ao) s.sl t.sl→t.hp=s.hp→Zc G call t ao=some (v,⟨tkF ao t.sl,t.hp,t.ef,t.bs⟩)):RS G call ao .read s v s':=by
 subst h
 refine ⟨rfl,rfl,fun t ha h1 h2 h3=>?_,fun _=>⟨rfl,rfl⟩,(fun h=>by cases h),(fun h=>by cases h),fun _ t ha h1=>hf t ha h1,(fun h=>by cases h),(fun h=>by cases h)⟩
 rw [hf t ha h1,h1,h2]
theorem RS.of_look {ao:AOp}{s:Za}{v:AV}{s':Za}(h:s'=⟨tkF ao s.sl,s.hp,s.ef,s.bs⟩)(hf:∀ t,Agree (Xr ao) s.sl t.sl→Xm s.hp t.hp→Zc G call t ao=some (v,⟨tkF ao t.sl,t.hp,t.ef,t.bs⟩)):RS G call ao .look s v s':=by
 subst h
 refine ⟨rfl,rfl,fun t ha h1 h2 h3=>?_,fun _=>⟨rfl,rfl⟩,(fun h=>by cases h),fun _=>hf,fun _ t ha h1=>hf t ha (h1 ▸ .refl _),(fun h=>by cases h),(fun h=>by cases h)⟩
 rw [hf t ha (h1 ▸ .refl _),h1,h2]
theorem RS.of_set {ao:AOp}{s:Za}{v:AV}{s':Za}(h1:s'.sl=tkF ao s.sl)(h2:s'.bs=s.bs)(hf:∀ t,Agree (Xr ao) s.sl t.sl→t.hp=s.hp→t.ef=s.ef→t.bs=s.bs→Zc G call t ao=some (v,⟨tkF ao t.sl,s'.hp,s'.ef,t.bs⟩)):RS G call ao .set s v s' :=
 ⟨h1,h2,hf,(fun h=>h.elim),(fun h=>by cases h),(fun h=>by cases h),(fun h=>h.elim),(fun h=>by cases h),(fun h=>by cases h)⟩
theorem Qj {α:Type}{x:Option AV}{s:α}{v:AV}{s':α}(h:x.map (·,s)=some (v,s')):x=some v∧s'=s:=by
 cases x with
 | none=>cases h
 | some a=>cases h; exact ⟨rfl,rfl⟩
theorem Zk6 (hq:∀ f args hp v hp' e,call f args hp=some (v,hp',e)→hp'=hp∧e=none){ao:AOp}{k:HK}{s:Za}{v:AV}{s':Za}(hk:hkind ao=some k)(h:Zc G call s ao=some (v,s')):RS G call ao k s v s':=by
 cases ao <;> simp only [hkind,Option.some.injEq,reduceCtorEq] at hk <;> try subst hk
 case un op x =>
  simp only [Zc] at h
  split at h <;> first | (cases h; done) | skip
  rename_i a ha
  obtain ⟨h1,rfl⟩:=Qj h
  refine .of_free rfl fun t ht=>?_
  simp only [Zc,← Zv (G := G) (x := x) ht,ha,h1,Option.map_some]
  rfl
 case fa off x =>
  simp only [Zc] at h
  split at h <;> first | (cases h; done) | skip
  rename_i a ha
  obtain ⟨h1,rfl⟩:=Qj h
  refine .of_free rfl fun t ht=>?_
  simp only [Zc,← Zv (G := G) (x := x) ht,ha,h1,Option.map_some]
  rfl
 case fld off n agg x =>
  simp only [Zc] at h
  split at h <;> first | (cases h; done) | skip
  rename_i a ha
  obtain ⟨h1,rfl⟩:=Qj h
  refine .of_free rfl fun t ht=>?_
  simp only [Zc,← Zv (G := G) (x := x) ht,ha,h1,Option.map_some]
  rfl
 case mv x =>
  simp only [Zc] at h
  obtain ⟨h1,rfl⟩:=Qj h
  refine .of_free rfl fun t ht=>?_
  simp only [Zc,← Zv (G := G) (x := x) ht,h1,Option.map_some]
  rfl
 case take i =>
  simp only [Zc] at h
  split at h <;> first | (cases h; done) | skip
  rename_i a ha
  cases h
  refine .of_free rfl fun t ht=>?_
  simp only [Zc,← ht i (by simp [Xr]),ha]
  rfl
 case pick c a b =>
  simp only [Zc] at h
  split at h <;> first | (cases h; done) | skip
  ·rename_i hc
   obtain ⟨h1,rfl⟩:=Qj h
   refine .of_free rfl fun t ht=>?_
   simp only [Zc,← Zv (G := G) (x := c) ht.left,← Zv (G := G) (x := a) ht.right.left,hc,h1,Option.map_some]
   rfl
  ·rename_i hc
   obtain ⟨h1,rfl⟩:=Qj h
   refine .of_free rfl fun t ht=>?_
   simp only [Zc,← Zv (G := G) (x := c) ht.left,← Zv (G := G) (x := b) ht.right.right,hc,h1,Option.map_some]
   rfl
 case nilchk x =>
  simp only [Zc] at h
  split at h <;> first | (cases h; done) | skip
  all_goals
   rename_i hc
   cases h
   refine .of_free rfl fun t ht=>?_
   simp only [Zc,← Zv (G := G) (x := x) ht,hc]
   rfl
 case extract x i =>
  simp only [Zc] at h
  split at h <;> first | (cases h; done) | skip
  rename_i vs hc
  obtain ⟨u,h1,h2⟩:=Option.map_eq_some_iff.1 h
  cases h2
  refine .of_free rfl fun t ht=>?_
  simp only [Zc,← Zv (G := G) (x := x) ht,hc,h1,Option.map_some]
  rfl
 case slice sh x lo hi =>
  simp only [Zc] at h
  split at h <;> first | (cases h; done) | skip
  rename_i a b c h0 h1 h2
  obtain ⟨h3,rfl⟩:=Qj h
  refine .of_free rfl fun t ht=>?_
  simp only [Zc,← Zv (G := G) (x := x) ht.left,← Dc (G := G) (x := lo) ht.right.left,← Dc (G := G) (x := hi) ht.right.right,h0,h1,h2,h3,Option.map_some]
  rfl
 case slice3 sh x hi mx =>
  simp only [Zc] at h
  split at h <;> first | (cases h; done) | skip
  rename_i a b c h0 h1 h2
  obtain ⟨h3,rfl⟩:=Qj h
  refine .of_free rfl fun t ht=>?_
  simp only [Zc,← Zv (G := G) (x := x) ht.left,← Zv (G := G) (x := hi) ht.right.left,← Zv (G := G) (x := mx) ht.right.right,h0,h1,h2,h3,Option.map_some]
  rfl
 case build zero parts =>
  simp only [Zc] at h
  split at h <;> first | (cases h; done) | skip
  rename_i vs hvs
  obtain ⟨u,h1,h2⟩:=Option.map_eq_some_iff.1 h
  cases h2
  refine .of_free rfl fun t ht=>?_
  simp only [Zc,← Je (G := G) (xs := List.map (fun (p:Nat×Nat×Yl)=>p.2.2) parts) ht,hvs,h1,Option.map_some]
  rfl
 case bin op sh x y =>
  simp only [Zc] at h
  split at h <;> first | (cases h; done) | skip
  rename_i a b ha hb
  obtain ⟨h1,rfl⟩:=Qj h
  refine .of_free rfl fun t ht=>?_
  simp only [Zc,← Zv (G := G) (x := x) ht.left,← Zv (G := G) (x := y) ht.right,ha,hb,h1,Option.map_some]
  rfl
 case ia sh x y =>
  simp only [Zc] at h
  split at h <;> first | (cases h; done) | skip
  rename_i a b ha hb
  obtain ⟨h1,rfl⟩:=Qj h
  refine .of_free rfl fun t ht=>?_
  simp only [Zc,← Zv (G := G) (x := x) ht.left,← Zv (G := G) (x := y) ht.right,ha,hb,h1,Option.map_some]
  rfl
 case idx x y =>
  simp only [Zc] at h
  split at h <;> first | (cases h; done) | skip
  rename_i a b ha hb
  obtain ⟨h1,rfl⟩:=Qj h
  refine .of_free rfl fun t ht=>?_
  simp only [Zc,← Zv (G := G) (x := x) ht.left,← Zv (G := G) (x := y) ht.right,ha,hb,h1,Option.map_some]
  rfl
 case min xs =>
  simp only [Zc] at h
  split at h <;> first | (cases h; done) | skip
  rename_i n l hxs
  obtain ⟨u,h1,h2⟩:=Option.map_eq_some_iff.1 h
  cases h2
  refine .of_free rfl fun t ht=>?_
  simp only [Zc,← Je (G := G) (xs := xs) ht,hxs,h1,Option.map_some]
  rfl
 case max xs =>
  simp only [Zc] at h
  split at h <;> first | (cases h; done) | skip
  rename_i n l hxs
  obtain ⟨u,h1,h2⟩:=Option.map_eq_some_iff.1 h
  cases h2
  refine .of_free rfl fun t ht=>?_
  simp only [Zc,← Je (G := G) (xs := xs) ht,hxs,h1,Option.map_some]
  rfl
 case ldc x =>
  simp only [Zc] at h
  split at h <;> first | (cases h; done) | skip
  rename_i a ha
  obtain ⟨h1,rfl⟩:=Qj h
  refine .of_look rfl fun t ht hl=>?_
  simp only [Zc,← Zv (G := G) (x := x) ht,ha,hl.1 _ _ h1,Option.map_some]
  rfl
 case lda n x =>
  simp only [Zc] at h
  split at h <;> first | (cases h; done) | skip
  rename_i a ha
  obtain ⟨h1,rfl⟩:=Qj h
  refine .of_look rfl fun t ht hl=>?_
  simp only [Zc,← Zv (G := G) (x := x) ht,ha,hl.2 _ _ _ h1,Option.map_some]
  rfl
 case len sh x =>
  simp only [Zc] at h
  split at h <;> first | (cases h; done) | skip
  rename_i a ha
  obtain ⟨h1,rfl⟩:=Qj h
  refine .of_read rfl fun t ht hl=>?_
  have e:Qh t.hp sh a=some v:=by rw [hl]; exact h1
  simp only [Zc,← Zv (G := G) (x := x) ht,ha,e,Option.map_some]
  rfl
 case conv c x =>
  simp only [Zc] at h
  split at h <;> first | (cases h; done) | skip
  rename_i a ha
  obtain ⟨h1,rfl⟩:=Qj h
  refine .of_read rfl fun t ht hl=>?_
  have e:QL t.hp c a=some v:=by rw [hl]; exact h1
  simp only [Zc,← Zv (G := G) (x := x) ht,ha,e,Option.map_some]
  rfl
 case app k b i x =>
  simp only [Zc] at h
  split at h <;> first | (cases h; done) | skip
  rename_i k' r a h0 ha
  split at h <;> first | (cases h; done) | skip
  rename_i k'' r' h1
  split at h <;> first | (cases h; done) | skip
  rename_i hc
  cases h
  refine .of_read rfl fun t ht hl=>?_
  have e0:=ht i (by simp [Xr])
  have e1:Agree (oR x) s.sl t.sl:=fun j hj=>ht j (List.mem_cons_of_mem _ hj)
  have e:rowsOf t.hp a=some (k'',r'):=by rw [hl]; exact h1
  simp only [Zc,← Zv (G := G) (x := x) e1,← e0,h0,ha,e]
  rw [if_pos hc]
  rfl
 case apps b i x =>
  simp only [Zc] at h
  split at h <;> first | (cases h; done) | skip
  rename_i k' r l h0 ha
  split at h <;> first | (cases h; done) | skip
  rename_i hc
  cases h
  refine .of_free rfl fun t ht=>?_
  have e0:=ht i (by simp [Xr])
  have e1:Agree (oR x) s.sl t.sl:=fun j hj=>ht j (List.mem_cons_of_mem _ hj)
  simp only [Zc,← Zv (G := G) (x := x) e1,← e0,h0,ha]
  rw [if_pos hc]
  rfl
 case appn k b x =>
  simp only [Zc] at h
  split at h <;> first | (cases h; done) | skip
  rename_i a ha
  split at h <;> first | (cases h; done) | skip
  rename_i k'' r' h1
  split at h <;> first | (cases h; done) | skip
  rename_i hc
  cases h
  refine .of_read rfl fun t ht hl=>?_
  have e:rowsOf t.hp a=some (k'',r'):=by rw [hl]; exact h1
  simp only [Zc,← Zv (G := G) (x := x) ht,ha,e]
  rw [if_pos hc]
  rfl
 case call f args =>
  split at hk <;> first | (cases hk; done) | skip
  rename_i hn
  cases hk
  simp only [Zc] at h
  split at h <;> first | (cases h; done) | skip
  rename_i g first caps vs sl hf hvs
  split at h <;> first | (cases h; done) | skip
  rename_i u hp e hcall
  cases h
  obtain ⟨rfl,rfl⟩:=hq _ _ _ _ _ _ hcall
  have hall:(args.all fun | .inr _=>true | .inl _=>false)=true:=hn
  obtain ⟨rfl,_⟩:=GK (G := G) (m := s.sl) hall (fun _ _=>rfl) hvs
  refine .of_read rfl fun t ht hl=>?_
  obtain ⟨_,e2⟩:=GK (G := G) hall ht.right hvs
  have hcall':=hcall
  rw [← hl] at hcall'
  simp only [Zc,← Zv (G := G) (x := f) ht.left,hf,e2,hcall']
  rfl
 case st n x y =>
  simp only [Zc] at h
  split at h <;> first | (cases h; done) | skip
  rename_i g o a ha hb
  split at h <;> first | (cases h; done) | skip
  all_goals
   rename_i hg
   split at h <;> first | (cases h; done) | skip
   rename_i hc
   cases h
   refine .of_set rfl rfl fun t ht h1 h2 h3=>?_
   simp only [Zc,← Zv (G := G) (x := x) ht.left,← Zv (G := G) (x := y) ht.right,ha,hb,h1,hg,Za.note,h2,h3]
   rw [if_pos hc]
   rfl
 case stt x i =>
  simp only [Zc] at h
  split at h <;> first | (cases h; done) | skip
  rename_i g o a ha hb
  split at h <;> first | (cases h; done) | skip
  rename_i cs ty hg
  split at h <;> first | (cases h; done) | skip
  rename_i hc
  cases h
  refine .of_set rfl rfl fun t ht h1 h2 h3=>?_
  have e0:=ht i (by simp [Xr])
  have e1:Agree (oR x) s.sl t.sl:=fun j hj=>ht j (List.mem_cons_of_mem _ hj)
  simp only [Zc,← Zv (G := G) (x := x) e1,← e0,ha,hb,h1,hg,Za.note,Za.let_,h2,h3]
  rw [if_pos hc]
  rfl
 case copy k x y =>
  simp only [Zc] at h
  split at h <;> first | (cases h; done) | skip
  ·rename_i g off len k'' a ha hb
   split at h <;> first | (cases h; done) | skip
   rename_i k' r cs ty hr hg
   split at h <;> first | (cases h; done) | skip
   rename_i hc
   cases h
   refine .of_set rfl rfl fun t ht h1 h2 h3=>?_
   simp only [Zc,← Zv (G := G) (x := x) ht.left,← Zv (G := G) (x := y) ht.right,ha,hb,h1,hr,hg,Za.note,h2,h3]
   rw [if_pos hc]
   rfl
  ·rename_i a ha hb
   split at h <;> first | (cases h; done) | skip
   rename_i k' r hr
   split at h <;> first | (cases h; done) | skip
   rename_i hc
   cases h
   refine .of_set rfl rfl fun t ht h1 h2 h3=>?_
   simp only [Zc,← Zv (G := G) (x := x) ht.left,← Zv (G := G) (x := y) ht.right,ha,hb,h1,hr]
   rw [if_pos hc,← h1,← h2]
   rfl
 case ldt x =>
  simp only [Zc] at h
  split at h <;> first | (cases h; done) | skip
  rename_i g o ha
  split at h <;> first | (cases h; done) | skip
  rename_i cs ty hg
  split at h <;> first | (cases h; done) | skip
  rename_i u hu
  cases h
  obtain ⟨l1,l2⟩:=Xm.mark hg hu
  have hlt:=(List.getElem?_eq_some_iff.1 hg).1
  refine ⟨rfl,rfl,fun t ht h1 h2 h3=>?_,(fun h=>h.elim),(fun h=>by cases h),(fun h=>by cases h),(fun h=>h.elim),(fun h=>by cases h),fun _=>⟨by simp,l1,l2,fun t obs ht h1 h2 h3=>?_⟩⟩
  ·simp only [Zc,← Zv (G := G) (x := x) ht,ha,h1,hg,hu,Za.note,h2,h3]
   rfl
  ·have e:(s.hp ++ obs)[g]? = some (.cells cs ty):=by rw [List.getElem?_append_left hlt]; exact hg
   simp only [Zc,← Zv (G := G) (x := x) ht,ha,h1,e,hu,Za.note,h2,h3,List.set_append_left _ _ hlt]
   rfl
 case lit e k parts =>
  cases parts with
  | nil =>
   simp only [hkind,Option.some.injEq] at hk
   subst hk
   have key:∀ t:Za,Zc G call t (.lit e k [])=some (.own k [],t):=fun t=>rfl
   rw [key] at h
   cases h
   exact .of_free rfl fun t _=>key t
  | cons p0 ps =>
  simp only [hkind,Option.some.injEq] at hk
  subst hk
  generalize hps:p0 :: ps=parts at *
  simp only [Zc] at h
  split at h <;> first | (cases h; done) | skip
  rename_i vs hvs
  split at h
  ·rename_i hc
   cases h
   have key:∀ t:Za,Agree (Xr (.lit e k parts)) s.sl t.sl→Zc G call t (.lit e k parts)=some (.own k (vs.map fun v=>v.cells.map AV.ro),t):=fun t ht=>by
    simp only [Zc,← Je (G := G) (xs := parts) ht,hvs]
    rw [if_pos hc]
   refine ⟨rfl,rfl,fun t ht h1 h2 h3=>?_,(fun h=>h.elim),(fun h=>by cases h),(fun h=>by cases h),(fun h=>h.elim),fun _=>⟨rfl,[],by simp,fun t ht _=>?_⟩,(fun h=>by cases h)⟩
   ·rw [key t ht,← h1,← h2]; rfl
   ·rw [key t ht,List.append_nil]; rfl
  ·rename_i hc0
   split at h <;> first | (cases h; done) | skip
   rename_i hc
   cases h
   have key:∀ t:Za,Agree (Xr (.lit e k parts)) s.sl t.sl→Zc G call t (.lit e k parts)=some (.arr t.hp.length 0 vs.length k,{ t with hp:=t.hp ++ [.cells (vs.map AV.cells).flatten e] }):=fun t ht=>by
    simp only [Zc,← Je (G := G) (xs := parts) ht,hvs]
    rw [if_neg hc0,if_pos hc]
   refine ⟨rfl,rfl,fun t ht h1 h2 h3=>?_,(fun h=>h.elim),(fun h=>by cases h),(fun h=>by cases h),(fun h=>h.elim),fun _=>⟨rfl,_,rfl,fun t ht hl=>?_⟩,(fun h=>by cases h)⟩
   ·rw [key t ht,h1,h2]; rfl
   ·rw [key t ht,hl]; rfl
theorem ZeO {s t:Za}{g:Option (Nat×Bool)}(h:Agree (match g with | some (i,_)=>[i] | none=>[]) s.sl t.sl):Yb s g=Yb t g:=by
 cases g with
 | none=>rfl
 | some p =>
  obtain ⟨i,b⟩:=p
  simp only [Yb]
  rw [h i (by simp)]
def FD (d:Option Nat)(v:AV)(l:List AV):List AV:=match d with | some d=>l.set d v | none=>l
theorem Tu (d:Option Nat)(v:AV):DU d.toList (FD d v):=by
 cases d with
 | none=>exact DU.id _
 | some d=>exact DU.set d v
theorem Y2 (s:Za)(d:Option Nat)(v:AV):s.put d v=⟨FD d v s.sl,s.hp,s.ef,s.bs⟩:=by cases d <;> rfl
structure StepA (G:Nat→Option (List AV))(call:FuncId→List AV→List Zh→Option (AV×List Zh×Eff))(o:ZF)(k:HK)(s s':Za)(f:List AV→List AV):Prop where
 loc:DU (Xf o) f
 sl:s'.sl=f s.sl
 bs:s'.bs=s.bs
 any:∀ t,Agree (Qi o) s.sl t.sl→t.hp=s.hp→t.ef=s.ef→t.bs=s.bs→Zt G call o t=some ⟨f t.sl,s'.hp,s'.ef,t.bs⟩
 still:(match k with | .free | .look | .read=>True | _=>False)→s'.hp=s.hp∧s'.ef=s.ef
 free:k=.free→∀ t,Agree (Qi o) s.sl t.sl→Zt G call o t=some ⟨f t.sl,t.hp,t.ef,t.bs⟩
 look:k=.look→∀ t,Agree (Qi o) s.sl t.sl→Xm s.hp t.hp→Zt G call o t=some ⟨f t.sl,t.hp,t.ef,t.bs⟩
 read:(match k with | .free | .look | .read=>True | _=>False)→∀ t,Agree (Qi o) s.sl t.sl→t.hp=s.hp→Zt G call o t=some ⟨f t.sl,t.hp,t.ef,t.bs⟩
 alloc:k=.alloc→s'.ef=s.ef∧∃ obs,s'.hp=s.hp ++ obs∧∀ t,Agree (Qi o) s.sl t.sl→t.hp.length=s.hp.length→Zt G call o t=some ⟨f t.sl,t.hp ++ obs,t.ef,t.bs⟩
 mark:k=.mark→s'.hp.length=s.hp.length∧Xm s.hp s'.hp∧Xm s'.hp s.hp∧∀ t obs,Agree (Qi o) s.sl t.sl→t.hp=s.hp ++ obs→t.ef=s.ef→t.bs=s.bs→Zt G call o t=some ⟨f t.sl,s'.hp ++ obs,s'.ef,t.bs⟩
theorem CB (hq:∀ f args hp v hp' e,call f args hp=some (v,hp',e)→hp'=hp∧e=none){o:ZF}{k:HK}{s s':Za}(hk:hkind o.op=some k)(h:Zt G call o s=some s'):∃ f,StepA G call o k s s' f:=by
 have wg:∀ t:Za,Agree (Qi o) s.sl t.sl→Yb t o.guard=Yb s o.guard:=fun t ht=>(ZeO ht.left).symm
 simp only [Zt] at h
 split at h <;> first | (cases h; done) | skip
 ·rename_i hw
  split at h <;> first | (cases h; done) | skip
  rename_i v s1 he
  obtain rfl:=Option.some.inj h
  have S:=Zk6 hq hk he
  have run:∀ (t:Za) (hp:List Zh) (ef:Eff),Yb t o.guard=some true→Zc G call t o.op=some (v,⟨tkF o.op t.sl,hp,ef,t.bs⟩)→Zt G call o t=some ⟨FD o.dst v (tkF o.op t.sl),hp,ef,t.bs⟩:=fun t hp ef h1 h2=>by
   simp only [Zt,h1,h2,Y2]
  refine ⟨fun l=>FD o.dst v (tkF o.op l),(Zqt o.op).comp (Tu o.dst v),by rw [Y2,S.sl],by rw [Y2]; exact S.bs,fun t ht h1 h2 h3=>?_,fun hs=>?_,fun hk t ht=>?_,fun hk t ht hl=>?_,fun hk t ht hl=>?_,fun hk=>?_,fun hk=>?_⟩
  ·rw [Y2]; exact run t _ _ ((wg t ht).trans hw) (S.any t ht.right h1 h2 h3)
  ·rw [Y2]; exact S.still hs
  ·exact run t _ _ ((wg t ht).trans hw) (S.free hk t ht.right)
  ·exact run t _ _ ((wg t ht).trans hw) (S.look hk t ht.right hl)
  ·exact run t _ _ ((wg t ht).trans hw) (S.read hk t ht.right hl)
  ·obtain ⟨e1,obs,e2,e3⟩:=S.alloc hk
   rw [Y2]
   exact ⟨e1,obs,e2,fun t ht hl=>run t _ _ ((wg t ht).trans hw) (e3 t ht.right hl)⟩
  ·obtain ⟨e1,e2,e3,e4⟩:=S.mark hk
   rw [Y2]
   exact ⟨e1,e2,e3,fun t obs ht h1 h2 h3=>run t _ _ ((wg t ht).trans hw) (e4 t obs ht.right h1 h2 h3)⟩
 ·rename_i hw
  obtain rfl:=Option.some.inj h
  have run:∀ t:Za,Yb t o.guard=some false→Zt G call o t=some ⟨FD o.dst .undef t.sl,t.hp,t.ef,t.bs⟩:=fun t h1=>by
   simp only [Zt,h1,Y2]
  have hl:DU (Xf o) (FD o.dst .undef):=by
   have:=(DU.id (Jd o.op)).comp (Tu o.dst .undef)
   exact this
  rw [Y2]
  refine ⟨FD o.dst .undef,hl,rfl,rfl,fun t ht h1 h2 h3=>?_,fun _=>⟨rfl,rfl⟩,fun _ t ht=>run t ((wg t ht).trans hw),fun _ t ht _=>run t ((wg t ht).trans hw),fun _ t ht _=>run t ((wg t ht).trans hw),fun _=>⟨rfl,[],by simp,fun t ht _=>?_⟩,fun _=>⟨rfl,.refl _,.refl _,fun t obs ht h1 h2 h3=>?_⟩⟩
  ·rw [run t ((wg t ht).trans hw),h1,h2]
  ·rw [run t ((wg t ht).trans hw),List.append_nil]
  ·rw [run t ((wg t ht).trans hw),h1,h2]
theorem Zn4 (hq:∀ f args hp v hp' e,call f args hp=some (v,hp',e)→hp'=hp∧e=none){o1 o2:ZF}{s s1 s2:Za}(hc:Zdz o1 o2=true)(h1:Zt G call o1 s=some s1)(h2:Zt G call o2 s1=some s2) :
  ∃ u,Zt G call o2 s=some u∧Zt G call o1 u=some s2:=by
 simp only [Zdz,Bool.and_eq_true] at hc
 obtain ⟨⟨⟨hk,ha⟩,hb⟩,hd⟩:=hc
 split at hk <;> first | (cases hk; done) | skip
 rename_i k1 k2 hk1 hk2
 obtain ⟨f1,S1⟩:=CB hq hk1 h1
 obtain ⟨f2,S2⟩:=CB hq hk2 h2
 have A2:Agree (Qi o2) s1.sl s.sl:=by rw [S1.sl]; exact (Agree.of_loc S1.loc ha s.sl).symm
 have A1:∀ u:Za,u.sl=f2 s.sl→Agree (Qi o1) s.sl u.sl:=fun u hu=>by rw [hu]; exact Agree.of_loc S2.loc hd s.sl
 have fin:∀ (u:Za) (hp:List Zh) (ef:Eff),u.sl=f2 s.sl→u.bs=s.bs→hp=s2.hp→ef=s2.ef→Zt G call o1 u=some ⟨f1 u.sl,hp,ef,u.bs⟩→Zt G call o1 u=some s2:=fun u hp ef e1 e2 e3 e4 h=>by
  rw [h]
  have q1:f1 u.sl=s2.sl:=by rw [e1,S2.sl,S1.sl]; exact S1.loc.swap S2.loc hb s.sl
  have q2:u.bs=s2.bs:=by rw [e2,S2.bs,S1.bs]
  rw [q1,q2,e3,e4]
 cases k1 with
 | free =>
  obtain ⟨p1,p2⟩:=S1.still trivial
  have e:=S2.any s A2 p1.symm p2.symm S1.bs.symm
  exact ⟨_,e,fin _ _ _ rfl rfl rfl rfl (S1.free rfl _ (A1 _ rfl))⟩
 | look =>
  obtain ⟨p1,p2⟩:=S1.still trivial
  have e:=S2.any s A2 p1.symm p2.symm S1.bs.symm
  cases k2 with
  | free=>obtain ⟨q1,q2⟩:=S2.still trivial; exact ⟨_,e,fin _ _ _ rfl rfl rfl rfl (S1.look rfl _ (A1 _ rfl) (by show Xm s.hp s2.hp; rw [q1,p1]; exact .refl _))⟩
  | look=>obtain ⟨q1,q2⟩:=S2.still trivial; exact ⟨_,e,fin _ _ _ rfl rfl rfl rfl (S1.look rfl _ (A1 _ rfl) (by show Xm s.hp s2.hp; rw [q1,p1]; exact .refl _))⟩
  | read=>obtain ⟨q1,q2⟩:=S2.still trivial; exact ⟨_,e,fin _ _ _ rfl rfl rfl rfl (S1.look rfl _ (A1 _ rfl) (by show Xm s.hp s2.hp; rw [q1,p1]; exact .refl _))⟩
  | mark=>obtain ⟨_,q2,_⟩:=S2.mark rfl; exact ⟨_,e,fin _ _ _ rfl rfl rfl rfl (S1.look rfl _ (A1 _ rfl) (by show Xm s.hp s2.hp; rw [← p1]; exact q2))⟩
  | alloc =>
   obtain ⟨_,obs,q2,_⟩:=S2.alloc rfl
   refine ⟨_,e,fin _ _ _ rfl rfl rfl rfl (S1.look rfl _ (A1 _ rfl) ?_)⟩
   show Xm s.hp s2.hp
   rw [q2,p1]
   exact .of_get (fun g cs t hg=>⟨cs,t,by rw [List.getElem?_append_left (List.getElem?_eq_some_iff.1 hg).1]; exact hg,rfl⟩) (fun g l t e m hg=>by rw [List.getElem?_append_left (List.getElem?_eq_some_iff.1 hg).1]; exact hg)
  | set=>cases hk
 | read =>
  obtain ⟨p1,p2⟩:=S1.still trivial
  have e:=S2.any s A2 p1.symm p2.symm S1.bs.symm
  cases k2 with
  | free=>obtain ⟨q1,q2⟩:=S2.still trivial; exact ⟨_,e,fin _ _ _ rfl rfl rfl rfl (S1.read trivial _ (A1 _ rfl) (q1.trans p1))⟩
  | look=>obtain ⟨q1,q2⟩:=S2.still trivial; exact ⟨_,e,fin _ _ _ rfl rfl rfl rfl (S1.read trivial _ (A1 _ rfl) (q1.trans p1))⟩
  | read=>obtain ⟨q1,q2⟩:=S2.still trivial; exact ⟨_,e,fin _ _ _ rfl rfl rfl rfl (S1.read trivial _ (A1 _ rfl) (q1.trans p1))⟩
  | mark=>cases hk
  | alloc=>cases hk
  | set=>cases hk
 | set =>
  cases k2 with
  | free =>
   obtain ⟨q1,q2⟩:=S2.still trivial
   have e:=S2.free rfl s A2
   exact ⟨_,e,fin _ _ _ rfl rfl q1.symm q2.symm (S1.any _ (A1 _ rfl) rfl rfl rfl)⟩
  | _=>cases hk
 | alloc =>
  cases k2 with
  | free =>
   obtain ⟨q1,q2⟩:=S2.still trivial
   have e:=S2.free rfl s A2
   exact ⟨_,e,fin _ _ _ rfl rfl q1.symm q2.symm (S1.any _ (A1 _ rfl) rfl rfl rfl)⟩
  | _=>cases hk
 | mark =>
  obtain ⟨m1,m2,m3,m4⟩:=S1.mark rfl
  cases k2 with
  | free =>
   obtain ⟨q1,q2⟩:=S2.still trivial
   have e:=S2.free rfl s A2
   exact ⟨_,e,fin _ _ _ rfl rfl q1.symm q2.symm (S1.any _ (A1 _ rfl) rfl rfl rfl)⟩
  | look =>
   obtain ⟨q1,q2⟩:=S2.still trivial
   have e:=S2.look rfl s A2 m3
   exact ⟨_,e,fin _ _ _ rfl rfl q1.symm q2.symm (S1.any _ (A1 _ rfl) rfl rfl rfl)⟩
  | alloc =>
   obtain ⟨q1,obs,q2,q3⟩:=S2.alloc rfl
   have e:=q3 s A2 m1.symm
   refine ⟨_,e,fin _ _ _ rfl rfl q2.symm q1.symm (m4 _ obs (A1 _ rfl) rfl rfl rfl)⟩
  | _=>cases hk
end
end Go.Proofs.YthkdlifcknpadaaGreat.Abs
end
section
namespace Go.Proofs.YthkdlifcknpadaaGreat.Abs
open Go Go.RowKit
section
variable {P:Program}{G:Nat→Option (List AV)}{call:FuncId→List AV→List Zh→Option (AV×List Zh×Eff)}{E:Entry}{s s':Za}{Γ:Zu}{a:Act}{w:World}{hand:Nat→Bool}{draw:Bool}
def MS (ops:Array Oper):Option (Nat×Bool)→Option (Option (Nat×Bool))
 | none=>some none
 | some (j,want)=>match (ops[j]?).bind (·.dst) with
  | some d=>some (some (d,want))
  | none=>none
theorem Q4 (hI:Inv E s Γ a w){ops:Array Oper}{o:Oper}{g:Option (Nat×Bool)}{b:Bool}(hg:MS ops o.guard=some g)(h:Yb s g=some b):Region.wanted o (yielded ops a.tmps)=b:=by
 unfold Region.wanted
 cases hq:o.guard with
 | none =>
  rw [hq] at hg
  obtain rfl:=Option.some.inj hg
  simp only [Yb,Option.some.injEq] at h
  exact h
 | some p =>
  obtain ⟨j,want⟩:=p
  rw [hq] at hg
  simp only [MS] at hg
  split at hg
  ·rename_i d hd
   obtain rfl:=Option.some.inj hg
   simp only [Yb] at h
   split at h <;> first | (cases h; done) | skip
   ·rename_i c hc
    obtain rfl:=Option.some.inj h
    have hr:=hI.slots.rep d _ hc
    have hlt:d < a.tmps.size:=by rw [hI.slots.size]; exact Zn hc
    have ht:a.tmps[d]? = some (a.tmps.getD d Go.undef):=YX hlt
    generalize a.tmps.getD d Go.undef=u at hr ht
    cases hr
    simp only [yielded,hd,Option.bind_some,ht]
    cases c <;> cases want <;> rfl
   ·rename_i hc
    obtain rfl:=Option.some.inj h
    have hr:=hI.slots.rep d _ hc
    have hlt:d < a.tmps.size:=by rw [hI.slots.size]; exact Zn hc
    have ht:a.tmps[d]? = some (a.tmps.getD d Go.undef):=YX hlt
    generalize a.tmps.getD d Go.undef=u at hr ht
    cases hr
    simp only [yielded,hd,Option.bind_some,ht]
    rfl
  ·cases hg
theorem Lt {ops:Array Oper}{o:Oper}{l:List Oper}{aops:List ZF}(h:Vp P hand draw ops (o :: l)=some aops) :
  ∃ g r,MS ops o.guard=some g∧Vp P hand draw ops l=some r∧aops=⟨o.dst,(cOp P hand draw o).getD .bad,g⟩ :: r:=by
 simp only [Vp] at h
 split at h <;> first | (cases h; done) | skip
 rename_i g r h2 h3
 refine ⟨g,r,?_,h3,(Option.some.inj h).symm⟩
 rw [← h2]
 unfold MS
 cases o.guard with
 | none=>rfl
 | some p=>rfl
theorem Xw {o:Oper}{s s':Za}{v:AV}{call:FuncId→List AV→List Zh→Option (AV×List Zh×Eff)}(h:Zc G call s ((cOp P hand draw o).getD .bad)=some (v,s')):cOp P hand draw o=some ((cOp P hand draw o).getD .bad):=by
 cases hc:cOp P hand draw o with
 | none=>rw [hc] at h; simp [Zc] at h
 | some ao=>rfl
theorem Zhm (hG:GOk G E.W0)(hS:ZT P E.W0 call){ops:Array Oper}{Q:Exit→Act→World→Prop}:∀ {l:List Oper} {aops:List ZF} (k:Nat) {s s':Za} {Γ:Zu} {a:Act} {w:World},(∀ j,l[j]? = ops[k + j]?) →
  Vp P hand draw ops l=some aops→Z7 G call aops s=some s'→Inv E s Γ a w→(∀ Γ a w,Inv E s' Γ a w→Q .normal a w)→wpOps P ops Q (List.range' k l.length) a w
 | [],aops,k,s,s',Γ,a,w,_,hc,h,hI,hQ=>by
  obtain rfl:=Option.some.inj (by simpa [Vp] using hc:some []=some aops)
  obtain rfl:=Option.some.inj (by simpa [Z7] using h:some s=some s')
  exact hQ Γ a w hI
 | o :: l,aops,k,s,s',Γ,a,w,hl,hc,h,hI,hQ=>by
  obtain ⟨g,r,h2,h3,rfl⟩:=Lt hc
  have ho:ops[k]? = some o:=by simpa using (hl 0).symm
  simp only [Z7] at h
  split at h <;> first | (cases h; done) | skip
  rename_i s1 he
  have hl':∀ j,l[j]? = ops[k + 1 + j]?:=fun j=>by
   have:=hl (j + 1)
   simpa [Nat.add_assoc,Nat.add_comm 1 j] using this
  simp only [List.length_cons,List.range'_succ,wpOps,ho]
  simp only [Zt] at he
  split at he <;> first | (cases he; done) | skip
  ·rename_i hw
   rw [Q4 hI h2 hw]
   split at he <;> first | (cases he; done) | skip
   rename_i v s2 hev
   obtain rfl:=Option.some.inj he
   simp only [if_true]
   refine .inl (Zk7 hG hS hI (Xw hev) hev fun Γ' cv w' i1 r1 o1=>?_)
   obtain ⟨Γ2,i2⟩:=i1.put o.dst r1 o1
   exact Zhm hG hS (k + 1) hl' h3 h i2 hQ
  ·rename_i hw
   rw [Q4 hI h2 hw]
   obtain rfl:=Option.some.inj he
   simp only [Bool.false_eq_true,if_false]
   obtain ⟨Γ2,i2⟩:=hI.put o.dst (v := .undef) (cv := Go.undef) .undef (.of_ne (by simp))
   exact Zhm hG hS (k + 1) hl' h3 h i2 hQ
theorem F7 (hG:GOk G E.W0)(hS:ZT P E.W0 call){ops:Array Oper}{Q:Exit→Act→World→Prop}{w:World}:∀ {l:List Oper} {aops:List ZF} {s s':Za} {Γ:Zu} {a:Act},
  Vp P hand draw ops l=some aops→Eg aops=true→Z7 G (WX call) aops s=some s'→Inv E s Γ a w→(∀ Γ a w,Inv E s' Γ a w→Q .normal a w) →
  wpQuiet P ops (Behind w) (fun a'=>∀ w',Behind w w'→Q .normal a' w') l a
 | [],aops,s,s',Γ,a,hc,_,h,hI,hQ=>by
  obtain rfl:=Option.some.inj (by simpa [Vp] using hc:some []=some aops)
  obtain rfl:=Option.some.inj (by simpa [Z7] using h:some s=some s')
  exact fun w' hw'=>hQ Γ a w' (hw'.inv hI)
 | o :: l,aops,s,s',Γ,a,hc,hq,h,hI,hQ=>by
  obtain ⟨g,r,h2,h3,rfl⟩:=Lt hc
  simp only [Eg,Bool.and_eq_true] at hq
  simp only [Z7] at h
  split at h <;> first | (cases h; done) | skip
  rename_i s1 he
  simp only [wpQuiet]
  simp only [Zt] at he
  split at he <;> first | (cases he; done) | skip
  ·rename_i hw
   rw [Q4 hI h2 hw]
   split at he <;> first | (cases he; done) | skip
   rename_i v s2 hev
   obtain rfl:=Option.some.inj he
   simp only [if_true]
   refine Zhi hG hS hI (Xw hev) hq.1.1 hq.1.2 hev fun cv e r1 o1=>?_
   subst e
   obtain ⟨Γ2,i2⟩:=hI.put o.dst r1 (o1 .res)
   exact F7 hG hS h3 hq.2 h i2 hQ
  ·rename_i hw
   rw [Q4 hI h2 hw]
   obtain rfl:=Option.some.inj he
   simp only [Bool.false_eq_true,if_false]
   obtain ⟨Γ2,i2⟩:=hI.put o.dst (v := .undef) (cv := Go.undef) .undef (.of_ne (by simp))
   exact F7 hG hS h3 hq.2 h i2 hQ
theorem bubble (hq:∀ f args hp v hp' e,call f args hp=some (v,hp',e)→hp'=hp∧e=none){o:ZF}{l2:List ZF}{sF:Za}:∀ {l1:List ZF} {s:Za},(∀ x ∈ l1,Zdz x o=true)→Z7 G call (l1 ++ o :: l2) s=some sF →
  ∃ u,Zt G call o s=some u∧Z7 G call (l1 ++ l2) u=some sF
 | [],s,_,h=>by
  simp only [List.nil_append,Z7] at h
  split at h <;> first | (cases h; done) | skip
  rename_i u hu
  exact ⟨u,hu,h⟩
 | x :: l1,s,hx,h=>by
  simp only [List.cons_append,Z7] at h
  split at h <;> first | (cases h; done) | skip
  rename_i s1 h1
  obtain ⟨u1,h2,h3⟩:=bubble hq (fun y hy=>hx y (List.mem_cons_of_mem _ hy)) h
  obtain ⟨u,h4,h5⟩:=Zn4 hq (hx x (List.mem_cons_self ..)) h1 h2
  refine ⟨u,h4,?_⟩
  simp only [List.cons_append,Z7,h5]
  exact h3
theorem Zbh:∀ f args hp v hp' e,WX call f args hp=some (v,hp',e)→hp'=hp∧e=none:=by
 intro f args hp v hp' e h
 unfold WX at h
 split at h <;> first | (cases h; done) | skip
 split at h <;> first | (cases h; done) | skip
 cases h
 exact ⟨rfl,rfl⟩
theorem X3:∀ {l:List Oper} {aops:List ZF} {ops:Array Oper},Vp P hand draw ops l=some aops→l.length=aops.length∧∀ (i:Nat) (o:Oper),l[i]? = some o→∃ g,MS ops o.guard=some g∧aops[i]? = some ⟨o.dst,(cOp P hand draw o).getD .bad,g⟩
 | [],aops,ops,h=>by
  obtain rfl:=Option.some.inj (by simpa [Vp] using h:some []=some aops)
  exact ⟨rfl,fun i o hi=>by simp at hi⟩
 | o :: l,aops,ops,h=>by
  obtain ⟨g,r,h2,h3,rfl⟩:=Lt h
  obtain ⟨h4,h5⟩:=X3 h3
  refine ⟨by simp [h4],fun i o' hi=>?_⟩
  cases i with
  | zero=>cases hi; exact ⟨g,h2,rfl⟩
  | succ i=>exact h5 i o' hi
theorem Zhj (hG:GOk G E.W0)(hS:ZT P E.W0 call){ops:Array Oper}{o:Oper}{g:Option (Nat×Bool)}{u:Za}{K:Act→World→Prop}{Q:Exit→Act→World→Prop}(hn:noHand ((cOp P hand draw o).getD .bad)=true)(h2:MS ops o.guard=some g)
  (he:Zt G (WX call) ⟨o.dst,(cOp P hand draw o).getD .bad,g⟩ s=some u) (hI:Inv E s Γ a w) (hK:∀ Γ a w,Inv E u Γ a w→K a w) :
  if Region.wanted o (yielded ops a.tmps)=true then o.wp P a w K Q∨(o.asks P a w∧LetsOut Q) else K (a.put o.dst Go.undef) w:=by
 simp only [Zt] at he
 split at he <;> first | (cases he; done) | skip
 ·rename_i hw
  rw [Q4 hI h2 hw]
  split at he <;> first | (cases he; done) | skip
  rename_i v s2 hev
  obtain rfl:=Option.some.inj he
  simp only [if_true]
  refine .inl ?_
  by_cases hc:∃ f args,(cOp P hand draw o).getD .bad=.call f args
  ·obtain ⟨f,args,hcall⟩:=hc
   have hqt:FN ((cOp P hand draw o).getD .bad)=true:=by rw [hcall]; rfl
   refine Oper.wp_of_quiet (C := Behind w) (K := fun a'=>∀ w',Behind w w'→K a' w') (Behind.refl w) (fun a' w' hw' h=>h w' hw') ?_
   refine Zhi hG hS hI (Xw hev) hqt hn hev fun cv e r1 o1=>?_
   subst e
   obtain ⟨Γ2,i2⟩:=hI.put o.dst r1 (o1 .res)
   exact fun w' hw'=>hK _ _ w' (hw'.inv i2)
  ·have hev':Zc G call s ((cOp P hand draw o).getD .bad)=some (v,s2):=by
    rw [← hev]
    cases hx:(cOp P hand draw o).getD .bad <;> first | rfl | exact absurd ⟨_,_,hx⟩ hc
   refine Zk7 hG hS hI (Xw hev') hev' fun Γ' cv w' i1 r1 o1=>?_
   obtain ⟨Γ2,i2⟩:=i1.put o.dst r1 o1
   exact hK _ _ _ i2
 ·rename_i hw
  rw [Q4 hI h2 hw]
  obtain rfl:=Option.some.inj he
  simp only [Bool.false_eq_true,if_false]
  obtain ⟨Γ2,i2⟩:=hI.put o.dst (v := .undef) (cv := Go.undef) .undef (.of_ne (by simp))
  exact hK _ _ _ i2
theorem Gs {listed:Array Bool}{i:Nat}(h:listed.getD i true=false):listed.getD i false=false:=by
 rcases Nat.lt_or_ge i listed.size with h' | h'
 ·simp [h'] at h ⊢; exact h
 ·simp [Array.getElem?_eq_none h'] at h
def WS (n:Nat)(listed:Array Bool):List Nat:=(List.range n).filter fun i=>!listed.getD i true
theorem QF (n:Nat)(listed:Array Bool):(WS n listed).Pairwise (· < ·):=List.Pairwise.filter _ List.pairwise_lt_range
theorem Y5 {n i:Nat}{listed:Array Bool}:i ∈ WS n listed↔i < n∧listed.getD i true=false:=by simp [WS]
theorem JC {n i:Nat}{listed:Array Bool}{l1 l2:List Nat}(h:WS n listed=l1 ++ i :: l2)(hi:i < listed.size):WS n (listed.setIfInBounds i true)=l1 ++ l2:=by
 have hs:=QF n listed
 rw [h] at hs
 have h1:∀ j ∈ l1,j≠i:=fun j hj=>Nat.ne_of_lt ((List.pairwise_append.1 hs).2.2 j hj i (List.mem_cons_self ..))
 have h2:∀ j ∈ l2,j≠i:=fun j hj=>Nat.ne_of_gt ((List.pairwise_cons.1 (List.pairwise_append.1 hs).2.1).1 j hj)
 have e:WS n (listed.setIfInBounds i true)=(WS n listed).filter fun j=>decide (j≠i):=by
  unfold WS
  rw [List.filter_filter]
  refine List.filter_congr fun j _=>?_
  by_cases hji:j=i
  ·subst hji
   have:(listed.setIfInBounds j true).getD j true=true:=by simp [hi]
   simp [this]
  ·rw [getD_set_ne true (Ne.symm hji)]; simp [hji]
 rw [e,h,List.filter_append,List.filter_cons]
 simp only [ne_eq,not_true_eq_false,decide_false,Bool.false_eq_true,if_false]
 rw [List.filter_eq_self.2 (fun j hj=>by simpa using h1 j hj),List.filter_eq_self.2 (fun j hj=>by simpa using h2 j hj)]
theorem ZpJ (hG:GOk G E.W0)(hS:ZT P E.W0 call){ops:Array Oper}{bops:List ZF}{Q:Exit→Act→World→Prop}{sF:Za}(hc:Vp P hand draw ops ops.toList=some bops)(hd:ZaO ops bops=true)(hQ:∀ Γ a w,Inv E sF Γ a w→Q .normal a w) :
  ∀ (fuel:Nat) {listed:Array Bool} {s:Za} {Γ:Zu} {a:Act} {w:World},listed.size=ops.size→VS ops listed→(WS ops.size listed).length=fuel→Z7 G (WX call) ((WS ops.size listed).map fun i=>bops.getD i ⟨none,.bad,none⟩) s=some sF→Inv E s Γ a w→wpAny P .any ops Q fuel listed a w:=by
 simp only [ZaO,Bool.and_eq_true,List.all_eq_true,List.mem_range] at hd
 obtain ⟨⟨hord,hnh⟩,hpair⟩:=hd
 obtain ⟨hlen,hget⟩:=X3 hc
 intro fuel
 induction fuel with
 | zero =>
  intro listed s Γ a w hsz hcl hl h hI
  have hn:=List.eq_nil_of_length_eq_zero hl
  rw [hn] at h
  obtain rfl:=Option.some.inj (by simpa [Z7] using h:some s=some sF)
  refine ⟨List.eq_nil_iff_forall_not_mem.2 fun i hi=>?_,hQ _ _ _ hI⟩
  obtain ⟨h1,o,h2,_⟩:=mem_ready.1 hi
  have:i ∈ WS ops.size listed:=Y5.2 ⟨(Array.getElem?_eq_some_iff.1 h2).1,h1⟩
  rw [hn] at this
  cases this
 | succ fuel ih =>
  intro listed s Γ a w hsz hcl hl h hI
  have hlisted:∀ j,j < ops.size→listed.getD j true≠false→listed.getD j false=true:=fun j hj h=>by
   have hj':j < listed.size:=by omega
   simp [hj'] at h ⊢; exact h
  refine ⟨fun hr=>?_,fun i hi=>?_⟩
  ·obtain ⟨i,r,hir⟩:∃ i r,WS ops.size listed=i :: r:=by
    cases hx:WS ops.size listed with
    | nil=>rw [hx] at hl; cases hl
    | cons i r=>exact ⟨i,r,rfl⟩
   have him:=Y5.1 (show i ∈ WS ops.size listed by rw [hir]; exact List.mem_cons_self ..)
   have hoi:ops[i]? = some ops[i]:=Array.getElem?_eq_getElem him.1
   have hready:i ∈ Region.ready .any ops listed:=by
    refine mem_ready.2 ⟨him.2,_,hoi,fun e he hb=>?_⟩
    have:=hord i him.1
    rw [hoi] at this
    have hlt:=Array.all_eq_true'.1 this e he
    rw [hb] at hlt
    simp only [Bool.not_true,Bool.false_or,decide_eq_true_eq] at hlt
    refine hlisted e.on (by omega) fun hun=>?_
    have hm:=Y5.2 ⟨show e.on < ops.size by omega,hun⟩
    rw [hir] at hm
    have hs:=QF ops.size listed
    rw [hir] at hs
    rcases List.mem_cons.1 hm with he | hm
    ·omega
    ·have:=(List.pairwise_cons.1 hs).1 _ hm
     omega
   rw [hr] at hready
   cases hready
  ·obtain ⟨hun,o,ho,hdeps⟩:=mem_ready.1 hi
   have hin:=(Array.getElem?_eq_some_iff.1 ho).1
   obtain ⟨l1,l2,hsplit⟩:=List.append_of_mem (Y5.2 ⟨hin,hun⟩)
   have hs:=QF ops.size listed
   rw [hsplit] at hs
   obtain ⟨g,hg1,hg2⟩:=hget i o (by simpa using ho)
   have hbi:bops.getD i ⟨none,.bad,none⟩=⟨o.dst,(cOp P hand draw o).getD .bad,g⟩:=by rw [List.getD_eq_getElem?_getD,hg2]; rfl
   have hcomm:∀ x ∈ l1.map (fun i=>bops.getD i ⟨none,.bad,none⟩),Zdz x ⟨o.dst,(cOp P hand draw o).getD .bad,g⟩=true:=fun x hx=>by
    obtain ⟨j,hj,rfl⟩:=List.mem_map.1 hx
    have hji:j < i:=(List.pairwise_append.1 hs).2.2 j hj i (List.mem_cons_self ..)
    have hjm:=Y5.1 (show j ∈ WS ops.size listed by rw [hsplit]; exact List.mem_append_left _ hj)
    have:=hpair i hin j hji
    rw [Bool.or_eq_true] at this
    rcases this with h1 | h1
    ·exfalso
     have h2:=hcl.ready ho hdeps (DF h1)
     rw [Gs hjm.2] at h2
     cases h2
    ·rw [hg2] at h1
     split at h1
     ·rename_i x y hx hy
      cases hy
      rw [List.getD_eq_getElem?_getD,hx]
      exact h1
     ·cases h1
   rw [hsplit,List.map_append,List.map_cons,hbi] at h
   obtain ⟨u,hu1,hu2⟩:=bubble Zbh hcomm h
   rw [← List.map_append,← JC hsplit (by omega)] at hu2
   have hkk:noHand ((cOp P hand draw o).getD .bad)=true:=hnh _ (List.mem_of_getElem? hg2)
   have hlen2:(WS ops.size (listed.setIfInBounds i true)).length=fuel:=by
    rw [JC hsplit (by omega)]
    rw [hsplit] at hl
    simp at hl ⊢
    omega
   unfold wpOp
   simp only [ho]
   exact Zhj hG hS hkk hg1 hu1 hI fun Γ' a' w' hI'=>ih (by simp [hsz]) (hcl.list ho hdeps) hlen2 hu2 hI'
theorem Zk9 (hG:GOk G E.W0)(hS:ZT P E.W0 call){ops:Array Oper}{o:Oper}{g:Option (Nat×Bool)}{u:Za}{K:Act→World→Prop}{Q:Exit→Act→World→Prop}(h2:MS ops o.guard=some g)
  (he:Zt G call ⟨o.dst,(cOp P hand draw o).getD .bad,g⟩ s=some u) (hI:Inv E s Γ a w) (hK:∀ Γ a w,Inv E u Γ a w→K a w) :
  if Region.wanted o (yielded ops a.tmps)=true then o.wp P a w K Q∨(o.asks P a w∧LetsOut Q) else K (a.put o.dst Go.undef) w:=by
 simp only [Zt] at he
 split at he <;> first | (cases he; done) | skip
 ·rename_i hw
  rw [Q4 hI h2 hw]
  split at he <;> first | (cases he; done) | skip
  rename_i v s2 hev
  obtain rfl:=Option.some.inj he
  simp only [if_true]
  refine .inl (Zk7 hG hS hI (Xw hev) hev fun Γ' cv w' i1 r1 o1=>?_)
  obtain ⟨Γ2,i2⟩:=i1.put o.dst r1 o1
  exact hK _ _ _ i2
 ·rename_i hw
  rw [Q4 hI h2 hw]
  obtain rfl:=Option.some.inj he
  simp only [Bool.false_eq_true,if_false]
  obtain ⟨Γ2,i2⟩:=hI.put o.dst (v := .undef) (cv := Go.undef) .undef (.of_ne (by simp))
  exact hK _ _ _ i2
def Gz (n size:Nat)(listed:Array Bool):List Nat:=(List.range size).filter fun i=>decide (n≤i) && !listed.getD i true
theorem Zez (n size:Nat)(listed:Array Bool):(Gz n size listed).Pairwise (· < ·):=List.Pairwise.filter _ List.pairwise_lt_range
theorem BO {n size i:Nat}{listed:Array Bool}:i ∈ Gz n size listed↔i < size∧n≤i∧listed.getD i true=false:=by simp [Gz]
theorem Zey {n size i:Nat}{listed:Array Bool}(hi:i < n):Gz n size (listed.setIfInBounds i true)=Gz n size listed:=by
 unfold Gz
 refine List.filter_congr fun j _=>?_
 by_cases hj:n≤j
 ·rw [getD_set_ne true (show i≠j by omega)]
 ·simp [hj]
theorem Znu {n size i:Nat}{listed:Array Bool}(hi:i < listed.size)(hs:i < size)(hn:n≤i)(hun:listed.getD i true=false)(hb:∀ j,n≤j→j < i→listed.getD j true≠false):Gz n size listed=i :: Gz n size (listed.setIfInBounds i true):=by
 have e:Gz n size (listed.setIfInBounds i true)=(Gz n size listed).filter fun j=>decide (j≠i):=by
  unfold Gz
  rw [List.filter_filter]
  refine List.filter_congr fun j _=>?_
  by_cases hji:j=i
  ·subst hji
   have:(listed.setIfInBounds j true).getD j true=true:=by simp [hi]
   simp [this]
  ·rw [getD_set_ne true (Ne.symm hji)]; simp [hji]
 obtain ⟨l1,l2,hsp⟩:=List.append_of_mem (BO.2 ⟨hs,hn,hun⟩)
 have hso:=Zez n size listed
 rw [hsp] at hso
 have h1:l1=[]:=List.eq_nil_iff_forall_not_mem.2 fun j hj=>by
  have hlt:=(List.pairwise_append.1 hso).2.2 j hj i (List.mem_cons_self ..)
  have hm:=BO.1 (show j ∈ Gz n size listed by rw [hsp]; exact List.mem_append_left _ hj)
  exact hb j hm.2.1 hlt hm.2.2
 subst h1
 rw [e,hsp,List.nil_append,List.filter_cons]
 simp only [ne_eq,not_true_eq_false,decide_false,Bool.false_eq_true,if_false]
 rw [List.filter_eq_self.2 fun j hj=>?_]
 have:=(List.pairwise_cons.1 hso).1 j hj
 have:j≠i:=by omega
 simpa using this
theorem ZpK (hG:GOk G E.W0)(hS:ZT P E.W0 call){ops:Array Oper}{bops:List ZF}{n:Nat}{Q:Exit→Act→World→Prop}{sF:Za}(hc:Vp P hand draw ops ops.toList=some bops)(hd:Znm ops bops n=true)(hQ:∀ Γ a w,Inv E sF Γ a w→Q .normal a w) :
  ∀ (fuel:Nat) {listed:Array Bool} {s s1:Za} {Γ:Zu} {a:Act} {w:World},listed.size=ops.size→VS ops listed→(WS n listed).length + (Gz n ops.size listed).length=fuel →
   Z7 G (WX call) ((WS n listed).map fun i=>bops.getD i ⟨none,.bad,none⟩) s=some s1→Z7 G call ((Gz n ops.size listed).map fun i=>bops.getD i ⟨none,.bad,none⟩) s1=some sF→Inv E s Γ a w→wpAny P .any ops Q fuel listed a w:=by
 simp only [Znm,Bool.and_eq_true,List.all_eq_true,List.mem_range,decide_eq_true_eq] at hd
 obtain ⟨⟨⟨⟨hord,hnh⟩,hnle⟩,hpin⟩,hpair⟩:=hd
 obtain ⟨hlen,hget⟩:=X3 hc
 intro fuel
 induction fuel with
 | zero =>
  intro listed s s1 Γ a w hsz hcl hl h h' hI
  have hn1:=List.eq_nil_of_length_eq_zero (show (WS n listed).length=0 by omega)
  have hn2:=List.eq_nil_of_length_eq_zero (show (Gz n ops.size listed).length=0 by omega)
  rw [hn1] at h
  rw [hn2] at h'
  obtain rfl:=Option.some.inj (by simpa [Z7] using h:some s=some s1)
  obtain rfl:=Option.some.inj (by simpa [Z7] using h':some s=some sF)
  refine ⟨List.eq_nil_iff_forall_not_mem.2 fun i hi=>?_,hQ _ _ _ hI⟩
  obtain ⟨k1,o,k2,_⟩:=mem_ready.1 hi
  have hin:=(Array.getElem?_eq_some_iff.1 k2).1
  rcases Nat.lt_or_ge i n with hlt | hge
  ·have:i ∈ WS n listed:=Y5.2 ⟨hlt,k1⟩
   rw [hn1] at this; cases this
  ·have:i ∈ Gz n ops.size listed:=BO.2 ⟨hin,hge,k1⟩
   rw [hn2] at this; cases this
 | succ fuel ih =>
  intro listed s s1 Γ a w hsz hcl hl h h' hI
  have hlisted:∀ j,j < ops.size→listed.getD j true≠false→listed.getD j false=true:=fun j hj h=>by
   have hj':j < listed.size:=by omega
   simp [hj'] at h ⊢; exact h
  refine ⟨fun hr=>?_,fun i hi=>?_⟩
  ·
   have hex:∃ i,i < ops.size∧listed.getD i true=false∧∀ j,j < i→listed.getD j true≠false:=by
    have hne:∃ i,i < ops.size∧listed.getD i true=false:=by
     cases hx:WS n listed with
     | cons i r =>
      have:=Y5.1 (show i ∈ WS n listed by rw [hx]; exact List.mem_cons_self ..)
      exact ⟨i,by omega,this.2⟩
     | nil =>
      cases hy:Gz n ops.size listed with
      | nil=>rw [hx,hy] at hl; simp at hl
      | cons i r =>
       have:=BO.1 (show i ∈ Gz n ops.size listed by rw [hy]; exact List.mem_cons_self ..)
       exact ⟨i,this.1,this.2.2⟩
    obtain ⟨i,h1,h2⟩:=hne
    induction i using Nat.strongRecOn with
    | _ i ihi =>
     by_cases hx:∃ j,j < i∧listed.getD j true=false
     ·obtain ⟨j,hj1,hj2⟩:=hx
      exact ihi j hj1 (by omega) hj2
     ·exact ⟨i,h1,h2,fun j hj hq=>hx ⟨j,hj,hq⟩⟩
   obtain ⟨i,him,hun,hleast⟩:=hex
   have hoi:ops[i]? = some ops[i]:=Array.getElem?_eq_getElem him
   have hready:i ∈ Region.ready .any ops listed:=by
    refine mem_ready.2 ⟨hun,_,hoi,fun e he hb=>?_⟩
    have:=hord i him
    rw [hoi] at this
    have hlt:=Array.all_eq_true'.1 this e he
    rw [hb] at hlt
    simp only [Bool.not_true,Bool.false_or,decide_eq_true_eq] at hlt
    exact hlisted e.on (by omega) (hleast _ hlt)
   rw [hr] at hready
   cases hready
  ·obtain ⟨hun,o,ho,hdeps⟩:=mem_ready.1 hi
   have hin:=(Array.getElem?_eq_some_iff.1 ho).1
   obtain ⟨g,hg1,hg2⟩:=hget i o (by simpa using ho)
   have hbi:bops.getD i ⟨none,.bad,none⟩=⟨o.dst,(cOp P hand draw o).getD .bad,g⟩:=by rw [List.getD_eq_getElem?_getD,hg2]; rfl
   unfold wpOp
   simp only [ho]
   rcases Nat.lt_or_ge i n with hlt | hge
   ·obtain ⟨l1,l2,hsplit⟩:=List.append_of_mem (Y5.2 ⟨hlt,hun⟩)
    have hs:=QF n listed
    rw [hsplit] at hs
    have hcomm:∀ x ∈ l1.map (fun i=>bops.getD i ⟨none,.bad,none⟩),Zdz x ⟨o.dst,(cOp P hand draw o).getD .bad,g⟩=true:=fun x hx=>by
     obtain ⟨j,hj,rfl⟩:=List.mem_map.1 hx
     have hji:j < i:=(List.pairwise_append.1 hs).2.2 j hj i (List.mem_cons_self ..)
     have hjm:=Y5.1 (show j ∈ WS n listed by rw [hsplit]; exact List.mem_append_left _ hj)
     have:=hpair i hlt j hji
     rw [Bool.or_eq_true] at this
     rcases this with h1 | h1
     ·exfalso
      have h2:=hcl.ready ho hdeps (DF h1)
      rw [Gs hjm.2] at h2
      cases h2
     ·rw [hg2] at h1
      split at h1
      ·rename_i x y hx hy
       cases hy
       rw [List.getD_eq_getElem?_getD,hx]
       exact h1
      ·cases h1
    rw [hsplit,List.map_append,List.map_cons,hbi] at h
    obtain ⟨u,hu1,hu2⟩:=bubble Zbh hcomm h
    rw [← List.map_append,← JC hsplit (by omega)] at hu2
    have hkk:noHand ((cOp P hand draw o).getD .bad)=true:=by
     have hm:(⟨o.dst,(cOp P hand draw o).getD .bad,g⟩:ZF) ∈ bops.take n:=by
      refine List.mem_of_getElem? (i := i) ?_
      rw [List.getElem?_take_of_lt hlt]; exact hg2
     exact hnh _ hm
    rw [← Zey (size := ops.size) (listed := listed) hlt] at h'
    refine Zhj hG hS hkk hg1 hu1 hI fun Γ' a' w' hI'=>ih (by simp [hsz]) (hcl.list ho hdeps) ?_ hu2 h' hI'
    rw [JC hsplit (by omega),Zey hlt]
    rw [hsplit] at hl
    simp at hl ⊢
    omega
   ·have hall:∀ j,j < i→listed.getD j true≠false:=fun j hj hq=>by
     have hw:Sl ops i j=true:=by
      rcases Bool.or_eq_true _ _ ▸ hpin i hin with h1 | h1
      ·have:i < n:=by simpa using h1
       omega
      ·exact List.all_eq_true.1 h1 j (List.mem_range.2 hj)
     have h2:=hcl.ready ho hdeps (DF hw)
     rw [Gs hq] at h2
     cases h2
    have hnil:WS n listed=[]:=List.eq_nil_iff_forall_not_mem.2 fun j hj=>by
     have:=Y5.1 hj
     exact hall j (by omega) this.2
    have hnil2:WS n (listed.setIfInBounds i true)=[]:=List.eq_nil_iff_forall_not_mem.2 fun j hj=>by
     have hm:=Y5.1 hj
     rw [getD_set_ne true (show i≠j by omega)] at hm
     exact hall j (by omega) hm.2
    rw [hnil] at h
    obtain rfl:=Option.some.inj (by simpa [Z7] using h:some s=some s1)
    have hon:=Znu (n := n) (size := ops.size) (listed := listed) (by omega) hin hge hun (fun j _ hj=>hall j hj)
    rw [hon,List.map_cons,hbi] at h'
    simp only [Z7] at h'
    split at h' <;> first | (cases h'; done) | skip
    rename_i u hu
    refine Zk9 hG hS hg1 hu hI fun Γ' a' w' hI'=>ih (s1 := u) (by simp [hsz]) (hcl.list ho hdeps) ?_ (by rw [hnil2]; rfl) h' hI'
    rw [hnil2]
    rw [hnil,hon] at hl
    simp at hl ⊢
    omega
end
end Go.Proofs.YthkdlifcknpadaaGreat.Abs
end
section
namespace Go.Proofs.YthkdlifcknpadaaGreat.Abs
open Go Go.RowKit
section
variable {G:Nat→Option (List AV)}{call:FuncId→List AV→List Zh→Option (AV×List Zh×Eff)}
theorem Om:∀ f args hp v hp' e,Yd call f args hp=some (v,hp',e)→hp'=hp∧e=none:=by
 intro f args hp v hp' e h
 unfold Yd at h
 split at h <;> first | (cases h; done) | skip
 split at h <;> first | (cases h; done) | skip
 split at h <;> first | (cases h; done) | skip
 cases h
 exact ⟨rfl,rfl⟩
theorem ZlI {f:FuncId}{args:List AV}{hp:List Zh}{v:AV}{hp':List Zh}{e:Eff}(h:Yd call f args hp=some (v,hp',e))(h2:List Zh):Yd call f args h2=some (v,h2,none):=by
 unfold Yd at h ⊢
 split at h <;> first | (cases h; done) | skip
 rename_i hb
 rw [if_pos hb]
 split at h <;> first | (cases h; done) | skip
 rename_i hc
 split at h <;> first | (cases h; done) | skip
 cases h
 rfl
def Pfx (h h':List Zh):Prop:=∀ (g:Nat) (o:Zh),h[g]? = some o→h'[g]? = some o
theorem Pfx.take (n:Nat)(h:List Zh):Pfx (h.take n) h:=fun g o hg=>by
 rw [List.getElem?_take] at hg
 split at hg
 ·exact hg
 ·cases hg
theorem Pfx.look {h h':List Zh}(p:Pfx h h'):Xm h h':=.of_get (fun g cs t hg=>⟨cs,t,p g _ hg,rfl⟩) fun g l t e m hg=>p g _ hg
theorem Pfx.rows {h h':List Zh}(p:Pfx h h'){x:AV}{r:Nat×List (List AV)}(hx:rowsOf h x=some r):rowsOf h' x=some r:=by
 unfold rowsOf at hx ⊢
 split at hx <;> first | exact hx | (cases hx; done) | skip
 split at hx <;> first | (cases hx; done) | skip
 rename_i hg
 rw [p _ _ hg]
 exact hx
theorem Pfx.len {h h':List Zh}(p:Pfx h h'){sh:ZeU}{x v:AV}(hx:Qh h sh x=some v):Qh h' sh x=some v:=by
 unfold Qh at hx ⊢
 split at hx <;> first | exact hx | (cases hx; done) | skip
 split at hx <;> first | (cases hx; done) | skip
 rename_i hg
 rw [p _ _ hg]
 exact hx
theorem Pfx.conv {h h':List Zh}(p:Pfx h h'){c:Conv}{x v:AV}(hx:QL h c x=some v):QL h' c x=some v:=by
 unfold QL at hx ⊢
 split at hx <;> first | exact hx | (cases hx; done) | skip
 split at hx <;> first | (cases hx; done) | skip
 rename_i hg
 rw [p.rows hg]
 exact hx
theorem Zsb {ao:AOp}{k:HK}{s:Za}{v:AV}{s':Za}(hk:hkind ao=some k)(hk':k=.free∨k=.look∨k=.read)(h:Zc G (Yd call) s ao=some (v,s')){h2:List Zh}(p:Pfx s.hp h2) :
  s'.hp=s.hp∧s'.ef=s.ef∧s'.bs=s.bs∧Zc G (Yd call) { s with hp:=h2 } ao=some (v,{ s' with hp:=h2 }):=by
 have S:=Zk6 Om hk h
 have hst:s'.hp=s.hp∧s'.ef=s.ef:=S.still (by rcases hk' with rfl | rfl | rfl <;> trivial)
 refine ⟨hst.1,hst.2,S.bs,?_⟩
 have fin:Zc G (Yd call) { s with hp:=h2 } ao=some (v,⟨tkF ao s.sl,h2,s.ef,s.bs⟩)→Zc G (Yd call) { s with hp:=h2 } ao=some (v,{ s' with hp:=h2 }):=fun e=>by
  rw [e,← S.sl,← hst.2,← S.bs]
 refine fin ?_
 rcases hk' with rfl | rfl | rfl
 ·exact S.free rfl { s with hp:=h2 } (fun _ _=>rfl)
 ·exact S.look rfl { s with hp:=h2 } (fun _ _=>rfl) p.look
 ·cases ao <;> first | (simp only [hkind,Option.some.injEq,reduceCtorEq] at hk; done) | skip
  case lit e k parts=>cases parts <;> simp [hkind] at hk
  case len sh x =>
   simp only [Zc] at h ⊢
   split at h <;> first | (cases h; done) | skip
   rename_i y hy
   obtain ⟨h1,rfl⟩:=Qj h
   simp only [hy,p.len h1,Option.map_some]
   rfl
  case app k b t x =>
   simp only [Zc] at h ⊢
   split at h <;> first | (cases h; done) | skip
   rename_i k' r y h1 h2
   split at h <;> first | (cases h; done) | skip
   rename_i k2 r2 h3
   split at h <;> first | (cases h; done) | skip
   rename_i hc
   cases h
   simp only [h1,h2,p.rows h3]
   rw [if_pos hc]
   rfl
  case appn k b x =>
   simp only [Zc] at h ⊢
   split at h <;> first | (cases h; done) | skip
   rename_i y h2
   split at h <;> first | (cases h; done) | skip
   rename_i k2 r2 h3
   split at h <;> first | (cases h; done) | skip
   rename_i hc
   cases h
   simp only [h2,p.rows h3]
   rw [if_pos hc]
   rfl
  case conv c x =>
   simp only [Zc] at h ⊢
   split at h <;> first | (cases h; done) | skip
   rename_i y hy
   obtain ⟨h1,rfl⟩:=Qj h
   simp only [hy,p.conv h1,Option.map_some]
   rfl
  case call f args =>
   simp only [Zc] at h ⊢
   split at h <;> first | (cases h; done) | skip
   rename_i g first caps vs sl hf hv
   split at h <;> first | (cases h; done) | skip
   rename_i u hp' e hc
   obtain ⟨rfl,rfl⟩:=Om _ _ _ _ _ _ hc
   cases h
   have hsl:=S.sl
   simp only at hsl
   simp only [hf,hv,ZlI hc h2,Za.after]
   rw [hsl]
variable (G call)(base:Nat)(al:List Nat)
def Pj (o:ZF)(s:Za):Option Za :=
 match Zt G (Yd call) o { s with hp:=s.hp.take base } with
 | some s'=>some { s' with hp:=s.hp }
 | none=>none
def ZjP:Option Zh→Bool
 | some .dead=>true
 | _=>false
def X5 (r:Nat)(o:ZF)(s:Za):Option Za :=
 if ZjP s.hp[base + r]? = true∧s.bs≤base then
  match o.op with
  | .mk t cells=>some (({ s with hp:=s.hp.set (base + r) (.cells cells t) }:Za).put o.dst (.ptr (base + r) 0))
  | .box t n x=>match opnd G s.sl x with
   | some v=>if v.cells.length=n∧v.laid=true then some (({ s with hp:=s.hp.set (base + r) (.cells v.cells t) }:Za).put o.dst (.ptr (base + r) 0)) else none
   | none=>none
  | _=>none
 else none
def KQ (r:Nat)(o:ZF)(s:Za):Option Za :=
 match setSlot o with
 | some t=>match s.sl[t]? with
  | some (.ptr g 0)=>if g=base + r∧s.bs≤base then Zt G (Yd call) o s else none
  | _=>none
 | none=>none
def Uc (o:ZF)(s:Za):Option Za :=
 match Zaf al o with
 | .pre=>Pj G call base o s
 | .at r=>match V9 o with
  | true=>X5 G base r o s
  | false=>KQ G call base r o s
 | .any=>Zt G (Yd call) o s
def UD:List ZF→Za→Option Za
 | [],s=>some s
 | o :: l,s=>match Uc G call base al o s with
  | some s'=>UD l s'
  | none=>none
variable {G call base al}
structure Zto (G:Nat→Option (List AV))(call:FuncId→List AV→List Zh→Option (AV×List Zh×Eff))(base:Nat)(al:List Nat)(o:ZF)(s s':Za)(f:List AV→List AV):Prop where
 loc:DU (Xf o) f
 sl:s'.sl=f s.sl
 bs:s'.bs=s.bs
 ef:s'.ef=s.ef
 pre:Zaf al o=.pre→s'.hp=s.hp∧∀ t:Za,Agree (Qi o) s.sl t.sl→t.hp.take base=s.hp.take base→Uc G call base al o t=some ⟨f t.sl,t.hp,t.ef,t.bs⟩
 at_:∀ r,Zaf al o=.at r→∃ x,s'.hp=s.hp.set (base + r) x∧∀ t:Za,Agree (Qi o) s.sl t.sl→t.hp[base + r]? = s.hp[base + r]?→t.bs=s.bs→Uc G call base al o t=some ⟨f t.sl,t.hp.set (base + r) x,t.ef,t.bs⟩
theorem Po {o:ZF}(h:ZbS o=true):∃ k,hkind o.op=some k∧(k=.free∨k=.look∨k=.read):=by
 unfold ZbS at h
 split at h <;> first | (cases h; done) | skip
 ·exact ⟨_,by assumption,.inl rfl⟩
 ·exact ⟨_,by assumption,.inr (.inl rfl)⟩
 ·exact ⟨_,by assumption,.inr (.inr rfl)⟩
theorem Zc8 {o:ZF}(h:Zaf al o=.pre):ZbS o=true:=by
 unfold Zaf at h
 split at h
 ·split at h
  ·split at h <;> cases h
  ·cases h
 ·split at h
  ·split at h <;> cases h
  ·split at h
   ·assumption
   ·cases h
theorem Zqf {o:ZF}{r:Nat}(h:Zaf al o=.at r):(V9 o=true∧∃ d,o.dst=some d∧idx d al=some r)∨(V9 o=false∧∃ t,setSlot o=some t∧idx t al=some r):=by
 unfold Zaf at h
 split at h
 ·rename_i h1
  split at h
  ·split at h <;> cases h
   exact .inl ⟨h1,_,by assumption,by assumption⟩
  ·cases h
 ·rename_i h1
  split at h
  ·split at h <;> cases h
   exact .inr ⟨h1,_,by assumption,by assumption⟩
  ·split at h <;> cases h
theorem ZhB {o:ZF}{s s':Za}(hc:Zaf al o≠.any)(h:Uc G call base al o s=some s'):∃ f,Zto G call base al o s s' f:=by
 cases hr:Zaf al o with
 | any=>exact absurd hr hc
 | pre =>
  obtain ⟨k,hk,hk'⟩:=Po (Zc8 hr)
  have hev:∀ t,Uc G call base al o t=Pj G call base o t:=fun t=>by unfold Uc; rw [hr]
  rw [hev] at h
  unfold Pj at h
  split at h <;> first | (cases h; done) | skip
  rename_i s1 h1
  obtain rfl:=Option.some.inj h
  obtain ⟨f,S⟩:=CB Om hk h1
  have k1:=S.still (by rcases hk' with rfl | rfl | rfl <;> trivial)
  have k2:=S.read (by rcases hk' with rfl | rfl | rfl <;> trivial)
  refine ⟨f,S.loc,S.sl,S.bs,k1.2,fun _=>⟨rfl,fun t ht he=>?_⟩,fun r e=>by rw [hr] at e; cases e⟩
  rw [hev]
  unfold Pj
  rw [k2 { t with hp:=t.hp.take base } ht he]
 | «at» r =>
  have hev:∀ t,Uc G call base al o t=(match V9 o with | true=>X5 G base r o t | false=>KQ G call base r o t):=fun t=>by unfold Uc; rw [hr]
  rw [hev] at h
  cases hal:V9 o with
  | true =>
   rw [hal] at h
   replace h:X5 G base r o s=some s':=h
   have hg:o.guard=none:=by
    unfold V9 at hal
    split at hal <;> first | (cases hal; done) | assumption
   unfold X5 at h
   split at h <;> first | (cases h; done) | skip
   rename_i hd
   split at h <;> first | (cases h; done) | skip
   ·rename_i t cells hop
    obtain rfl:=Option.some.inj h
    refine ⟨FD o.dst (.ptr (base + r) 0),⟨?_,by rw [Y2],by rw [Y2],by rw [Y2],fun e=>(by rw [hr] at e; cases e),fun q e=>?_⟩⟩
    ·have:=(DU.id (Jd o.op)).comp (Tu o.dst (.ptr (base + r) 0))
     exact this
    ·rw [hr] at e
     cases e
     refine ⟨.cells cells t,by rw [Y2],fun t' ht he hb=>?_⟩
     rw [hev,hal]
     show X5 G base r o t'=_
     unfold X5
     rw [he,hb,if_pos hd,hop]
     simp only [Y2,hb]
   ·rename_i t n x hop
    split at h <;> first | (cases h; done) | skip
    rename_i v hv
    split at h <;> first | (cases h; done) | skip
    rename_i hn
    obtain rfl:=Option.some.inj h
    refine ⟨FD o.dst (.ptr (base + r) 0),⟨?_,by rw [Y2],by rw [Y2],by rw [Y2],fun e=>(by rw [hr] at e; cases e),fun q e=>?_⟩⟩
    ·have:=(DU.id (Jd o.op)).comp (Tu o.dst (.ptr (base + r) 0))
     exact this
    ·rw [hr] at e
     cases e
     refine ⟨.cells v.cells t,by rw [Y2],fun t' ht he hb=>?_⟩
     have hx:opnd G t'.sl x=some v:=by
      rw [← hv]
      refine (Zv (G := G) (x := x) ?_).symm
      exact fun i hi=>ht i (List.mem_append_right _ (by rw [hop]; exact hi))
     rw [hev,hal]
     show X5 G base r o t'=_
     unfold X5
     rw [he,hb,if_pos hd,hop]
     simp only [hx,Y2,hb]
     rw [if_pos hn]
  | false =>
   rw [hal] at h
   replace h:KQ G call base r o s=some s':=h
   have hev':∀ t,Uc G call base al o t=KQ G call base r o t:=fun t=>by rw [hev,hal]
   unfold KQ at h
   split at h <;> first | (cases h; done) | skip
   rename_i q hq
   split at h <;> first | (cases h; done) | skip
   rename_i g hs
   split at h <;> first | (cases h; done) | skip
   rename_i hg
   obtain ⟨rfl,hbs⟩:=hg
   have hgd:o.guard=none:=by
    unfold setSlot at hq
    split at hq <;> first | (cases hq; done) | assumption
   have hw:∀ t,Yb t o.guard=some true:=fun t=>by rw [hgd]; rfl
   simp only [Zt,hw] at h
   split at h <;> first | (cases h; done) | skip
   rename_i v s1 he
   obtain rfl:=Option.some.inj h
   have hpt:∀ t:Za,t.sl[q]? = s.sl[q]?→opnd G t.sl (.tmp q)=some (.ptr (base + r) 0):=fun t e=>by simp only [opnd,e,hs]; rfl
   have hnote:∀ t:Za,t.bs=s.bs→t.note (base + r) 0=t.ef:=fun t e=>by
    unfold Za.note
    rw [if_neg (by omega)]
   unfold setSlot at hq
   split at hq <;> first | (cases hq; done) | skip
   ·rename_i n q' x hop _
    obtain rfl:=Option.some.inj hq
    rw [hop] at he
    simp only [Zc,hpt s rfl] at he
    split at he <;> first | (cases he; done) | skip
    rename_i g0 o0 u h1 h2
    cases h1
    split at he <;> first | (cases he; done) | (split at he <;> first | (cases he; done) | (rename_i hlow; exact absurd hlow.2.1 (by decide))) | skip
    rename_i cs ty hcs
    split at he <;> first | (cases he; done) | skip
    rename_i hn
    cases he
    refine ⟨FD o.dst .undef,⟨?_,by rw [Y2],by rw [Y2],by rw [Y2]; exact hnote s rfl,fun e=>(by rw [hr] at e; cases e),fun q2 e=>?_⟩⟩
    ·have:=(DU.id (Jd o.op)).comp (Tu o.dst .undef)
     exact this
    ·rw [hr] at e
     cases e
     refine ⟨.cells (splice cs 0 u.cells) ty,by rw [Y2],fun t' ht he hb=>?_⟩
     have a0:Agree (oR (.tmp q') ++ oR x) s.sl t'.sl:=fun i hi=>ht i (List.mem_append_right _ (by rw [hop]; exact hi))
     have e1:=a0.left q' (.head _)
     rw [hev']
     unfold KQ setSlot
     rw [hop,hgd]
     simp only
     rw [← e1,hs]
     simp only
     rw [if_pos ⟨trivial,by omega⟩]
     simp only [Zt,hw]
     rw [hop]
     simp only [Zc,hpt t' e1.symm,← Zv (G := G) (x := x) a0.right,h2,he,hcs]
     rw [if_pos hn]
     simp only [Y2,hnote t' hb]
   ·rename_i q' x hop _
    obtain rfl:=Option.some.inj hq
    rw [hop] at he
    simp only [Zc,hpt s rfl] at he
    split at he <;> first | (cases he; done) | skip
    rename_i g0 o0 u h1 h2
    cases h1
    split at he <;> first | (cases he; done) | skip
    rename_i cs ty hcs
    split at he <;> first | (cases he; done) | skip
    rename_i hn
    cases he
    have hto:Jd o.op=[x]:=by rw [hop]; rfl
    refine ⟨fun l=>FD o.dst .undef (l.modify x AV.ro),⟨?_,by rw [Y2]; rfl,by rw [Y2]; rfl,by rw [Y2]; exact hnote s rfl,fun e=>(by rw [hr] at e; cases e),fun q2 e=>?_⟩⟩
    ·have:=(DU.mod x).comp (Tu o.dst .undef)
     unfold Xf
     rw [hto]
     exact this
    ·rw [hr] at e
     cases e
     refine ⟨.cells (cs.set 0 u) ty,by rw [Y2],fun t' ht he hb=>?_⟩
     have a0:Agree (x :: oR (.tmp q')) s.sl t'.sl:=fun i hi=>ht i (List.mem_append_right _ (by rw [hop]; exact hi))
     have e1:=a0 q' (.tail _ (.head _))
     have e2:=a0 x (.head _)
     rw [hev']
     unfold KQ setSlot
     rw [hop,hgd]
     simp only
     rw [← e1,hs]
     simp only
     rw [if_pos ⟨trivial,by omega⟩]
     simp only [Zt,hw]
     rw [hop]
     simp only [Zc,hpt t' e1.symm,← e2,h2,he,hcs]
     rw [if_pos hn]
     simp only [Y2,hnote t' hb]
     rfl
theorem Zur {o1 o2:ZF}{s s1 s2:Za}(hc:ZhP al o1 o2=true)(h1:Uc G call base al o1 s=some s1)(h2:Uc G call base al o2 s1=some s2) :
  ∃ u,Uc G call base al o2 s=some u∧Uc G call base al o1 u=some s2:=by
 simp only [ZhP,Zbs,Bool.and_eq_true] at hc
 obtain ⟨hk,⟨ha,hb⟩,hd⟩:=hc
 have n1:Zaf al o1≠.any:=fun e=>by rw [e] at hk; cases hk
 have n2:Zaf al o2≠.any:=fun e=>by rw [e] at hk; cases h:Zaf al o1 <;> rw [h] at hk <;> cases hk
 obtain ⟨f1,S1⟩:=ZhB n1 h1
 obtain ⟨f2,S2⟩:=ZhB n2 h2
 have A2:Agree (Qi o2) s1.sl s.sl:=by rw [S1.sl]; exact (Agree.of_loc S1.loc ha s.sl).symm
 have A1:∀ u:Za,u.sl=f2 s.sl→Agree (Qi o1) s.sl u.sl:=fun u hu=>by rw [hu]; exact Agree.of_loc S2.loc hd s.sl
 have fin:∀ (u:Za) (hp:List Zh),u.sl=f2 s.sl→u.bs=s.bs→u.ef=s.ef→hp=s2.hp→Uc G call base al o1 u=some ⟨f1 u.sl,hp,u.ef,u.bs⟩→Uc G call base al o1 u=some s2:=fun u hp e1 e2 e3 e4 h=>by
  rw [h]
  have q1:f1 u.sl=s2.sl:=by rw [e1,S2.sl,S1.sl]; exact S1.loc.swap S2.loc hb s.sl
  have q2:u.bs=s2.bs:=by rw [e2,S2.bs,S1.bs]
  have q3:u.ef=s2.ef:=by rw [e3,S2.ef,S1.ef]
  rw [q1,q2,q3,e4]
 have tk:∀ (h:List Zh) (r:Nat) (x:Zh),(h.set (base + r) x).take base=h.take base:=fun h r x=>by
  rw [List.take_set_of_le (by omega)]
 cases r1:Zaf al o1 with
 | any=>exact absurd r1 n1
 | pre =>
  obtain ⟨p1,p2⟩:=S1.pre r1
  cases r2:Zaf al o2 with
  | any=>exact absurd r2 n2
  | pre =>
   obtain ⟨p3,p4⟩:=S2.pre r2
   exact ⟨_,p4 s A2 (by rw [p1]),fin _ _ rfl rfl rfl (by rw [p3,p1]) (p2 _ (A1 _ rfl) rfl)⟩
  | «at» r =>
   obtain ⟨x,p3,p4⟩:=S2.at_ r r2
   exact ⟨_,p4 s A2 (by rw [p1]) S1.bs.symm,fin _ _ rfl rfl rfl (by rw [p3,p1]) (p2 _ (A1 _ rfl) (tk _ _ _))⟩
 | «at» r =>
  obtain ⟨x,p1,p2⟩:=S1.at_ r r1
  cases r2:Zaf al o2 with
  | any=>exact absurd r2 n2
  | pre =>
   obtain ⟨p3,p4⟩:=S2.pre r2
   exact ⟨_,p4 s A2 (by rw [p1,tk]),fin _ _ rfl rfl rfl (by rw [p3,p1]) (p2 _ (A1 _ rfl) rfl rfl)⟩
  | «at» q =>
   rw [r1,r2] at hk
   have hne:r≠q:=by simpa using hk
   obtain ⟨y,p3,p4⟩:=S2.at_ q r2
   have o1':∀ (h:List Zh) (z:Zh),(h.set (base + r) z)[base + q]? = h[base + q]?:=fun h z=>List.getElem?_set_ne (by omega)
   have o2':∀ (h:List Zh) (z:Zh),(h.set (base + q) z)[base + r]? = h[base + r]?:=fun h z=>List.getElem?_set_ne (by omega)
   exact ⟨_,p4 s A2 (by rw [p1,o1']) S1.bs.symm,fin _ _ rfl rfl rfl (by rw [p3,p1]; exact List.set_comm _ _ (by omega)) (p2 _ (A1 _ rfl) (o2' _ _) rfl)⟩
theorem ZiZ {o:ZF}{l2:List ZF}{sF:Za}:∀ {l1:List ZF} {s:Za},(∀ x ∈ l1,ZhP al x o=true)→UD G call base al (l1 ++ o :: l2) s=some sF →
  ∃ u,Uc G call base al o s=some u∧UD G call base al (l1 ++ l2) u=some sF
 | [],s,_,h=>by
  simp only [List.nil_append,UD] at h
  split at h <;> first | (cases h; done) | skip
  rename_i u hu
  exact ⟨u,hu,h⟩
 | x :: l1,s,hx,h=>by
  simp only [List.cons_append,UD] at h
  split at h <;> first | (cases h; done) | skip
  rename_i s1 h1
  obtain ⟨u1,h2,h3⟩:=ZiZ (fun y hy=>hx y (List.mem_cons_of_mem _ hy)) h
  obtain ⟨u,h4,h5⟩:=Zur (hx x (List.mem_cons_self ..)) h1 h2
  refine ⟨u,h4,?_⟩
  simp only [List.cons_append,UD,h5]
  exact h3
end
section
variable {G:Nat→Option (List AV)}{call:FuncId→List AV→List Zh→Option (AV×List Zh×Eff)}{base:Nat}{al:List Nat}
theorem ZbM:∀ {l:List Nat} {k t:Nat},nodupB l=true→l[k]? = some t→idx t l=some k
 | [],k,t,_,h=>by simp at h
 | u :: l,k,t,hn,h=>by
  simp only [nodupB,Bool.and_eq_true,Bool.not_eq_true'] at hn
  unfold idx
  cases k with
  | zero=>simp only [List.getElem?_cons_zero,Option.some.injEq] at h; rw [if_pos h]
  | succ k =>
   simp only [List.getElem?_cons_succ] at h
   have:u≠t:=fun e=>by
    subst e
    have:=List.mem_of_getElem? h
    simp [this] at hn
   rw [if_neg this,ZbM hn.2 h]
   rfl
theorem ZjE:∀ {l:List Nat} {k t:Nat},idx t l=some k→l[k]? = some t
 | [],k,t,h=>by cases h
 | u :: l,k,t,h=>by
  unfold idx at h
  split at h
  ·rename_i e
   cases h
   simp [e]
  ·obtain ⟨q,hq,rfl⟩:=Option.map_eq_some_iff.1 h
   simpa using ZjE hq
def V8 (n:Nat):List Zh:=List.replicate n .dead
theorem ZiT {l m:List Nat}(h:apartB l m=true){t:Nat}(ht:t ∈ m):t ∉ l:=fun hl=>by
 have:=List.all_eq_true.1 h t hl
 simp [ht] at this
theorem ZpI {call:FuncId→List AV→List Zh→Option (AV×List Zh×Eff)}(hq:∀ f args hp v hp' e,call f args hp=some (v,hp',e)→hp'=hp∧e=none){o:ZF}{k:HK}{s s':Za}(hk:hkind o.op=some k)(h:Zt G call o s=some s'):s'.bs=s.bs∧∀ t,t ∉ Xf o→s'.sl[t]? = s.sl[t]?:=by
 obtain ⟨f,S⟩:=CB hq hk h
 exact ⟨S.bs,fun t ht=>by rw [S.sl,S.loc.out _ _ ht]⟩
theorem Zqm {call:FuncId→List AV→List Zh→Option (AV×List Zh×Eff)}{o:ZF}{s s':Za}(hk:hkind o.op=some .set)(h:Zt G call o s=some s'):s'.hp.length=s.hp.length:=by
 simp only [Zt] at h
 split at h <;> first | (cases h; done) | skip
 ·split at h <;> first | (cases h; done) | skip
  rename_i v s1 he
  obtain rfl:=Option.some.inj h
  rw [Y2]
  show s1.hp.length=_
  cases hop:o.op <;> rw [hop] at hk he <;> first | (simp only [hkind,Option.some.injEq,reduceCtorEq] at hk; done) | skip
  case lit e k parts=>cases parts <;> simp [hkind] at hk
  case call f args=>simp only [hkind] at hk; split at hk <;> simp at hk
  all_goals
   simp only [Zc] at he
   repeat' split at he
   all_goals first
    | (cases he; done)
    | (cases he; simp [Za.let_])
 ·obtain rfl:=Option.some.inj h
  rw [Y2]
theorem sim (hnd:nodupB al=true):∀ {l:List ZF} {k:Nat} {s sF:Za},ZaZ al k l=true→k≤al.length→Z7 G (Yd call) l s=some sF→s.bs≤base→s.hp.length=base + k→(∀ (r t:Nat) (v:AV),r < k→al[r]? = some t→s.sl[t]? = some v→v=.ptr (base + r) 0) →
  UD G call base al l { s with hp:=s.hp ++ V8 (al.length - k) } = some sF
 | [],k,s,sF,ho,hk,h,hbs,hl,hs=>by
  simp only [ZaZ,beq_iff_eq] at ho
  obtain rfl:=Option.some.inj h
  subst ho
  simp only [UD,Nat.sub_self,V8,List.replicate_zero,List.append_nil]
 | o :: l,k,s,sF,ho,hk,h,hbs,hl,hs=>by
  simp only [Z7] at h
  split at h <;> first | (cases h; done) | skip
  rename_i s1 h1
  simp only [ZaZ] at ho
  cases hal:V9 o with
  | true =>
   rw [hal] at ho
   simp only [Bool.and_eq_true,beq_iff_eq] at ho
   obtain ⟨hd,ho⟩:=ho
   have hg:o.guard=none:=by
    unfold V9 at hal
    split at hal <;> first | (cases hal; done) | assumption
   obtain ⟨t,ht⟩:∃ t,o.dst=some t:=by
    unfold V9 at hal
    split at hal <;> first | (cases hal; done) | exact ⟨_,by assumption⟩
   rw [ht] at hd
   have hkl:k < al.length:=(List.getElem?_eq_some_iff.1 hd.symm).1
   have hcls:Zaf al o=.at k:=by
    unfold Zaf
    rw [hal,ht]
    simp only
    rw [ZbM hnd hd.symm]
   have hdead:({ s with hp:=s.hp ++ V8 (al.length - k) }:Za).hp[base + k]? = some .dead:=by
    show (s.hp ++ V8 (al.length - k))[base + k]? = _
    rw [List.getElem?_append_right (by omega),hl,Nat.sub_self]
    unfold V8
    rw [List.getElem?_replicate,if_pos (by omega)]
   have hset:∀ x:Zh,(s.hp ++ V8 (al.length - k)).set (base + k) x=(s.hp ++ [x]) ++ V8 (al.length - (k + 1)):=fun x=>by
    rw [List.set_append_right _ _ (by omega),hl,Nat.sub_self]
    obtain ⟨m,hm⟩:∃ m,al.length - k=m + 1:=⟨al.length - k - 1,by omega⟩
    have:al.length - (k + 1)=m:=by omega
    rw [hm,this]
    simp [V8,List.replicate_succ]
   have key:∀ x:Zh,s1=({ s with hp:=s.hp ++ [x] }:Za).put o.dst (.ptr s.hp.length 0)→Uc G call base al o { s with hp:=s.hp ++ V8 (al.length - k) } = some (({ s with hp:=(s.hp ++ V8 (al.length - k)).set (base + k) x }:Za).put o.dst (.ptr (base + k) 0)) →
     UD G call base al (o :: l) { s with hp:=s.hp ++ V8 (al.length - k) } = some sF:=fun x e1 e2=>by
    simp only [UD]
    rw [e2]
    have:=sim hnd (l := l) (k := k + 1) (s := s1) ho hkl h (by rw [e1,ht]; exact hbs) (by rw [e1,ht]; simp [Za.put,hl]; omega) (fun r q v hr hq hv=>by
     rw [e1,ht] at hv
     simp only [Za.put] at hv
     by_cases e:r=k
     ·subst e
      rw [← hd] at hq
      cases hq
      rw [List.getElem?_set] at hv
      split at hv
      ·split at hv
       ·rw [← Option.some.inj hv,hl]
       ·cases hv
      ·rename_i ne; exact absurd rfl ne
     ·refine hs r q v (by omega) hq ?_
      rw [List.getElem?_set_ne] at hv
      ·exact hv
      ·intro e'
       subst e'
       have i1:=ZbM hnd hq
       rw [ZbM hnd hd.symm] at i1
       cases i1
       exact e rfl)
    rw [← this,e1,ht]
    simp only [Za.put,hset,hl]
   simp only [Zt,hg,Yb] at h1
   split at h1 <;> first | (cases h1; done) | skip
   rename_i v s2 hev
   obtain rfl:=Option.some.inj h1
   have hR:Uc G call base al o { s with hp:=s.hp ++ V8 (al.length - k) } = X5 G base k o { s with hp:=s.hp ++ V8 (al.length - k) }:=by
    unfold Uc
    rw [hcls,hal]
   have hif:ZjP ({ s with hp:=s.hp ++ V8 (al.length - k) }:Za).hp[base + k]? = true∧({ s with hp:=s.hp ++ V8 (al.length - k) }:Za).bs≤base:=⟨by rw [hdead]; rfl,hbs⟩
   cases hop:o.op with
   | mk t' cells =>
    rw [hop] at hev
    cases hev
    refine key _ rfl ?_
    rw [hR]
    unfold X5
    rw [if_pos hif,hop]
   | box t' n x =>
    rw [hop] at hev
    simp only [Zc] at hev
    split at hev <;> first | (cases hev; done) | skip
    rename_i u hu
    split at hev <;> first | (cases hev; done) | skip
    rename_i hn
    cases hev
    refine key _ rfl ?_
    rw [hR]
    unfold X5
    rw [if_pos hif,hop]
    simp only [hu]
    rw [if_pos hn]
   | _=>unfold V9 at hal; rw [hop] at hal; simp at hal
  | false =>
   rw [hal] at ho
   simp only [Bool.and_eq_true,Bool.or_eq_true] at ho
   obtain ⟨⟨ho1,ho2⟩,ho3⟩:=ho
   have go:∀ q:HK,hkind o.op=some q→s1.hp.length=s.hp.length→Uc G call base al o { s with hp:=s.hp ++ V8 (al.length - k) } = some { s1 with hp:=s1.hp ++ V8 (al.length - k) }→UD G call base al (o :: l) { s with hp:=s.hp ++ V8 (al.length - k) } = some sF:=fun q hq hlen e=>by
    obtain ⟨b1,b2⟩:=ZpI Om hq h1
    simp only [UD]
    rw [e]
    refine sim hnd ho3 hk h (by rw [b1]; exact hbs) (by rw [hlen]; exact hl) fun r t v hr ht hv=>hs r t v hr ht ?_
    rw [← b2 t (ZiT ho2 (List.mem_of_getElem? ht))]
    exact hv
   have pre:∀ q:HK,hkind o.op=some q→(q=.free∨q=.look∨q=.read)→setSlot o=none→(q=.free∨k=0)→UD G call base al (o :: l) { s with hp:=s.hp ++ V8 (al.length - k) } = some sF:=fun q hq hq' hns hk0=>by
    obtain ⟨f,S⟩:=CB Om hq h1
    have st:=S.still (by rcases hq' with rfl | rfl | rfl <;> trivial)
    have hcls:Zaf al o=.pre:=by
     unfold Zaf
     rw [hal]
     simp only
     rw [hns]
     have:ZbS o=true:=by unfold ZbS; rw [hq]; rcases hq' with rfl | rfl | rfl <;> rfl
     simp [this]
    refine go q hq (by rw [st.1]) ?_
    unfold Uc
    rw [hcls]
    simp only
    unfold Pj
    have hrun:Zt G (Yd call) o { s with hp:=(s.hp ++ V8 (al.length - k)).take base } = some ⟨f s.sl,(s.hp ++ V8 (al.length - k)).take base,s.ef,s.bs⟩:=by
     rcases hk0 with rfl | rfl
     ·exact S.free rfl { s with hp:=(s.hp ++ V8 (al.length - k)).take base } (fun _ _=>rfl)
     ·have:(s.hp ++ V8 (al.length - 0)).take base=s.hp:=by
       rw [List.take_append_of_le_length (by omega),List.take_of_length_le (by omega)]
      rw [this]
      exact S.read (by rcases hq' with rfl | rfl | rfl <;> trivial) s (fun _ _=>rfl) rfl
    have e0:Zt G (Yd call) o { ({ s with hp:=s.hp ++ V8 (al.length - k) }:Za) with hp:=({ s with hp:=s.hp ++ V8 (al.length - k) }:Za).hp.take base } = some ⟨f s.sl,(s.hp ++ V8 (al.length - k)).take base,s.ef,s.bs⟩:=hrun
    rw [e0]
    simp only
    rw [st.1,← S.sl,← st.2,← S.bs]
   rcases ho1 with (ho1 | ho1) | ho1
   ·have hq:hkind o.op=some .free:=by
     unfold ZnU at ho1
     split at ho1
     ·assumption
     ·cases ho1
    refine pre .free hq (.inl rfl) ?_ (.inl rfl)
    unfold setSlot
    split <;> first | rfl | (rename_i hop _; rw [hop] at hq; cases hq)
   ·simp only [beq_iff_eq] at ho1
    obtain ⟨q,hq,hq'⟩:=Po ho1.1
    refine pre q hq hq' ?_ (.inr ho1.2)
    unfold setSlot
    split <;> first | rfl | (rename_i hop _; rw [hop] at hq; cases hq; rcases hq' with h | h | h <;> cases h)
   ·simp only [beq_iff_eq] at ho1
    obtain ⟨ho1,rfl⟩:=ho1
    have hq:hkind o.op=some .set:=by
     unfold Zrw at ho1
     split at ho1
     ·assumption
     ·cases ho1
    have hnp:ZbS o=false:=by unfold ZbS; rw [hq]
    refine go .set hq (Zqm hq h1) ?_
    have e0:∀ x:Za,({ x with hp:=x.hp ++ V8 (al.length - al.length) }:Za)=x:=fun x=>by simp [V8]
    rw [e0 s,e0 s1]
    unfold Uc
    cases hc:Zaf al o with
    | any=>exact h1
    | pre=>have:=Zc8 hc; rw [hnp] at this; cases this
    | «at» r =>
     simp only
     rw [hal]
     rcases Zqf hc with ⟨e,_⟩ | ⟨_,t,ht,hr⟩
     ·rw [hal] at e; cases e
     ·have hget:=ZjE hr
      have hrl:r < al.length:=(List.getElem?_eq_some_iff.1 hget).1
      obtain ⟨v,hv⟩:∃ v,s.sl[t]? = some v:=by
       cases hv:s.sl[t]? with
       | some v=>exact ⟨v,rfl⟩
       | none =>
        exfalso
        have hnone:opnd G s.sl (.tmp t)=none:=by simp only [opnd,hv]; rfl
        simp only [Zt] at h1
        unfold setSlot at ht
        split at ht <;> first | (cases ht; done) | skip
        all_goals
         rename_i hop hgd
         obtain rfl:=Option.some.inj ht
         rw [hgd] at h1
         simp only [Yb] at h1
         rw [hop] at h1
         simp only [Zc,hnone] at h1
         cases h1
      have hp:=hs r t v hrl hget hv
      subst hp
      show KQ G call base r o s=some s1
      unfold KQ
      rw [ht]
      simp only
      rw [hv]
      simp only
      rw [if_pos ⟨trivial,hbs⟩]
      exact h1
end
section
variable {P:Program}{G:Nat→Option (List AV)}{call:FuncId→List AV→List Zh→Option (AV×List Zh×Eff)}{E:Entry}{s s':Za}{Γ:Zu}{a:Act}{w:World}{hand:Nat→Bool}{draw:Bool}{o:Oper}{base:Nat}{al:List Nat}
theorem ZdP {ao:AOp}(h:(cOp P hand draw o).getD .bad=ao)(hb:ao≠.bad):cOp P hand draw o=some ao:=by
 cases hc:cOp P hand draw o with
 | none=>rw [hc] at h; exact absurd h.symm hb
 | some x=>rw [hc] at h; exact congrArg some h
theorem ZqO {t:TypeId}{cells:List AV}(h:cOp P hand draw o=some (.mk t cells)):∃ z,o.op=.alloc t∧Zad P t=some z∧z.cells.all AV.one=true∧cells=z.cells:=by
 unfold cOp at h
 repeat' split at h
 all_goals first
  | (cases h; done)
  | (obtain ⟨_,_,e⟩:=Option.map_eq_some_iff.1 h; cases e; done)
  | (cases h; exact ⟨_,by assumption,by assumption,by assumption,rfl⟩)
theorem Zo9 {t:TypeId}{n:Nat}{x:Yl}(h:cOp P hand draw o=some (.box t n x)):∃ x',o.op=.box t x'∧ZK P t x'=some x:=by
 unfold cOp at h
 repeat' split at h
 all_goals first
  | (cases h; done)
  | (obtain ⟨_,h1,e⟩:=Option.map_eq_some_iff.1 h; cases e; exact ⟨_,by assumption,h1⟩)
  | (obtain ⟨_,h1,e⟩:=Option.map_eq_some_iff.1 h; cases e; done)
theorem ZgP (hI:Inv E s Γ a w){e:TypeId}{v:AV}{cv:Value}{n:Nat}(hd:s.hp[n]? = some .dead)(hb:s.bs≤n)(hr:Rep Γ w v cv)(hl:v.laid=true)(hn:∀ k r,v=.own k r→r=[]∧cv=.slice none 0 0) :
  Inv E { s with hp:=s.hp.set n (.cells v.cells e) } (Ei Γ w.heap.size (.own n)) a (w.alloc (.cells cv.cells e))∧Rep (Ei Γ w.heap.size (.own n)) (w.alloc (.cells cv.cells e)) (.ptr n 0) (.pointer (some ⟨w.heap.size,0,none⟩)):=by
 obtain ⟨a1,a2⟩:=hr.cellsRep hl hn
 have st:=Vs hI.rw.fresh (.cells cv.cells e) (.own n)
 refine ⟨hI.fill _ _ hd hb ⟨w.heap.size,cv.cells,Wy _ _ _,heap_alloc_new w _,a1,fun i c hc=>?_⟩,.ptr _ _ _ (Wy _ _ _)⟩
 obtain ⟨b1,b2,b3⟩:=a2 i c hc
 exact ⟨b1,b2.mono st.fix st.own,.nil b3⟩
theorem Zpp (hG:GOk G E.W0)(hI:Inv E s Γ a w){g:Option (Nat×Bool)}{r:Nat}{u:Za}(he:X5 G base r ⟨o.dst,(cOp P hand draw o).getD .bad,g⟩ s=some u){K:Act→World→Prop}{Q:Exit→Act→World→Prop}(hK:∀ Γ a w,Inv E u Γ a w→K a w) :
  o.wp P a w K Q:=by
 unfold X5 at he
 split at he <;> first | (cases he; done) | skip
 rename_i hd
 obtain ⟨hd,hbs⟩:=hd
 have hd':s.hp[base + r]? = some .dead:=by
  unfold ZjP at hd
  split at hd
  ·assumption
  ·cases hd
 split at he <;> first | (cases he; done) | skip
 ·rename_i t cells hop
  obtain rfl:=Option.some.inj he
  obtain ⟨z,h1,h2,h3,rfl⟩:=ZqO (ZdP hop (by nofun))
  obtain ⟨i,zv,hi,hzv,hrep⟩:=RJ h2
  obtain ⟨k1,k2⟩:=hrep Γ w
  obtain ⟨i1,i2⟩:=ZgP hI (e := t) hd' (by omega) k1 (LM h3) k2
  have hrun:(execOp a.eval o).run P w=.ok (.value (.pointer (some ⟨w.heap.size,0,none⟩))) (w.alloc (.cells zv.cells t)):=by
   simp only [execOp,h1]
   simp [Instr.alloc,zeroValue,typeInfo,hi,hzv,newVar,newRow]
  unfold Oper.wp
  rw [hrun]
  obtain ⟨Γ2,j2⟩:=i1.put o.dst i2 (.of_ne (by simp))
  exact hK _ _ _ j2
 ·rename_i t n x hop
  split at he <;> first | (cases he; done) | skip
  rename_i v hv
  split at he <;> first | (cases he; done) | skip
  rename_i hl
  obtain rfl:=Option.some.inj he
  obtain ⟨x',h1,h2⟩:=Zo9 (ZdP hop (by nofun))
  obtain ⟨k1,k2⟩:=Zm hG hI h2 hv
  obtain ⟨i1,i2⟩:=ZgP hI (e := t) hd' (by omega) k1 hl.2 k2
  have hrun:(execOp a.eval o).run P w=.ok (.value (.pointer (some ⟨w.heap.size,0,none⟩))) (w.alloc (.cells (a.eval x').cells t)):=by
   simp only [execOp,h1]
   simp [Instr.box,newVar,newRow]
  unfold Oper.wp
  rw [hrun]
  obtain ⟨Γ2,j2⟩:=i1.put o.dst i2 (.of_ne (by simp))
  exact hK _ _ _ j2
theorem Zct (hG:GOk G E.W0)(hS:ZT P E.W0 call){ops:Array Oper}{g:Option (Nat×Bool)}{u:Za}{K:Act→World→Prop}{Q:Exit→Act→World→Prop}(h2:MS ops o.guard=some g)
  (he:Zt G call ⟨o.dst,(cOp P hand draw o).getD .bad,g⟩ s=some u) (hI:Inv E s Γ a w) (hK:∀ Γ a w,Inv E u Γ a w→K a w) :
  if Region.wanted o (yielded ops a.tmps)=true then o.wp P a w K Q∨(o.asks P a w∧LetsOut Q) else K (a.put o.dst Go.undef) w:=by
 simp only [Zt] at he
 split at he <;> first | (cases he; done) | skip
 ·rename_i hw
  rw [Q4 hI h2 hw]
  split at he <;> first | (cases he; done) | skip
  rename_i v s2 hev
  obtain rfl:=Option.some.inj he
  simp only [if_true]
  refine .inl (Zk7 hG hS hI (Xw hev) hev fun Γ' cv w' i1 r1 o1=>?_)
  obtain ⟨Γ2,i2⟩:=i1.put o.dst r1 o1
  exact hK _ _ _ i2
 ·rename_i hw
  rw [Q4 hI h2 hw]
  obtain rfl:=Option.some.inj he
  simp only [Bool.false_eq_true,if_false]
  obtain ⟨Γ2,i2⟩:=hI.put o.dst (v := .undef) (cv := Go.undef) .undef (.of_ne (by simp))
  exact hK _ _ _ i2
theorem ZmX (hG:GOk G E.W0)(hS:ZT P E.W0 (Yd call)){ops:Array Oper}{g:Option (Nat×Bool)}{u:Za}{K:Act→World→Prop}{Q:Exit→Act→World→Prop}(h2:MS ops o.guard=some g)
  (he:Uc G call base al ⟨o.dst,(cOp P hand draw o).getD .bad,g⟩ s=some u) (hI:Inv E s Γ a w) (hK:∀ Γ a w,Inv E u Γ a w→K a w) :
  if Region.wanted o (yielded ops a.tmps)=true then o.wp P a w K Q∨(o.asks P a w∧LetsOut Q) else K (a.put o.dst Go.undef) w:=by
 unfold Uc at he
 split at he
 ·
  rename_i hc
  obtain ⟨k,hk,hk'⟩:=Po (Zc8 hc)
  refine Zct (hand := hand) (draw := draw) hG hS h2 ?_ hI hK
  unfold Pj at he
  split at he <;> first | (cases he; done) | skip
  rename_i s1 h1
  obtain rfl:=Option.some.inj he
  show Zt G (Yd call) ⟨o.dst,(cOp P hand draw o).getD .bad,g⟩ s=_
  simp only [Zt] at h1 ⊢
  have wg:∀ h,Yb { s with hp:=h } g=Yb s g:=fun h=>by cases g <;> rfl
  rw [wg] at h1
  split at h1 <;> first | (cases h1; done) | skip
  ·rename_i hw
   split at h1 <;> first | (cases h1; done) | skip
   rename_i v s2 hev
   obtain rfl:=Option.some.inj h1
   obtain ⟨e1,e2,e3,e4⟩:=Zsb hk hk' hev (Pfx.take base s.hp)
   have e4':Zc G (Yd call) s ((cOp P hand draw o).getD .bad)=some (v,{ s2 with hp:=s.hp }):=e4
   rw [e4']
   simp only [Y2]
  ·rename_i hw
   obtain rfl:=Option.some.inj h1
   simp only [Y2]
 ·
  split at he
  ·rename_i hal
   have hg:g=none:=by
    unfold V9 at hal
    split at hal <;> first | (cases hal; done) | assumption
   subst hg
   have hw:Region.wanted o (yielded ops a.tmps)=true:=Q4 hI h2 (b := true) rfl
   rw [hw]
   simp only [if_true]
   exact .inl (Zpp hG hI he hK)
  ·unfold KQ at he
   split at he <;> first | (cases he; done) | skip
   split at he <;> first | (cases he; done) | skip
   split at he <;> first | (cases he; done) | skip
   exact Zct hG hS h2 he hI hK
 ·exact Zct hG hS h2 he hI hK
theorem Zna (hG:GOk G E.W0)(hS:ZT P E.W0 (Yd call)){ops:Array Oper}{bops:List ZF}{Q:Exit→Act→World→Prop}{sF:Za}(hc:Vp P hand draw ops ops.toList=some bops)
  (hord:∀ i,i < ops.size→(match ops[i]? with | some o=>o.after.all fun e=>!Region.binds .any e || decide (e.on < i) | none=>false)=true)
  (hpair:∀ i,i < ops.size→∀ j,j < i→(Sl ops i j || (match bops[j]?,bops[i]? with | some x,some y=>ZhP al x y | _,_=>false))=true) (hQ:∀ Γ a w,Inv E sF Γ a w→Q .normal a w) :
  ∀ (fuel:Nat) {listed:Array Bool} {s:Za} {Γ:Zu} {a:Act} {w:World},listed.size=ops.size→VS ops listed→(WS ops.size listed).length=fuel→UD G call base al ((WS ops.size listed).map fun i=>bops.getD i ⟨none,.bad,none⟩) s=some sF→Inv E s Γ a w→wpAny P .any ops Q fuel listed a w:=by
 obtain ⟨hlen,hget⟩:=X3 hc
 intro fuel
 induction fuel with
 | zero =>
  intro listed s Γ a w hsz hcl hl h hI
  have hn:=List.eq_nil_of_length_eq_zero hl
  rw [hn] at h
  obtain rfl:=Option.some.inj (by simpa [UD] using h:some s=some sF)
  refine ⟨List.eq_nil_iff_forall_not_mem.2 fun i hi=>?_,hQ _ _ _ hI⟩
  obtain ⟨h1,o,h2,_⟩:=mem_ready.1 hi
  have:i ∈ WS ops.size listed:=Y5.2 ⟨(Array.getElem?_eq_some_iff.1 h2).1,h1⟩
  rw [hn] at this
  cases this
 | succ fuel ih =>
  intro listed s Γ a w hsz hcl hl h hI
  have hlisted:∀ j,j < ops.size→listed.getD j true≠false→listed.getD j false=true:=fun j hj h=>by
   have hj':j < listed.size:=by omega
   simp [hj'] at h ⊢; exact h
  refine ⟨fun hr=>?_,fun i hi=>?_⟩
  ·obtain ⟨i,r,hir⟩:∃ i r,WS ops.size listed=i :: r:=by
    cases hx:WS ops.size listed with
    | nil=>rw [hx] at hl; cases hl
    | cons i r=>exact ⟨i,r,rfl⟩
   have him:=Y5.1 (show i ∈ WS ops.size listed by rw [hir]; exact List.mem_cons_self ..)
   have hoi:ops[i]? = some ops[i]:=Array.getElem?_eq_getElem him.1
   have hready:i ∈ Region.ready .any ops listed:=by
    refine mem_ready.2 ⟨him.2,_,hoi,fun e he hb=>?_⟩
    have:=hord i him.1
    rw [hoi] at this
    have hlt:=Array.all_eq_true'.1 this e he
    rw [hb] at hlt
    simp only [Bool.not_true,Bool.false_or,decide_eq_true_eq] at hlt
    refine hlisted e.on (by omega) fun hun=>?_
    have hm:=Y5.2 ⟨show e.on < ops.size by omega,hun⟩
    rw [hir] at hm
    have hs:=QF ops.size listed
    rw [hir] at hs
    rcases List.mem_cons.1 hm with he | hm
    ·omega
    ·have:=(List.pairwise_cons.1 hs).1 _ hm
     omega
   rw [hr] at hready
   cases hready
  ·obtain ⟨hun,o,ho,hdeps⟩:=mem_ready.1 hi
   have hin:=(Array.getElem?_eq_some_iff.1 ho).1
   obtain ⟨l1,l2,hsplit⟩:=List.append_of_mem (Y5.2 ⟨hin,hun⟩)
   have hs:=QF ops.size listed
   rw [hsplit] at hs
   obtain ⟨g,hg1,hg2⟩:=hget i o (by simpa using ho)
   have hbi:bops.getD i ⟨none,.bad,none⟩=⟨o.dst,(cOp P hand draw o).getD .bad,g⟩:=by rw [List.getD_eq_getElem?_getD,hg2]; rfl
   have hcomm:∀ x ∈ l1.map (fun i=>bops.getD i ⟨none,.bad,none⟩),ZhP al x ⟨o.dst,(cOp P hand draw o).getD .bad,g⟩=true:=fun x hx=>by
    obtain ⟨j,hj,rfl⟩:=List.mem_map.1 hx
    have hji:j < i:=(List.pairwise_append.1 hs).2.2 j hj i (List.mem_cons_self ..)
    have hjm:=Y5.1 (show j ∈ WS ops.size listed by rw [hsplit]; exact List.mem_append_left _ hj)
    have:=hpair i hin j hji
    rw [Bool.or_eq_true] at this
    rcases this with h1 | h1
    ·exfalso
     have h2:=hcl.ready ho hdeps (DF h1)
     rw [Gs hjm.2] at h2
     cases h2
    ·rw [hg2] at h1
     split at h1
     ·rename_i x y hx hy
      cases hy
      rw [List.getD_eq_getElem?_getD,hx]
      exact h1
     ·cases h1
   rw [hsplit,List.map_append,List.map_cons,hbi] at h
   obtain ⟨u,hu1,hu2⟩:=ZiZ hcomm h
   rw [← List.map_append,← JC hsplit (by omega)] at hu2
   have hlen2:(WS ops.size (listed.setIfInBounds i true)).length=fuel:=by
    rw [JC hsplit (by omega)]
    rw [hsplit] at hl
    simp at hl ⊢
    omega
   unfold wpOp
   simp only [ho]
   exact ZmX hG hS hg1 hu1 hI fun Γ' a' w' hI'=>ih (by simp [hsz]) (hcl.list ho hdeps) hlen2 hu2 hI'
theorem Inv.keepFree (h:Inv E s Γ a w)(n:Nat):Inv E { s with hp:=s.hp ++ V8 n } Γ a w:=by
 refine ⟨h.defers,h.slots,⟨fun g o hg=>?_,h.rw.inj,h.rw.fresh,fun b g hb=>?_,h.rw.old,h.rw.oldImm,fun g hg b hb=>?_⟩,h.fr,h.base,h.base2,?_,h.back⟩
 ·rw [List.getElem?_append] at hg
  split at hg
  ·exact h.rw.objs g o hg
  ·have:=List.eq_of_mem_replicate (List.mem_of_getElem? hg)
   subst this
   trivial
 ·have:=h.rw.lt b g hb
  simp only [List.length_append]
  omega
 ·have:=h.rw.lt b g hb
  rw [List.getElem?_append_left this] at hg
  exact h.rw.dead g hg b hb
 ·have:=h.le
  simp only [List.length_append]
  omega
theorem Zcj (hG:GOk G E.W0)(hS:ZT P E.W0 (Yd call)){ops:Array Oper}{bops:List ZF}{Q:Exit→Act→World→Prop}{sF:Za}(hc:Vp P hand draw ops ops.toList=some bops)(hd:Ad ops bops=true)(hQ:∀ Γ a w,Inv E sF Γ a w→Q .normal a w)
  (h:Z7 G (Yd call) bops s=some sF) (hI:Inv E s Γ a w):wpAny P .any ops Q ops.size (Array.replicate ops.size false) a w:=by
 simp only [Ad,Bool.and_eq_true,List.all_eq_true,List.mem_range] at hd
 obtain ⟨⟨⟨⟨hord,_⟩,hok⟩,hnd⟩,hpair⟩:=hd
 have hr:WS ops.size (Array.replicate ops.size false)=List.range ops.size:=by
  unfold WS
  refine List.filter_eq_self.2 fun i hi=>?_
  simp only [List.mem_range] at hi
  simp [hi]
 have hmap:(List.range ops.size).map (fun i=>bops.getD i ⟨none,.bad,none⟩)=bops:=by
  have hl:ops.size=bops.length:=by simpa using (X3 hc).1
  rw [hl]
  refine List.ext_getElem? fun i=>?_
  rw [List.getElem?_map]
  by_cases hi:i < bops.length
  ·rw [List.getElem?_range hi,Option.map_some,List.getD_eq_getElem?_getD,List.getElem?_eq_getElem hi]; rfl
  ·rw [List.getElem?_eq_none (by simpa using hi),List.getElem?_eq_none (by omega)]; rfl
 have hs:=sim (base := s.hp.length) hnd hok (Nat.zero_le _) h hI.le rfl (fun r t v hr=>absurd hr (Nat.not_lt_zero _))
 exact Zna hG hS hc hord hpair hQ ops.size (by simp) (.start ops _) (by rw [hr]; simp) (by rw [hr,hmap]; exact hs) (hI.keepFree _)
end
end Go.Proofs.YthkdlifcknpadaaGreat.Abs
end
end
