import Derived.Deep.Quiet
import Derived.Orders
import Derived.LoopN
import Derived.Scope
import Derived.IntWalk
import Derived.Test.YtlmfmmclnboglaaGreatN0
set_option linter.all false
section
set_option linter.all false
section
namespace Go.Proofs.YtlmfmmclnboglaaGreat.Abs
open Go Go.RowKit
section
variable {P:Program}{w:World}
def ZiK (e:AV×AV)(m:MapEntry):Prop:=e.1.flat=true∧e.2.flat1=true∧m.key=e.1.conc∧m.val=e.2.conc1
theorem EC {c:CK}{a b:AV}(h:Uo c a b=some true):a.conc1=b.conc1:=by
 cases c <;> cases a <;> cases b <;> simp only [Uo] at h <;> first | (cases h; done) | skip
 ·split at h
  ·rename_i e
   subst e
   simp only [Option.some.injEq,beq_iff_eq] at h
   rw [h]
  ·cases h
 ·simp only [Option.some.injEq,beq_iff_eq] at h
  rw [h]
 ·simp only [Option.some.injEq,beq_iff_eq] at h
  rw [h]
theorem ZbG {c:CK}{a b:AV}{q:Bool}(h:Uo c a b=some q):a.flat1=true∧b.flat1=true:=by
 cases c <;> cases a <;> cases b <;> simp only [Uo] at h <;> first | (cases h; done) | exact ⟨rfl,rfl⟩
theorem BF {a:AV}(h:a.flat1=true):a.conc=a.conc1:=by cases a <;> first | rfl | (cases h)
theorem ZcR {kt:TypeId}{c:CK}(hk:ZcQ P kt=some (.one c)):Zdi P kt=some c:=by
 unfold ZcQ at hk
 split at hk
 ·split at hk
  ·split at hk <;> cases hk
  ·cases hk
 ·obtain ⟨c',h1,h2⟩:=Option.map_eq_some_iff.1 hk
  cases h2; exact h1
theorem ZdY {kt:TypeId}{c:CK}(hk:ZcQ P kt=some (.pair c)):∃ e,P.underlying kt=some (.array 2 e)∧Zdi P e=some c∧P.cellsOf e=1:=by
 unfold ZcQ at hk
 split at hk
 ·rename_i n e hu
  split at hk
  ·rename_i c' hc
   split at hk
   ·rename_i h2
    cases hk
    obtain ⟨hsz,rfl⟩:=h2
    exact ⟨e,hu,hc,hsz⟩
   ·cases hk
  ·cases hk
 ·obtain ⟨_,_,e⟩:=Option.map_eq_some_iff.1 hk; cases e
theorem Zpl {kt:TypeId}{sh:KSh}{a b:AV}{q:Bool}(hk:ZcQ P kt=some sh)(h:ZdX sh a b=some q)(w:World):(Op.equal kt a.conc b.conc).run P w=.ok q w∧(q=true→a.conc=b.conc):=by
 cases sh with
 | one c =>
  have hc:=ZcR hk
  obtain ⟨f1,f2⟩:=ZbG h
  rw [BF f1,BF f2]
  exact ⟨ZdV (Γ := fun _=>.imm) (w := w) hc (MO f1 _ w) (MO f2 _ w) h 9999 w,fun e=>by subst e; exact EC h⟩
 | pair c =>
  obtain ⟨e,hu,hc,hsz⟩:=ZdY hk
  unfold ZdX at h
  split at h <;> first | (cases h; done) | skip
  ·rename_i e; cases e
  rename_i c' x0 x1 y0 y1 e'
  cases e'
  obtain ⟨g1,g2⟩:=ZbV hc
  obtain ⟨ie,hie⟩:=info_of_underlying g2
  have hp:∀ (z0 z1:Value) (W:World),(part e #[z0,z1] 0).run P W=.ok z0 W∧(part e #[z0,z1] 1).run P W=.ok z1 W:=fun z0 z1 W=>⟨DY g1 g2 rfl W,DY g1 g2 rfl W⟩
  have he:∀ {x y:AV} {r:Bool},Uo c x y=some r→∀ W,(Op.equalIn 9999 e x.conc1 y.conc1).run P W=.ok r W:=fun hr W=>by
   obtain ⟨f1,f2⟩:=ZbG hr
   exact ZdV (Γ := fun _=>.imm) (w := W) hc (MO f1 _ W) (MO f2 _ W) hr 9998 W
  have hrun:∀ {q0:Bool},Uo c x0 y0=some q0→∀ q1,(q0=true→Uo c x1 y1=some q1)→(Op.equal kt (AV.agg [x0,x1]).conc (AV.agg [y0,y1]).conc).run P w=.ok (q0 && q1) w:=by
   intro q0 h0 q1 h1
   have e0:=he h0 w
   have:=run_equalIn_array (P := P) w 9999 (AV.conc1 x0 :: [AV.conc1 x1]).toArray (AV.conc1 y0 :: [AV.conc1 y1]).toArray hu hie
   show (Op.equalIn (9999 + 1) kt (.agg (AV.conc1 x0 :: [AV.conc1 x1]).toArray) (.agg (AV.conc1 y0 :: [AV.conc1 y1]).toArray)).run P w=_
   rw [this,hsz]
   show (Op.eqItems 9999 e 1 #[x0.conc1,x1.conc1] #[y0.conc1,y1.conc1] [0,1]).run P w=_
   simp only [Op.eqItems,Sem.run_bind,Nat.mul_one,(hp _ _ w).1,Result.andThen_ok,e0]
   cases q0 with
   | false=>simp
   | true =>
    have e1:=he (h1 rfl) w
    simp only [Bool.not_true,Bool.false_eq_true,if_false,Sem.run_bind,(hp _ _ w).2,Result.andThen_ok,e1]
    cases q1 <;> simp
  cases h0:Uo c x0 y0 with
  | none=>rw [h0] at h; cases h
  | some q0 =>
   rw [h0] at h
   cases q0 with
   | false =>
    obtain rfl:=Option.some.inj h
    exact ⟨by simpa using hrun h0 false (fun h=>by cases h),fun h=>by cases h⟩
   | true =>
    have h1:Uo c x1 y1=some q:=h
    refine ⟨by simpa using hrun h0 q (fun _=>h1),fun e=>?_⟩
    subst e
    simp only [AV.conc,List.map_cons,List.map_nil,EC h0,EC h1]
structure Found (sh:KSh)(k:AV)(es:List (AV×AV))(st:Nat)(r:Option AV)(q:Option (Nat×Value)):Prop where
 no:r=none→q=none∧∀ v,update sh k v es=some (es ++ [(k,v)])
 yes:∀ v,r=some v→∃ i k',q=some (st + i,v.conc1)∧v.flat1=true∧es[i]? = some (k',v)∧k.conc=k'.conc∧∀ v2,update sh k v2 es=some (es.set i (k',v2))
theorem Found.here {sh:KSh}{k k' v:AV}{es:List (AV×AV)}{st:Nat}(hq:ZdX sh k k'=some true)(hc:k.conc=k'.conc)(hf:v.flat1=true):Found sh k ((k',v) :: es) st (some v) (some (st,v.conc1)) :=
 ⟨fun e=>(by cases e),fun u e=>by cases e; exact ⟨0,k',rfl,hf,rfl,hc,fun v2=>by simp [update,hq]⟩⟩
theorem Found.later {sh:KSh}{k k' v:AV}{es:List (AV×AV)}{st:Nat}{r:Option AV}{q:Option (Nat×Value)}(hq:ZdX sh k k'=some false)(h:Found sh k es (st + 1) r q):Found sh k ((k',v) :: es) st r q:=by
 refine ⟨fun e=>⟨(h.no e).1,fun v2=>by simp [update,hq,(h.no e).2 v2]⟩,fun u e=>?_⟩
 obtain ⟨i,k2,h1,h2,h3,h4,h5⟩:=h.yes u e
 exact ⟨i + 1,k2,by rw [h1,Nat.add_assoc,Nat.add_comm 1 i],h2,by simpa using h3,h4,fun v2=>by simp [update,hq,h5 v2]⟩
theorem Found.none_ {sh:KSh}{k:AV}{st:Nat}:Found sh k [] st none none:=⟨fun _=>⟨rfl,fun _=>rfl⟩,fun _ e=>by cases e⟩
theorem Znp {kt:TypeId}{sh:KSh}{k:AV}(hk:ZcQ P kt=some sh)(w:World):∀ {es:List (AV×AV)} {ms:List MapEntry} {r:Option AV} (st:Nat),Zk9 ZiK es ms→find sh k es=some r →
  ∃ q,(Instr.findAsking kt k.conc ms st).run P w=.ok q w∧Found sh k es st r q
 | _,_,r,st,.nil,h=>by
  obtain rfl:=Option.some.inj h
  exact ⟨none,rfl,.none_⟩
 | _,_,r,st,.cons (x := e) (y := m) (l := es) (m := ms) he hes,h=>by
  obtain ⟨k',v⟩:=e
  simp only [find] at h
  cases hq:ZdX sh k k' with
  | none=>rw [hq] at h; cases h
  | some q =>
   rw [hq] at h
   obtain ⟨e1,e2⟩:=Zpl hk hq w
   obtain ⟨r1,r2,r3,r4⟩:=he
   cases q with
   | true =>
    obtain rfl:=Option.some.inj h
    refine ⟨some (st,v.conc1),?_,.here hq (e2 rfl) r2⟩
    simp only [Instr.findAsking,Sem.run_bind,r3,e1,Result.andThen_ok,r4]
    rfl
   | false =>
    obtain ⟨q,h1,h2⟩:=Znp hk w (st + 1) hes h
    refine ⟨q,?_,.later hq h2⟩
    simp only [Instr.findAsking,Sem.run_bind,r3,e1,Result.andThen_ok]
    exact h1
theorem ZmY {kt:TypeId}{c:CK}{a b:AV}{q:Bool}{d:TypeDesc}(hc:Zdi P kt=some c)(hd:P.underlying kt=some d)(h:Uo c a b=some q):Instr.sameNow d a.conc1 b.conc1=some q:=by
 unfold Zdi at hc
 rw [hd] at hc
 cases d <;> simp only at hc <;> first | (cases hc; done) | skip
 all_goals
  cases hc
  cases a <;> cases b <;> simp only [Uo] at h <;> first | (cases h; done) | skip
 all_goals first
  | exact h
  | (simp only [AV.conc1,Instr.sameNow]; rw [← h]; congr 1; rw [Bool.eq_iff_iff,beq_toListBytes]; simp)
theorem Zg9 {kt:TypeId}{c:CK}{k:AV}{d:TypeDesc}(hk:ZcQ P kt=some (.one c))(hd:P.underlying kt=some d):∀ {es:List (AV×AV)} {ms:List MapEntry} {r:Option AV} (st:Nat),Zk9 ZiK es ms→find (.one c) k es=some r →
  ∃ q,Instr.findNow d k.conc ms st=some q∧Found (.one c) k es st r q
 | _,_,r,st,.nil,h=>by
  obtain rfl:=Option.some.inj h
  exact ⟨none,rfl,.none_⟩
 | _,_,r,st,.cons (x := e) (y := m) (l := es) (m := ms) he hes,h=>by
  obtain ⟨k',v⟩:=e
  simp only [find] at h
  cases hq:ZdX (.one c) k k' with
  | none=>rw [hq] at h; cases h
  | some q =>
   rw [hq] at h
   obtain ⟨r1,r2,r3,r4⟩:=he
   obtain ⟨f1,f2⟩:=ZbG hq
   have hs:=ZmY (ZcR hk) hd hq
   rw [← BF f1,← BF f2] at hs
   cases q with
   | true =>
    obtain rfl:=Option.some.inj h
    refine ⟨some (st,v.conc1),?_,.here hq (by rw [BF f1,BF f2]; exact EC hq) r2⟩
    simp only [Instr.findNow,r3,hs,r4]
   | false =>
    obtain ⟨q,h1,h2⟩:=Zg9 hk hd (st + 1) hes h
    refine ⟨q,?_,.later hq h2⟩
    simp only [Instr.findNow,r3,hs]
    exact h1
theorem ZbH {kt:TypeId}{sh:KSh}{k:AV}(hk:ZcQ P kt=some sh)(w:World){es:List (AV×AV)}{ms:List MapEntry}{r:Option AV}(he:Zk9 ZiK es ms)(h:find sh k es=some r) :
  ∃ q,(Instr.findKey kt k.conc ms).run P w=.ok q w∧Found sh k es 0 r q:=by
 cases sh with
 | one c =>
  have hc:=ZcR hk
  obtain ⟨d,hd⟩:=Option.isSome_iff_exists.1 (ZbV hc).2
  obtain ⟨q,h1,h2⟩:=Zg9 hk hd 0 he h
  exact ⟨q,Go.MapKept.run_findKey hd h1,h2⟩
 | pair c =>
  obtain ⟨e,hu,_,_⟩:=ZdY hk
  obtain ⟨q,h1,h2⟩:=Znp hk w 0 he h
  exact ⟨q,(run_findKey_eq w (by rw [hu]) _ _).trans h1,h2⟩
theorem ZbI {sh:KSh}{k:AV}(h:DT sh k=true):k.flat=true:=by
 unfold DT at h
 split at h <;> first | rfl | (cases h; done)
theorem Zev {kt:TypeId}{sh:KSh}{k:AV}(hk:ZcQ P kt=some sh)(h:DT sh k=true)(e:Bool)(w:World):(Instr.checkKey e 10000 kt k.conc).run P w=.ok () w:=by
 have plain:∀ {t:TypeId} {c:CK} (n:Nat) (v:Value),Zdi P t=some c→(Instr.checkKey e (n + 1) t v).run P w=.ok () w:=fun {t c} n v hc=>by
  unfold Zdi at hc
  cases hd:P.underlying t with
  | none=>rw [hd] at hc; cases hc
  | some d =>
   rw [hd] at hc
   cases d <;> simp only at hc <;> first | (cases hc; done) | skip
   all_goals simp [Instr.checkKey,run_underlying hd]
 cases sh with
 | one c=>exact plain 9999 _ (ZcR hk)
 | pair c =>
  obtain ⟨el,hu,hc,hsz⟩:=ZdY hk
  obtain ⟨g1,g2⟩:=ZbV hc
  obtain ⟨ie,hie⟩:=info_of_underlying g2
  have hp:∀ (z0 z1:Value),(part el #[z0,z1] 0).run P w=.ok z0 w∧(part el #[z0,z1] 1).run P w=.ok z1 w:=fun z0 z1=>⟨DY g1 g2 rfl w,DY g1 g2 rfl w⟩
  have hs:=XJ hie w
  rw [hsz] at hs
  have key:∀ x0 x1:AV,(Instr.checkKey e (9999 + 1) kt (AV.agg [x0,x1]).conc).run P w=.ok () w:=fun x0 x1=>by
   have p1:=plain 9998 x0.conc1 hc
   have p2:=plain 9998 x1.conc1 hc
   simp only [AV.conc,List.map_cons,List.map_nil]
   unfold Instr.checkKey
   simp only [Sem.run_bind,run_underlying hu,Result.andThen_ok]
   simp only [Std.Legacy.Range.forIn_eq_forIn_range',Std.Legacy.Range.size,Nat.sub_zero,Nat.add_one_sub_one,Nat.div_one]
   simp only [List.range'_succ,List.range'_zero,List.forIn_cons,List.forIn_nil,Sem.run_bind,hs,Result.andThen_ok,Nat.zero_mul,Nat.zero_add,Nat.mul_one,(hp _ _).1,(hp _ _).2,p1,p2,Sem.run_pure]
  unfold DT at h
  split at h <;> first | (cases h; done) | skip
  all_goals first | exact key _ _ | (rename_i e; cases e; done) | (rename_i e _; cases e; done) | (rename_i e _ _; cases e; done) | (rename_i e _ _ _; cases e; done)
end
end Go.Proofs.YtlmfmmclnboglaaGreat.Abs
end
section
namespace Go.Proofs.YtlmfmmclnboglaaGreat.Abs
open Go Go.RowKit
section
variable {P:Program}{G:Nat→Option (List AV)}{E:Entry}{s:Zv}{Γ:WC}{a:Act}{w:World}{o:Oper}
theorem Zbg {v:AV}{cv:Value}(h:Rep Γ w v cv)(hf:v.flat=true):cv=v.conc:=by
 cases h with
 | agg cells cv hs h1 hn hr =>
  simp only [AV.flat,List.all_eq_true] at hf
  simp only [AV.conc,Value.agg.injEq]
  apply Array.ext'
  apply List.ext_getElem?
  intro j
  simp only [List.getElem?_map,Array.getElem?_toList]
  by_cases hj:j < cells.length
  ·have hc:=List.getElem?_eq_getElem hj
   have:=(hr j _ hc).conc1 (hf _ (List.getElem_mem hj))
   rw [hc,Option.map_some,← this]
   exact Jc (by omega)
  ·rw [List.getElem?_eq_none (by omega),Array.getElem?_eq_none (by omega)]; rfl
 | tup vs cv hs hr =>
  simp only [AV.flat,List.all_eq_true] at hf
  simp only [AV.conc,Value.tuple.injEq]
  apply Array.ext'
  apply List.ext_getElem?
  intro j
  simp only [List.getElem?_map,Array.getElem?_toList]
  by_cases hj:j < vs.length
  ·have hc:=List.getElem?_eq_getElem hj
   have:=(hr j _ hc).conc1 (hf _ (List.getElem_mem hj))
   rw [hc,Option.map_some,← this]
   exact Jc (by omega)
  ·rw [List.getElem?_eq_none (by omega),Array.getElem?_eq_none (by omega)]; rfl
 | fn f fst caps fv cv hs1 hr1 hs hr =>
  exact (Rep.fn f fst caps fv cv hs1 hr1 hs hr).conc1 hf
 | _=>first | rfl | (cases hf; done)
theorem Zf5 {es:List (AV×AV)}{ms:Array MapEntry}(hs:ms.size=es.length)(h:∀ (i:Nat) (e:AV×AV),es[i]? = some e→∃ m,ms[i]? = some m∧e.1.flat=true∧e.2.flat1=true∧m.key=e.1.conc∧m.val=e.2.conc1):Zk9 ZiK es ms.toList:=by
 refine Zk9.of_get (by simpa using hs.symm) fun j e m he hm=>?_
 obtain ⟨m',h1,h2⟩:=h j e he
 rw [Array.getElem?_toList,h1] at hm
 cases hm
 exact h2
theorem Zql {t:TypeId}{z:AV}(hz:zeroOf P t=some z)(hf:z.flat1=true)(w:World):(zeroValue t).run P w=.ok z.conc1 w:=by
 obtain ⟨i,zv,hi,hzv,hrep⟩:=Rf hz
 rw [← (hrep (fun _=>.imm) w).1.conc1 hf]
 simp [zeroValue,typeInfo,hi,hzv]
def Zps (ok:Bool)(z:AV):Option AV→Value
 | some v=>if ok then .tuple #[v.conc1,.bool true] else v.conc1
 | none=>if ok then .tuple #[z.conc1,.bool false] else z.conc1
def ZrR (ok:Bool)(z:AV):Option AV→AV
 | some v=>if ok then AV.tup [v,.bool true] else v
 | none=>if ok then AV.tup [z,.bool false] else z
theorem ZnX {t kt et:TypeId}{sh:KSh}{k z:AV}{ok:Bool}{b:Nat}{ms:Array MapEntry}{clk:Nat}{es:List (AV×AV)}{r:Option AV}(ht:P.underlying t=some (.map kt et))(hk:ZcQ P kt=some sh)(hb:w.heap[b]? = some (.map ms clk))(he:Zk9 ZiK es ms.toList)(hf:find sh k es=some r)
  (hck:∀ emp,(Instr.checkKey emp 10000 kt k.conc).run P w=.ok () w) (hz:(zeroValue et).run P w=.ok z.conc1 w):(Instr.lookup t (.map (some b)) k.conc ok).run P w=.ok (Zps ok z r) w∧∀ v,r=some v→v.flat1=true:=by
 obtain ⟨q,e1,e2⟩:=ZbH hk w he hf
 cases r with
 | none =>
  obtain ⟨rfl,_⟩:=e2.no rfl
  refine ⟨?_,fun v e=>by cases e⟩
  simp only [Instr.lookup,Sem.run_bind,run_underlying ht,MapKept.run_getObj_map hb,hck,Result.andThen_ok,e1,hz,Sem.run_pure]
  rfl
 | some v =>
  obtain ⟨j,k',rfl,hv,_⟩:=e2.yes v rfl
  refine ⟨?_,fun v' e=>by cases e; exact hv⟩
  simp only [Instr.lookup,Sem.run_bind,run_underlying ht,MapKept.run_getObj_map hb,hck,Result.andThen_ok,e1,Sem.run_pure]
  rfl
theorem ZsH (hG:GOk G E.W0)(hI:Inv E s Γ a w){t kt et:TypeId}{sh:KSh}{z:AV}{x i:Operand}{x' i':V8}{u k v:AV}{ok:Bool}(ho:o.op=.lookup t x i ok)(ht:P.underlying t=some (.map kt et))(hk:ZcQ P kt=some sh)(hz:zeroOf P et=some z)(hzf:z.flat1=true)
  (hcx:QG P t x=some x') (hci:QG P kt i=some i') (hx:opnd G s.sl x'=some u) (hi:opnd G s.sl i'=some k) (h:NF s.hp sh z u k ok=some v):AP P E s v a w o:=by
 have k1:=(Yb hG hI hcx hx).1
 have k2:=(Yb hG hI hci hi).1
 unfold NF at h
 split at h
 ·cases h
 rename_i hfit
 have hfit:DT sh k=true:=by simpa using hfit
 have hkc:=Zbg k2 (ZbI hfit)
 have hzr:=Zql hz hzf w
 have hck:∀ emp,(Instr.checkKey emp 10000 kt k.conc).run P w=.ok () w:=fun emp=>Zev hk hfit emp w
 have fin:∀ (r:Option AV),(∀ v,r=some v→v.flat1=true)→(execOp a.eval o).run P w=.ok (.value (Zps ok z r)) w →
   ZrR ok z r=v→AP P E s v a w o:=by
  intro r hr hrun hv
  have two:∀ (y:AV) (b:Bool),y.flat1=true→Rep Γ w (if ok then AV.tup [y,.bool b] else y) (if ok then Value.tuple #[y.conc1,.bool b] else y.conc1):=fun y b hy=>by
   cases ok with
   | false=>exact MO hy Γ w
   | true =>
    refine .tup _ #[y.conc1,.bool b] rfl fun j c hj=>?_
    match j with
    | 0=>cases hj; exact MO hy Γ w
    | 1=>cases hj; exact .bool b
    | j + 2=>simp at hj
  have nown:∀ (y:AV) (b:Bool),y.flat1=true→∀ k r,(if ok then AV.tup [y,.bool b] else y)≠.own k r:=fun y b hy=>by
   cases ok with
   | false=>exact Zlt hy
   | true=>intro k r e; cases e
  cases r with
  | some y =>
   subst hv
   exact .pure hI hrun (two y true (hr y rfl)) fun k r e=>absurd e (nown y true (hr y rfl) k r)
  | none =>
   subst hv
   exact .pure hI hrun (two z false hzf) fun k r e=>absurd e (nown z false hzf k r)
 generalize hq:a.eval x=q at k1
 have hexec:∀ r,(Instr.lookup t q k.conc ok).run P w=.ok r w→(execOp a.eval o).run P w=.ok (.value r) w:=fun r hr=>by
  simp only [execOp,ho,hq,hkc]
  rw [Sem.run_bind,hr]; rfl
 have some_:∀ {g:Nat} {es:List (AV×AV)} {r:Option AV},s.hp[g]? = some (.map es)→find sh k es=some r→Rep Γ w (.map g) q→ZrR ok z r=v→AP P E s v a w o:=by
  intro g es r hg hf hm hv
  cases hm with
  | map _ b hb =>
   obtain ⟨b',ms,clk,h1,h2,h3,h4⟩:=hI.rw.objs g _ hg
   obtain rfl:=hI.rw.inj b b' g hb h1
   obtain ⟨m1,m2⟩:=ZnX (ok := ok) ht hk h2 (Zf5 h3 h4) hf hck hzr
   exact fin r m2 (hexec _ m1) hv
 split at h
 ·rename_i y hy
  split at hy <;> first | (cases hy; done) | skip
  split at hy <;> first | (cases hy; done) | skip
  rename_i hg
  exact some_ hg hy k1 (Option.some.inj h)
 ·rename_i hy
  split at hy <;> first | (cases hy; done) | skip
  ·cases k1
   refine fin none (fun v e=>by cases e) (hexec _ ?_) (Option.some.inj h)
   simp only [Instr.lookup,Sem.run_bind,run_underlying ht,Result.andThen_ok,Sem.run_pure,hck]
   have:(Instr.findKey kt k.conc []).run P w=.ok none w:=by
    obtain ⟨q,e1,e2⟩:=ZbH (k := k) (r := none) hk w (.nil:Zk9 ZiK [] []) rfl
    obtain ⟨rfl,_⟩:=e2.no rfl
    exact e1
   simp only [this,Result.andThen_ok,Sem.run_bind,hzr,Sem.run_pure]
   rfl
  ·split at hy <;> first | (cases hy; done) | skip
   rename_i hg
   exact some_ hg hy k1 (Option.some.inj h)
 ·cases h
theorem EJ {c:CK}{x y:AV}(n:Nat)(h:Uo c x y=some true):Instr.sameBits n y.conc1 x.conc1=true:=by
 cases c <;> cases x <;> cases y <;> simp only [Uo] at h <;> first | (cases h; done) | skip
 ·split at h
  ·rename_i e
   subst e
   simp only [Option.some.injEq,beq_iff_eq] at h
   subst h
   simp [AV.conc1,Instr.sameBits]
  ·cases h
 ·simp only [Option.some.injEq,beq_iff_eq] at h
  subst h
  simp [AV.conc1,Instr.sameBits]
 ·simp only [Option.some.injEq,beq_iff_eq] at h
  subst h
  simp [AV.conc1,Instr.sameBits,beq_toListBytes]
theorem Zkx {sh:KSh}{k:AV}(h:DT sh k=true):Instr.sameBits 10000 k.conc k.conc=true:=by
 have one:∀ (x:AV),(∃ k n,x=.int k n)∨(∃ b,x=.bool b)∨(∃ s,x=.str s)→∀ n,Instr.sameBits n x.conc1 x.conc1=true:=fun x hx n=>by
  rcases hx with ⟨k,m,rfl⟩ | ⟨b,rfl⟩ | ⟨s,rfl⟩
  ·exact EJ (c := .int) n (by simp [Uo])
  ·exact EJ (c := .bool) n (by simp [Uo])
  ·exact EJ (c := .str) n (by simp [Uo])
 have two:∀ x y:AV,((∃ k n,x=.int k n)∨(∃ b,x=.bool b)∨(∃ s,x=.str s))→((∃ k n,y=.int k n)∨(∃ b,y=.bool b)∨(∃ s,y=.str s))→Instr.sameBits (9999 + 1) (AV.agg [x,y]).conc (AV.agg [x,y]).conc=true:=fun x y hx hy=>by
  simp only [AV.conc,List.map_cons,List.map_nil,Instr.sameBits,List.zip_cons_cons,List.zip_nil_right,List.all_cons,List.all_nil,one x hx 9999,one y hy 9999,beq_self_eq_true,Bool.and_self]
 unfold DT at h
 split at h <;> first | (cases h; done) | skip
 ·exact one _ (.inl ⟨_,_,rfl⟩) _
 ·exact one _ (.inr (.inl ⟨_,rfl⟩)) _
 ·exact one _ (.inr (.inr ⟨_,rfl⟩)) _
 ·exact two _ _ (.inl ⟨_,_,rfl⟩) (.inl ⟨_,_,rfl⟩)
 ·exact two _ _ (.inr (.inr ⟨_,rfl⟩)) (.inr (.inr ⟨_,rfl⟩))
theorem ZsK (hG:GOk G E.W0)(hI:Inv E s Γ a w){t kt et:TypeId}{sh:KSh}{m k v:Operand}{m' k' v':V8}{g:Nat}{ka va:AV}{es es':List (AV×AV)}(ho:o.op=.mapUpdate t m k v)(ht:P.underlying t=some (.map kt et))(hk:ZcQ P kt=some sh)
  (hcm:QG P t m=some m') (hck:QG P kt k=some k') (hcv:QG P et v=some v') (hm:opnd G s.sl m'=some (.map g)) (hka:opnd G s.sl k'=some ka) (hva:opnd G s.sl v'=some va) (hg:s.hp[g]? = some (.map es)) (hfit:DT sh ka=true) (hvf:va.flat1=true)
  (hf:∃ r,find sh ka es=some r) (hu:update sh ka va es=some es'):AP P E { s with hp:=s.hp.set g (.map es'),ef := s.note g 0 } .undef a w o:=by
 obtain ⟨r,hf⟩:=hf
 have k1:=(Yb hG hI hcm hm).1
 have hkc:=Zbg (Yb hG hI hck hka).1 (ZbI hfit)
 have hvc:=(Yb hG hI hcv hva).1.conc1 hvf
 generalize hq:a.eval m=q at k1
 cases k1 with
 | map _ b hb =>
  obtain ⟨b',ms,clk,h1,h2,h3,h4⟩:=hI.rw.objs g _ hg
  obtain rfl:=hI.rw.inj b b' g hb h1
  obtain ⟨q,e1,e2⟩:=ZbH hk w (Zf5 h3 h4) hf
  have hlt:=lt_of_some h2
  have step:∀ (ms':Array MapEntry) (clk':Nat),(ms'.size=es'.length∧∀ (i:Nat) (e:AV×AV),es'[i]? = some e→∃ m,ms'[i]? = some m∧e.1.flat=true∧e.2.flat1=true∧m.key=e.1.conc∧m.val=e.2.conc1) →
    Inv E { s with hp:=s.hp.set g (.map es'),ef := s.note g 0 } Γ a { w with heap:=w.heap.setIfInBounds b (.map ms' clk') }:=fun ms' clk' hrel=>by
   have same:∀ b',b'≠b→({ w with heap:=w.heap.setIfInBounds b (.map ms' clk') }:World).heap[b']? = w.heap[b']?:=fun b' hne=>by simp [Ne.symm hne]
   refine hI.update hb ⟨rfl,rfl,rfl,by simp,fun b' _ hne=>⟨rfl,same b' hne⟩,fun b' q y k1 k2=>⟨k1,?_⟩,.refl _⟩ (BG s g 0) (by simp) ⟨b,ms',clk',hb,by simp [hlt],hrel.1,hrel.2⟩
   have:b'≠b:=by
    rintro rfl
    unfold ZaS at k1
    rw [hb] at k1
    exact k1
   exact (NT (same b' this)).trans k2
  have hexec:∀ w',(Instr.mapUpdate t (.map (some b)) ka.conc va.conc1).run P w=.ok () w'→(execOp a.eval o).run P w=.ok .skip w':=fun w' hr=>by
   simp only [execOp,ho,hq,hkc,hvc]
   rw [Sem.run_bind,hr]; rfl
  have hchk:=Zev hk hfit false w
  cases r with
  | none =>
   obtain ⟨rfl,hup⟩:=e2.no rfl
   have:=(hup va).symm.trans hu
   obtain rfl:=Option.some.inj this
   refine ⟨Γ,Go.undef,_,.inr ⟨hexec { w with heap:=w.heap.setIfInBounds b (.map (ms.push { key := ka.conc,val := va.conc1,born := clk }) (clk + 1)) } ?_,rfl⟩,step _ _ ⟨by simp [h3],fun i e he=>?_⟩,.undef,.of_ne (by simp)⟩
   ·simp only [Instr.mapUpdate,Sem.run_bind,run_underlying ht,Result.andThen_ok,MapKept.run_getObj_map h2,hchk,e1,MapKept.run_setObj_map _ h2]
   ·rw [List.getElem?_append] at he
    split at he
    ·rename_i hi
     obtain ⟨m,a1,a2⟩:=h4 i e he
     exact ⟨m,by rw [Array.getElem?_push,if_neg (by omega)]; exact a1,a2⟩
    ·rename_i hi
     have hi':i=es.length:=by
      rcases Nat.lt_or_ge (i - es.length) 1 with h' | h'
      ·omega
      ·rw [List.getElem?_eq_none (by simpa using h')] at he; cases he
     subst hi'
     simp only [Nat.sub_self,List.getElem?_cons_zero,Option.some.injEq] at he
     subst he
     exact ⟨_,by rw [Array.getElem?_push,if_pos h3.symm],ZbI hfit,hvf,rfl,rfl⟩
  | some u =>
   obtain ⟨i,k2,rfl,_,hei,hkk,hup⟩:=e2.yes u rfl
   have:=(hup va).symm.trans hu
   obtain rfl:=Option.some.inj this
   obtain ⟨mi,a1,a2,a3,a4,a5⟩:=h4 i _ hei
   have hkeep:(Instr.keyThatStays (((ms[0 + i]?).map (·.key)).getD ka.conc) ka.conc).run P w=.ok ka.conc w:=by
    rw [Nat.zero_add,a1]
    simp only [Option.map_some,Option.getD_some,a4]
    unfold Instr.keyThatStays
    rw [← hkk,if_pos (Zkx hfit)]
    rfl
   refine ⟨Γ,Go.undef,_,.inr ⟨hexec { w with heap:=w.heap.setIfInBounds b (.map (ms.modify (0 + i) fun e=>{ e with key:=ka.conc,val := va.conc1 }) clk) } ?_,rfl⟩,step _ _ ⟨by simp [h3],fun j e he=>?_⟩,.undef,.of_ne (by simp)⟩
   ·simp only [Instr.mapUpdate,Sem.run_bind,run_underlying ht,Result.andThen_ok,MapKept.run_getObj_map h2,hchk,e1,hkeep,MapKept.run_setObj_map _ h2]
   ·rw [Nat.zero_add,Array.getElem?_modify]
    rw [List.getElem?_set] at he
    split at he
    ·rename_i hij
     subst hij
     split at he
     ·obtain rfl:=Option.some.inj he
      refine ⟨{ mi with key:=ka.conc,val := va.conc1 },by rw [if_pos rfl,a1]; rfl,a2,hvf,hkk,rfl⟩
     ·cases he
    ·rename_i hij
     obtain ⟨m,b1,b2⟩:=h4 j e he
     exact ⟨m,by rw [if_neg hij]; exact b1,b2⟩
end
end Go.Proofs.YtlmfmmclnboglaaGreat.Abs
end
section
namespace Go.Proofs.YtlmfmmclnboglaaGreat.Abs
open Go Go.RowKit
theorem ZhA {sh:KSh}{k v:AV}:∀ {es es':List (AV×AV)},update sh k v es=some es'→∃ r,find sh k es=some r
 | [],_,_=>⟨none,rfl⟩
 | (k',v') :: l,es',h=>by
  simp only [update] at h
  simp only [find]
  split at h
  ·exact ⟨_,rfl⟩
  ·obtain ⟨l',h',_⟩:=Option.map_eq_some_iff.1 h
   exact ZhA h'
  ·cases h
theorem Jl {α β:Type}{x:Option α}{s s':β}{v:α}(h:x.map (·,s)=some (v,s')):x=some v∧s'=s:=by
 obtain ⟨y,h1,h2⟩:=Option.map_eq_some_iff.1 h
 cases h2
 exact ⟨h1,rfl⟩
section
variable {P:Program}{G:Nat→Option (List AV)}{call:FuncId→List AV→List Zk→Option (AV×List Zk×Eff)}{E:Entry}{s s':Zv}{Γ:WC}{a:Act}{w:World}{o:Oper}{hand:Nat→Bool}{draw:Bool}{ao:AOp}{v:AV}
theorem ZsO (hG:GOk G E.W0)(hI:Inv E s Γ a w){x:Operand}(hop:o.op=.move x)(hc:cOp P hand draw o=some ao)(h:Zo G call s ao=some (v,s')):PH P E Γ s s' v a w o ao:=by
 simp only [cOp,hop] at hc
 split at hc
 ·rename_i t
  split at hc
  ·obtain rfl:=Option.some.inj hc
   simp only [Zo] at h
   split at h <;> first | (cases h; done) | skip
   rename_i u hu
   cases h
   exact (Zp6 hI (.inl hop) hu).fit
  ·obtain rfl:=Option.some.inj hc
   replace h:=Jl h; obtain ⟨h,hss⟩:=h
   subst hss
   exact (ZqU (t := 0) hG hI (.inl hop) rfl h).fit hI
 ·obtain ⟨y,hy,rfl⟩:=Option.map_eq_some_iff.1 hc
  replace h:=Jl h; obtain ⟨h,hss⟩:=h
  subst hss
  exact (ZqU hG hI (.inl hop) hy h).fit hI
theorem Zp8 (hG:GOk G E.W0)(hI:Inv E s Γ a w){x:Operand}(hop:o.op=.assign x)(hc:cOp P hand draw o=some ao)(h:Zo G call s ao=some (v,s')):PH P E Γ s s' v a w o ao:=by
 simp only [cOp,hop] at hc
 split at hc
 ·rename_i t
  split at hc
  ·obtain rfl:=Option.some.inj hc
   replace h:=Jl h; obtain ⟨h,hss⟩:=h
   subst hss
   exact (ZqU (t := 0) hG hI (.inr hop) rfl h).fit hI
  ·obtain rfl:=Option.some.inj hc
   simp only [Zo] at h
   split at h <;> first | (cases h; done) | skip
   rename_i u hu
   cases h
   exact (Zp6 hI (.inr hop) hu).fit
 ·obtain ⟨y,hy,rfl⟩:=Option.map_eq_some_iff.1 hc
  replace h:=Jl h; obtain ⟨h,hss⟩:=h
  subst hss
  exact (ZqU hG hI (.inr hop) hy h).fit hI
theorem ZsP (hG:GOk G E.W0)(hI:Inv E s Γ a w){c x y:Operand}(hop:o.op=.pick c x y)(hc:cOp P hand draw o=some ao)(h:Zo G call s ao=some (v,s')):PH P E Γ s s' v a w o ao:=by
 simp only [cOp,hop] at hc
 split at hc <;> first | (cases hc; done) | skip
 rename_i c' x' y' h1 h2 h3
 obtain rfl:=Option.some.inj hc
 simp only [Zo] at h
 split at h <;> first | (cases h; done) | skip
 ·rename_i hb
  replace h:=Jl h; obtain ⟨h,hss⟩:=h
  subst hss
  exact (Zp5 (b := true) hG hI hop h1 h2 h3 hb h).fit hI
 ·rename_i hb
  replace h:=Jl h; obtain ⟨h,hss⟩:=h
  subst hss
  exact (Zp5 (b := false) hG hI hop h1 h2 h3 hb h).fit hI
theorem ZrX (hG:GOk G E.W0)(hI:Inv E s Γ a w)(hop:(∃ e,o.op=.alloc e)∨(∃ e x,o.op=.box e x))(hc:cOp P hand draw o=some ao)(h:Zo G call s ao=some (v,s')):PH P E Γ s s' v a w o ao:=by
 rcases hop with ⟨e,hop⟩ | ⟨e,x,hop⟩
 ·simp only [cOp,hop] at hc
  split at hc <;> first | (cases hc; done) | skip
  rename_i z hz
  split at hc <;> first | (cases hc; done) | skip
  rename_i h1
  obtain rfl:=Option.some.inj hc
  simp only [Zo] at h
  cases h
  exact (ZuM hI hop hz h1).fit
 ·simp only [cOp,hop] at hc
  obtain ⟨y,hy,rfl⟩:=Option.map_eq_some_iff.1 hc
  simp only [Zo] at h
  split at h <;> first | (cases h; done) | skip
  rename_i u hu
  split at h <;> first | (cases h; done) | skip
  rename_i hl
  cases h
  exact (ZtV hG hI hop hy hu hl.2).fit
theorem ZqX (hG:GOk G E.W0)(hI:Inv E s Γ a w){t:TypeId}{parts:Array (Nat×Operand)}(hop:o.op=.build t parts)(hc:cOp P hand draw o=some ao)(h:Zo G call s ao=some (v,s')):PH P E Γ s s' v a w o ao:=by
 simp only [cOp,hop] at hc
 split at hc <;> first | (cases hc; done) | skip
 rename_i hs
 split at hc <;> first | (cases hc; done) | skip
 rename_i z ps hz hp
 obtain rfl:=Option.some.inj hc
 simp only [Zo] at h
 split at h <;> first | (cases h; done) | skip
 rename_i vs hv
 obtain ⟨cs,h1,h2⟩:=Option.map_eq_some_iff.1 h
 cases h2
 exact (ZqR hG hI hop hs hz hp hv h1).fit
theorem Zuf (hG:GOk G E.W0)(hI:Inv E s Γ a w){t:TypeId}{len:Nat}{parts:Array (Nat×Operand)}(hop:o.op=.buildSlice t len parts)(hc:cOp P hand draw o=some ao)(h:Zo G call s ao=some (v,s')):PH P E Γ s s' v a w o ao:=by
 simp only [cOp,hop] at hc
 split at hc <;> first | (cases hc; done) | skip
 rename_i e ht
 split at hc <;> first | (cases hc; done) | skip
 rename_i hx
 obtain ⟨h1,h2,h3,h4⟩:=hx
 obtain ⟨ps,hp,rfl⟩:=Option.map_eq_some_iff.1 hc
 by_cases hm:(hand CS || hand (CS + 1 + e))=true
 ·simp only [hm,if_true,Zo] at h ⊢
  split at h <;> first | (cases h; done) | skip
  rename_i vs hv
  split at h <;> first | (cases h; done) | skip
  rename_i hall
  cases h
  exact (Zp4 hG hI hop ht h1 h2 h4 hp hv hall).fit
 ·simp only [if_neg hm,Zo] at h ⊢
  split at h <;> first | (cases h; done) | skip
  rename_i vs hv
  split at h
  ·rename_i hall
   cases h
   exact (Zub hG hI hop ht h1 h2 h3 h4 hp hv hall).fit
  ·split at h <;> first | (cases h; done) | skip
   rename_i hall
   cases h
   exact (Zp4 hG hI hop ht h1 h2 h4 hp hv hall).fit
theorem ZsN (hG:GOk G E.W0)(hI:Inv E s Γ a w){t:TypeId}{p:Operand}(hop:o.op=.load t p)(hc:cOp P hand draw o=some ao)(h:Zo G call s ao=some (v,s')):PH P E Γ s s' v a w o ao:=by
 simp only [cOp,hop] at hc
 split at hc <;> first | (cases hc; done) | skip
 rename_i p' hp
 split at hc
 ·rename_i ht
  obtain rfl:=Option.some.inj hc
  simp only [Zo] at h
  split at h <;> first | (cases h; done) | skip
  rename_i x hx
  replace h:=Jl h; obtain ⟨h,hss⟩:=h
  subst hss
  exact (ZtY hG hI hop ht hp hx h).fit hI
 ·rename_i ht
  have ht:R8 P t=false:=by simpa using ht
  split at hc <;> first | (cases hc; done) | skip
  rename_i hu
  split at hc
  ·obtain rfl:=Option.some.inj hc
   simp only [Zo] at h
   split at h <;> first | (cases h; done) | skip
   rename_i g q hx
   split at h <;> first | (cases h; done) | skip
   rename_i cs t' hg
   split at h <;> first | (cases h; done) | skip
   rename_i u hv
   cases h
   exact (Zua hG hI hop ht hu hp hx hg hv).fit
  ·obtain rfl:=Option.some.inj hc
   simp only [Zo] at h
   split at h <;> first | (cases h; done) | skip
   rename_i x hx
   replace h:=Jl h; obtain ⟨h,hss⟩:=h
   subst hss
   exact (ZtZ hG hI hop ht hu hp hx h).fit hI
theorem ZqZ (hG:GOk G E.W0)(hI:Inv E s Γ a w){t:TypeId}{p x:Operand}(hop:o.op=.store t p x)(hc:cOp P hand draw o=some ao)(h:Zo G call s ao=some (v,s')):PH P E Γ s s' v a w o ao:=by
 simp only [cOp,hop] at hc
 split at hc
 ·cases hc
 rename_i hti
 have hi:∃ i,P.info? t=some i:=by
  cases hq:P.info? t with
  | none=>rw [hq] at hti; exact absurd rfl hti
  | some i=>exact ⟨i,rfl⟩
 obtain ⟨i,hi⟩:=hi
 split at hc <;> first | (cases hc; done) | skip
 rename_i p' hp
 have st:∀ {y},QG P t x=some y→Zo G call s (.st (P.cellsOf t) p' y)=some (v,s')→PH P E Γ s s' v a w o (.st (P.cellsOf t) p' y):=by
  intro y hy h
  simp only [Zo] at h
  split at h <;> first | (cases h; done) | skip
  rename_i g q u hpp hx
  split at h <;> first | (cases h; done) | skip
  rename_i cs t' hg
  split at h <;> first | (cases h; done) | skip
  rename_i hn
  cases h
  exact (ZuN hG hI hi hop hp hy hpp hx hg hn).fit
 split at hc
 ·rename_i hag
  simp only [Bool.and_eq_true,Bool.not_eq_true',beq_iff_eq] at hag
  split at hc
  ·rename_i sl hsl
   have hx:x=.tmp sl:=by
    cases x <;> simp only [ZqE] at hsl <;> first | (cases hsl; done) | (cases hsl; rfl)
   subst hx
   obtain rfl:=Option.some.inj hc
   simp only [Zo] at h
   split at h <;> first | (cases h; done) | skip
   rename_i g q u hpp hx
   split at h <;> first | (cases h; done) | skip
   rename_i cs t' hg
   split at h <;> first | (cases h; done) | skip
   rename_i hn
   cases h
   exact (Zuc hG hI hi hag.2 hop hp hpp hx hg hn).fit
  ·obtain ⟨y,hy,rfl⟩:=Option.map_eq_some_iff.1 hc
   exact st hy h
 ·obtain ⟨y,hy,rfl⟩:=Option.map_eq_some_iff.1 hc
  exact st hy h
theorem ZgZ (hG:GOk G E.W0)(hI:Inv E s Γ a w)(hop:(∃ x,o.op=.nilCheck x)∨(∃ op t x y t',o.op=.binOp op t x y t')∨(∃ op t x,o.op=.unOp op t x))(hc:cOp P hand draw o=some ao)(h:Zo G call s ao=some (v,s')):PH P E Γ s s' v a w o ao:=by
 rcases hop with ⟨x,hop⟩ | ⟨op,t,x,y,t',hop⟩ | ⟨op,t,x,hop⟩
 ·simp only [cOp,hop] at hc
  obtain ⟨y,hy,rfl⟩:=Option.map_eq_some_iff.1 hc
  simp only [Zo] at h
  split at h <;> first | (cases h; done) | skip
  ·rename_i hx; cases h; exact (ZgY hG hI hop hy hx (.inl ⟨_,rfl⟩)).fit hI
  ·rename_i hx; cases h; exact (ZgY hG hI hop hy hx (.inr (.inl ⟨_,_,rfl⟩))).fit hI
  ·rename_i hx; cases h; exact (ZgY hG hI hop hy hx (.inr (.inr ⟨_,_,_,rfl⟩))).fit hI
 ·simp only [cOp,hop] at hc
  split at hc <;> first | (cases hc; done) | skip
  rename_i sh x' y' h1 h2 h3
  obtain rfl:=Option.some.inj hc
  simp only [Zo] at h
  split at h <;> first | (cases h; done) | skip
  rename_i u u' hx hy
  replace h:=Jl h; obtain ⟨h,hss⟩:=h
  subst hss
  exact (ZtU hG hI hop h1 h2 h3 hx hy h).fit hI
 ·simp only [cOp,hop] at hc
  obtain ⟨y,hy,rfl⟩:=Option.map_eq_some_iff.1 hc
  simp only [Zo] at h
  split at h <;> first | (cases h; done) | skip
  rename_i u hx
  replace h:=Jl h; obtain ⟨h,hss⟩:=h
  subst hss
  exact (ZuO hG hI hop hy hx h).fit hI
theorem Zog (hG:GOk G E.W0)(hI:Inv E s Γ a w){src dst:TypeId}{x:Operand}(hop:o.op=.convert src dst x)(hc:cOp P hand draw o=some ao)(h:Zo G call s ao=some (v,s')):PH P E Γ s s' v a w o ao:=by
 simp only [cOp,hop] at hc
 split at hc <;> first | (cases hc; done) | skip
 ·rename_i x' k k' hx' hs hd
  obtain rfl:=Option.some.inj hc
  simp only [Zo] at h
  split at h <;> first | (cases h; done) | skip
  rename_i u hu
  replace h:=Jl h; obtain ⟨h,hss⟩:=h
  subst hss
  cases u <;> simp only [Dt] at h <;> first | (cases h; done) | skip
  obtain rfl:=Option.some.inj h
  exact (Zm5 hG hI hop hs hd hx' hu).fit
 ·rename_i x' hx' hs hd
  obtain rfl:=Option.some.inj hc
  simp only [Zo] at h
  split at h <;> first | (cases h; done) | skip
  rename_i u hu
  replace h:=Jl h; obtain ⟨h,hss⟩:=h
  subst hss
  cases u <;> simp only [Dt] at h <;> first | (cases h; done) | skip
  obtain rfl:=Option.some.inj h
  exact (Zm6 hG hI hop hs hd hx' hu).fit
 ·rename_i x' e hx' hs hd
  split at hc <;> first | (cases hc; done) | skip
  rename_i he
  obtain rfl:=Option.some.inj hc
  simp only [Zo] at h
  split at h <;> first | (cases h; done) | skip
  rename_i u hu
  replace h:=Jl h; obtain ⟨h,hss⟩:=h
  subst hss
  cases u <;> simp only [Dt] at h <;> first | (cases h; done) | skip
  obtain rfl:=Option.some.inj h
  exact (Zkc hG hI hop hs hd he hx' hu).fit
 ·rename_i x' e hx' hs hd
  split at hc <;> first | (cases hc; done) | skip
  rename_i he
  obtain rfl:=Option.some.inj hc
  simp only [Zo] at h
  split at h <;> first | (cases h; done) | skip
  rename_i u hu
  replace h:=Jl h; obtain ⟨h,hss⟩:=h
  subst hss
  simp only [Dt] at h
  split at h <;> first | (cases h; done) | skip
  rename_i r hr
  obtain ⟨l,hl,rfl⟩:=Option.map_eq_some_iff.1 h
  exact (ZgX hG hI hop hs hd he hx' hu hr hl).fit
theorem Zm9 (hG:GOk G E.W0)(hI:Inv E s Γ a w)(hop:(∃ fn x y,o.op=.makeFunc fn x y)∨(∃ t r,o.op=.makeMap t r)∨(∃ t l c,o.op=.makeSlice t l c))(hc:cOp P hand draw o=some ao)(h:Zo G call s ao=some (v,s')):PH P E Γ s s' v a w o ao:=by
 rcases hop with ⟨fn,x,y,hop⟩ | ⟨t,r,hop⟩ | ⟨t,l,c,hop⟩
 ·cases fn with
  | func f =>
   simp only [cOp,hop] at hc
   split at hc <;> first | (cases hc; done) | skip
   rename_i us vs h1 h2
   obtain rfl:=Option.some.inj hc
   simp only [Zo] at h
   split at h <;> first | (cases h; done) | skip
   rename_i u1 u2 h3 h4
   cases h
   exact (ZsI hG hI hop h1 h2 h3 h4).fit
  | _=>simp only [cOp,hop] at hc; cases hc
 ·cases r with
  | none =>
   simp only [cOp,hop] at hc
   obtain rfl:=Option.some.inj hc
   simp only [Zo] at h
   cases h
   exact (ZqT hI hop).fit
  | some r=>simp only [cOp,hop] at hc; cases hc
 ·have fin:∀ {e:TypeId} {z:AV} {i:TypeInfo} {n:V8},P.underlying t=some (.slice e)→zeroOf P e=some z→P.info? e=some i→(z.cells.all AV.one=true∧z.cells.length=i.size∧i.bytes≤16384∧0 < i.size) →
    (∀ kd m,opnd G s.sl n=some (.int kd m)→a.eval l=.int kd m∧a.eval c=.int kd m)→Zo G call s (.mksl e z.cells n)=some (v,s')→PH P E Γ s s' v a w o (.mksl e z.cells n):=by
   intro e z i n ht hz hi hx hev h
   simp only [Zo] at h
   split at h <;> first | (cases h; done) | skip
   rename_i kd m hm
   split at h <;> first | (cases h; done) | skip
   rename_i hb
   cases h
   exact (ZsJ hI ⟨l,c,hop,(hev kd m hm).1,(hev kd m hm).2⟩ ht hi hz hx.1 hx.2.1 hx.2.2.2 hx.2.2.1 hb.1 hb.2).fit
  have slot:∀ {q:Nat} {kd:IntKind} {m:Int},opnd G s.sl (.tmp q)=some (.int kd m)→a.eval (.tmp q)=.int kd m:=fun {q kd m} hm=>by
   have:=(Yb (P := P) (t := 0) (x := .tmp q) (y := .tmp q) hG hI rfl hm).1
   generalize a.eval (.tmp q)=u at this
   cases this; rfl
  cases l <;> cases c <;> simp only [cOp,hop] at hc <;> first | (cases hc; done) | skip
  ·split at hc <;> first | (cases hc; done) | skip
   rename_i hlc
   subst hlc
   split at hc <;> first | (cases hc; done) | skip
   rename_i e ht
   split at hc <;> first | (cases hc; done) | skip
   rename_i z i hz hi
   split at hc <;> first | (cases hc; done) | skip
   rename_i hx
   obtain rfl:=Option.some.inj hc
   exact fin ht hz hi hx (fun kd m hm=>⟨slot hm,slot hm⟩) h
  ·rename_i x y
   cases x <;> cases y <;> simp only at hc <;> first | (cases hc; done) | skip
   split at hc <;> first | (cases hc; done) | skip
   rename_i hlc
   obtain ⟨rfl,rfl⟩:=hlc
   split at hc <;> first | (cases hc; done) | skip
   rename_i e ht
   split at hc <;> first | (cases hc; done) | skip
   rename_i z i hz hi
   split at hc <;> first | (cases hc; done) | skip
   rename_i hx
   obtain rfl:=Option.some.inj hc
   exact fin ht hz hi hx (fun kd m hm=>by cases hm; exact ⟨rfl,rfl⟩) h
theorem ZqY (hG:GOk G E.W0)(hI:Inv E s Γ a w){t:TypeId}{x:Operand}{lo hi mx:Option Operand}(hop:o.op=.slice t x lo hi mx)(hc:cOp P hand draw o=some ao)(h:Zo G call s ao=some (v,s')):PH P E Γ s s' v a w o ao:=by
 cases mx with
 | some m=>simp only [cOp,hop] at hc; cases hc
 | none =>
  simp only [cOp,hop] at hc
  split at hc <;> first | (cases hc; done) | skip
  rename_i sh x' lo' hi' h1 h2 h3 h4
  obtain rfl:=Option.some.inj hc
  simp only [Zo] at h
  split at h <;> first | (cases h; done) | skip
  rename_i u vl vh k1 k2 k3
  replace h:=Jl h; obtain ⟨h,hss⟩:=h
  subst hss
  exact (ok_slice hG hI hop h1 h2 h3 h4 k1 k2 k3 h).fit hI
theorem Zke (hG:GOk G E.W0)(hI:Inv E s Γ a w)(hop:(∃ t x f,o.op=.fieldAddr t x f)∨(∃ t x f,o.op=.field t x f)∨(∃ t x i,o.op=.indexAddr t x i)∨(∃ t x i,o.op=.index t x i))(hc:cOp P hand draw o=some ao)(h:Zo G call s ao=some (v,s')):PH P E Γ s s' v a w o ao:=by
 rcases hop with ⟨t,x,f,hop⟩ | ⟨t,x,f,hop⟩ | ⟨t,x,i,hop⟩ | ⟨t,x,i,hop⟩
 ·simp only [cOp,hop] at hc
  split at hc <;> first | (cases hc; done) | skip
  rename_i off n agg x' h1 h2
  obtain rfl:=Option.some.inj hc
  simp only [Zo] at h
  split at h <;> first | (cases h; done) | skip
  rename_i u hx
  replace h:=Jl h; obtain ⟨h,hss⟩:=h
  subst hss
  exact (ZuK hG hI hop h1 h2 hx h).fit hI
 ·simp only [cOp,hop] at hc
  split at hc <;> first | (cases hc; done) | skip
  rename_i off n agg x' h1 h2
  obtain rfl:=Option.some.inj hc
  simp only [Zo] at h
  split at h <;> first | (cases h; done) | skip
  rename_i u hx
  replace h:=Jl h; obtain ⟨h,hss⟩:=h
  subst hss
  exact (ZtW hG hI hop h1 h2 hx h).fit hI
 ·simp only [cOp,hop] at hc
  split at hc <;> first | (cases hc; done) | skip
  all_goals
   rename_i x' i' h1 h2 h3
   obtain rfl:=Option.some.inj hc
   simp only [Zo] at h
   split at h <;> first | (cases h; done) | skip
   rename_i u n hx hi
   replace h:=Jl h; obtain ⟨h,hss⟩:=h
   subst hss
   exact (ZuL hG hI hop h1 h2 h3 hx hi h).fit hI
 ·simp only [cOp,hop] at hc
  split at hc <;> first | (cases hc; done) | skip
  rename_i x' i' h1 h2 h3
  obtain rfl:=Option.some.inj hc
  simp only [Zo] at h
  split at h <;> first | (cases h; done) | skip
  rename_i u n hx hi
  replace h:=Jl h; obtain ⟨h,hss⟩:=h
  subst hss
  exact (ZtX hG hI hop h1 h2 h3 hx hi h).fit hI
theorem ZrW (hG:GOk G E.W0)(hI:Inv E s Γ a w)(hop:(∃ t x i ok,o.op=.lookup t x i ok)∨(∃ t m k x,o.op=.mapUpdate t m k x))(hc:cOp P hand draw o=some ao)(h:Zo G call s ao=some (v,s')):PH P E Γ s s' v a w o ao:=by
 rcases hop with ⟨t,x,i,ok,hop⟩ | ⟨t,m,k,x,hop⟩
 ·simp only [cOp,hop] at hc
  split at hc <;> first | (cases hc; done) | skip
  rename_i kt et ht
  split at hc <;> first | (cases hc; done) | skip
  rename_i sh z x' i' h1 h2 h3 h4
  split at hc <;> first | (cases hc; done) | skip
  rename_i hz
  obtain rfl:=Option.some.inj hc
  simp only [Zo] at h
  split at h <;> first | (cases h; done) | skip
  rename_i u n hx hi
  replace h:=Jl h; obtain ⟨h,hss⟩:=h
  subst hss
  exact (ZsH hG hI hop ht h1 h2 hz h3 h4 hx hi h).fit
 ·simp only [cOp,hop] at hc
  split at hc <;> first | (cases hc; done) | skip
  rename_i kt et ht
  split at hc <;> first | (cases hc; done) | skip
  rename_i sh m' k' x' h1 h2 h3 h4
  obtain rfl:=Option.some.inj hc
  simp only [Zo] at h
  split at h <;> first | (cases h; done) | skip
  rename_i g ka va hm hk hv
  split at h <;> first | (cases h; done) | skip
  rename_i es hg
  split at h <;> first | (cases h; done) | skip
  rename_i hf
  simp only [Bool.and_eq_true] at hf
  split at h <;> first | (cases h; done) | skip
  rename_i es' hu
  cases h
  exact (ZsK hG hI hop ht h1 h2 h3 h4 hm hk hv hg hf.1 hf.2 (ZhA hu) hu).fit
theorem Zm8 (hG:GOk G E.W0)(hI:Inv E s Γ a w)(hop:(∃ t x,o.op=.range t x)∨(∃ x b,o.op=.next x b)∨(∃ x i,o.op=.extract x i))(hc:cOp P hand draw o=some ao)(h:Zo G call s ao=some (v,s')):PH P E Γ s s' v a w o ao:=by
 rcases hop with ⟨t,x,hop⟩ | ⟨x,b,hop⟩ | ⟨x,i,hop⟩
 ·simp only [cOp,hop] at hc
  split at hc <;> first | (cases hc; done) | skip
  rename_i ht
  obtain ⟨x',hx',rfl⟩:=Option.map_eq_some_iff.1 hc
  simp only [Zo] at h
  split at h <;> first | (cases h; done) | skip
  rename_i l hx
  cases h
  exact (ZqV hG hI hop ht hx' hx).fit
 ·cases b with
  | false=>simp only [cOp,hop] at hc; cases hc
  | true =>
   simp only [cOp,hop] at hc
   obtain ⟨x',hx',rfl⟩:=Option.map_eq_some_iff.1 hc
   simp only [Zo] at h
   split at h <;> first | (cases h; done) | skip
   rename_i g hx
   split at h <;> first | (cases h; done) | skip
   rename_i l pos hg
   split at h
   ·rename_i hlt
    cases h
    exact (ZsL hG hI hop hx' hx hg hlt).fit
   ·rename_i hlt
    cases h
    exact (Zm7 hG hI hop hx' hx hg hlt).fit
 ·simp only [cOp,hop] at hc
  obtain ⟨x',hx',rfl⟩:=Option.map_eq_some_iff.1 hc
  simp only [Zo] at h
  split at h <;> first | (cases h; done) | skip
  rename_i vs hx
  obtain ⟨u,h1,h2⟩:=Option.map_eq_some_iff.1 h
  cases h2
  exact (Zoe hG hI hop hx' hx h1).fit hI
end
end Go.Proofs.YtlmfmmclnboglaaGreat.Abs
end
section
namespace Go.Proofs.YtlmfmmclnboglaaGreat.Abs
open Go Go.RowKit
def Zsg (P:Program)(f:FuncId)(xs:Array Value)(w:World)(R:Value→World→Prop):Prop :=
 (callFunc f xs).run P w=.ok (.enter f xs) w∧Calls P f xs w fun e w''=>∃ v,e=.returned v∧R v w''
theorem Zsg.mono {P:Program}{f:FuncId}{xs:Array Value}{w:World}{R R':Value→World→Prop}(h:Zsg P f xs w R)(hr:∀ v w',R v w'→R' v w'):Zsg P f xs w R' :=
 ⟨h.1,h.2.mono fun _ w'' ⟨v,hv,h⟩=>⟨v,hv,hr v w'' h⟩⟩
structure Tidy (Γ:WC)(n:Nat):Prop where
 res:∀ b m,Γ b≠.list m .res
 arg:∀ b m j,Γ b≠.list m (.arg j)
 cell:∀ b m g i,Γ b=.list m (.cell g i)→g < n
def Uc (P:Program)(W0:World)(F:FuncId→List AV→List Zk→Option (AV×List Zk×Eff)):Prop :=
 ∀ f args hp v hp' e,F f args hp=some (v,hp',e)→∀ (Γ:WC) (w:World) (xs:Array Value),RW W0 Γ w hp→Tidy Γ hp.length→xs.size=args.length →
  (∀ j x,args[j]? = some x→Rep Γ w x (xs.getD j Go.undef)∧OwnAt Γ w (.slot j) x (xs.getD j Go.undef)) →
  Zsg P f xs w fun cv w'=>∃ Γ',RW W0 Γ' w' hp'∧Rep Γ' w' v cv∧OwnAt Γ' w' .res v cv∧Frame Γ w Γ' w' e∧hp.length≤hp'.length
theorem Tn.own {o g:Nat}:¬ Tn o (.own g):=fun h=>h
theorem RW.alike {W0 w:World}{Γ Γ':WC}{hp:List Zk}(h:RW W0 Γ w hp)(hf:VF Γ w Γ' w)(ho:∀ b g,Γ b=.own g↔Γ' b=.own g)
  (hc:∀ b n g i,g < hp.length→Γ b=.list n (.cell g i)→Γ' b=.list n (.cell g i)) (hi:∀ b,Γ b=.imm→Γ' b=.imm):RW W0 Γ' w hp:=by
 have hom:Jy Γ Γ':=fun b g hb=>(ho b g).1 hb
 refine ⟨fun g o hg=>?_,fun b b' g h1 h2=>h.inj b b' g ((ho b g).2 h1) ((ho b' g).2 h2),fun b hb=>hi b (h.fresh b hb),fun b g hb=>h.lt b g ((ho b g).2 hb),h.old,fun b hb=>hi b (h.oldImm b hb)⟩
 have hlt:=Ya hg
 have:=h.objs g o hg
 cases o with
 | dead=>trivial
 | cells cs t =>
  obtain ⟨b,C,h1,h2,h3,h4⟩:=this
  refine ⟨b,C,hom b g h1,h2,h3,fun i c hc'=>?_⟩
  obtain ⟨a1,a2,a3⟩:=h4 i c hc'
  exact ⟨a1,a2.mono hf hom,a3.mono hf hom fun b n hb=>⟨hc b n g i hlt hb,rfl⟩⟩
 | map es =>
  obtain ⟨b,ms,clk,h1,h2,h3,h4⟩:=this
  exact ⟨b,ms,clk,hom b g h1,h2,h3,h4⟩
 | iter s pos =>
  obtain ⟨b,h1,h2⟩:=this
  exact ⟨b,hom b g h1,h2⟩
def TP (n:Nat):Kind→Kind
 | .list m (.slot _)=>.list m .outer
 | .list m .res=>.list m .outer
 | .list m (.arg j)=>.list m (.slot j)
 | .list m (.cell g i)=>if g < n then .list m (.cell g i) else .imm
 | k=>k
def Ze7:Kind→Kind→Kind
 | .list m (.slot t),_=>.list m (.slot t)
 | _,.list _ (.slot _)=>.imm
 | _,.list _ (.arg _)=>.imm
 | _,k=>k
theorem Zh0 {n o:Nat}{k:Kind}(h:Tn o k):Tn o (TP n k):=by
 cases k with
 | imm=>trivial
 | own g=>exact h.elim
 | list m l =>
  cases l <;> simp only [TP] <;> first | exact h | skip
  split
  ·exact h
  ·trivial
theorem Zh1 {n g:Nat}{k:Kind}:k=.own g↔TP n k=.own g:=by
 cases k with
 | imm=>simp [TP]
 | own g=>simp [TP]
 | list m l =>
  cases l <;> simp only [TP] <;> try simp
  split <;> simp
theorem ZpY {n:Nat}{k:Kind}(h:k=.imm):TP n k=.imm:=by subst h; rfl
theorem ZpZ (Γ:WC)(n:Nat):Tidy (fun b=>TP n (Γ b)) n:=by
 refine ⟨fun b m h=>?_,fun b m j h=>?_,fun b m g i h=>?_⟩ <;> revert h <;> cases Γ b with
 | imm=>simp [TP]
 | own g=>simp [TP]
 | list m l =>
  cases l <;> simp only [TP] <;> try simp
  try (split <;> simp <;> try omega)
theorem RW.seen {W0 w:World}{Γ:WC}{hp:List Zk}(h:RW W0 Γ w hp):RW W0 (fun b=>TP hp.length (Γ b)) w hp :=
 h.alike (fun _ _ _ h1 h2=>⟨Zh0 h1,h2⟩) (fun _ _=>Zh1) (fun b n g i hl hb=>by simp [hb,TP,hl]) (fun _=>ZpY)
end Go.Proofs.YtlmfmmclnboglaaGreat.Abs
end
section
namespace Go.Proofs.YtlmfmmclnboglaaGreat.Abs
open Go Go.RowKit
section
variable {P:Program}{G:Nat→Option (List AV)}{E:Entry}{s:Zv}{Γ:WC}{a:Act}{w:World}
theorem Inv.hand (h:Inv E s Γ a w)(m:Loc)(t:Nat){v:AV}(hv:s.sl[t]? = some v) :
  ∃ Γ',Inv E (s.let_ t) Γ' a w∧Rep Γ' w v (a.tmps.getD t Go.undef)∧OwnAt Γ' w m v (a.tmps.getD t Go.undef)∧VF Γ w Γ' w∧Jy Γ Γ'∧∀ b n j,Γ b=.list n (.arg j)→Γ' b=.list n (.arg j):=by
 have f1:=OA (Γ := Γ) (w := w) (l := .slot t) (Ur (l := m))
 have o1:Jy Γ (relab Γ (.slot t) (Za1 m)):=KU
 refine ⟨relab Γ (.slot t) (Za1 m),⟨h.defers,⟨by simpa [Zv.let_] using h.slots.size,fun u x hx=>?_,fun u x hx=>?_⟩,h.rw.relab Ur Mk (by simp),h.fr.relab (l := .slot t) Ur trivial,h.base,h.base2,h.le⟩,?_,?_,f1,o1,fun b n j hb=>Ig hb (by simp)⟩
 ·simp only [Zv.let_,List.getElem?_modify] at hx
  obtain ⟨y,hy,e⟩:=Option.map_eq_some_iff.1 hx
  have:=(h.slots.rep u y hy).mono f1 o1
  split at e
  ·subst e; exact this.ro
  ·subst e; exact this
 ·simp only [Zv.let_,List.getElem?_modify] at hx
  obtain ⟨y,hy,e⟩:=Option.map_eq_some_iff.1 hx
  split at e
  ·subst e; exact .of_ro _ _ _ _ _
  ·rename_i ne
   subst e
   exact (h.slots.own u y hy).mono f1 o1 fun b n hb=>⟨Ig hb (by simp; omega),rfl⟩
 ·exact (h.slots.rep t v hv).mono f1 o1
 ·exact (h.slots.own t v hv).mono f1 o1 fun b n hb=>⟨Zdb hb,rfl⟩
theorem Zsi (hG:GOk G E.W0):∀ {args:List (Nat ⊕ V8)} {ts:List TypeId} {xs:List Operand} {hand:Nat→Bool} {vs sl:List AV} (k:Nat) {s:Zv} {Γ:WC},Inv E s Γ a w→ZbU P hand ts xs=some args→Gy G s.sl args=some (vs,sl) →
  ∃ Γ',Inv E { s with sl:=sl } Γ' a w∧VF Γ w Γ' w∧Jy Γ Γ'∧(∀ b n j,j < k→Γ b=.list n (.arg j)→Γ' b=.list n (.arg j))∧vs.length=xs.length ∧
   ∀ j v,vs[j]? = some v→∃ x,xs[j]? = some x∧Rep Γ' w v (a.eval x)∧OwnAt Γ' w (.arg (k + j)) v (a.eval x):=by
 intro args
 induction args with
 | nil =>
  intro ts xs hand vs sl k s Γ hI hc h
  simp only [Gy,Option.some.injEq,Prod.mk.injEq] at h
  obtain ⟨rfl,rfl⟩:=h
  have:xs=[]:=by
   cases xs with
   | nil=>rfl
   | cons x xs =>
    cases ts with
    | nil=>simp [ZbU] at hc
    | cons t ts =>
     simp only [ZbU] at hc
     split at hc <;> simp at hc
  subst this
  exact ⟨Γ,hI,.refl _ _,.refl _,fun _ _ _ _ h=>h,rfl,fun j v hv=>by simp at hv⟩
 | cons p args ih =>
  intro ts xs hand vs sl k s Γ hI hc h
  cases xs with
  | nil=>cases ts <;> simp [ZbU] at hc
  | cons x xs =>
   cases ts with
   | nil=>simp [ZbU] at hc
   | cons t ts =>
    simp only [ZbU] at hc
    split at hc
    case h_2=>cases hc
    rename_i y l hy hl
    obtain ⟨rfl,rfl⟩:=List.cons.inj (Option.some.inj hc)
    have step:∀ (v:AV) (s1:Zv) (Γ1:WC) (vs1:List AV),Inv E s1 Γ1 a w→s1.hp=s.hp→s1.ef=s.ef→s1.bs=s.bs→VF Γ w Γ1 w→Jy Γ Γ1→(∀ b n j,j < k→Γ b=.list n (.arg j)→Γ1 b=.list n (.arg j)) →
      Rep Γ1 w v (a.eval x)→OwnAt Γ1 w (.arg k) v (a.eval x)→Gy G s1.sl l=some (vs1,sl)→vs=v :: vs1 →
      ∃ Γ',Inv E { s with sl:=sl } Γ' a w∧VF Γ w Γ' w∧Jy Γ Γ'∧(∀ b n j,j < k→Γ b=.list n (.arg j)→Γ' b=.list n (.arg j))∧vs.length=(x :: xs).length ∧
       ∀ j v,vs[j]? = some v→∃ x',(x :: xs)[j]? = some x'∧Rep Γ' w v (a.eval x')∧OwnAt Γ' w (.arg (k + j)) v (a.eval x'):=by
     intro v s1 Γ1 vs1 i1 e1 e2 e3 f1 o1 k1 r1 w1 h1 hvs
     obtain ⟨Γ2,i2,f2,o2,k2,hlen,hall⟩:=ih (k + 1) i1 hl h1
     subst hvs
     refine ⟨Γ2,by rw [← e1,← e2,← e3]; exact i2,f1.trans f2,o1.trans o2,fun b n j hj hb=>k2 b n j (by omega) (k1 b n j hj hb),by simp [hlen],fun j u hu=>?_⟩
     cases j with
     | zero =>
      obtain rfl:=Option.some.inj hu
      exact ⟨x,rfl,r1.mono f2 o2,w1.mono f2 o2 fun b n hb=>⟨k2 b n k (by omega) hb,rfl⟩⟩
     | succ j =>
      obtain ⟨x',hx',hr,ho⟩:=hall j u (by simpa using hu)
      exact ⟨x',by simpa using hx',hr,by rw [show k + (j + 1)=k + 1 + j by omega]; exact ho⟩
    have plain:∀ (q:V8),QG P t x=some q∨(∃ i,x=.tmp i∧q=.tmp i)→y=.inr q →
      ∃ Γ',Inv E { s with sl:=sl } Γ' a w∧VF Γ w Γ' w∧Jy Γ Γ'∧(∀ b n j,j < k→Γ b=.list n (.arg j)→Γ' b=.list n (.arg j))∧vs.length=(x :: xs).length ∧
       ∀ j v,vs[j]? = some v→∃ x',(x :: xs)[j]? = some x'∧Rep Γ' w v (a.eval x')∧OwnAt Γ' w (.arg (k + j)) v (a.eval x'):=by
     intro q hq hp
     subst hp
     have hq:QG P t x=some q:=by
      rcases hq with h | ⟨i,rfl,rfl⟩
      ·exact h
      ·rfl
     simp only [Gy] at h
     split at h
     case h_2=>cases h
     rename_i v hv
     obtain ⟨p1,h1,h2⟩:=Option.map_eq_some_iff.1 h
     obtain ⟨rfl,rfl⟩:=Prod.mk.inj h2
     exact step v s Γ p1.1 hI rfl rfl rfl (.refl _ _) (.refl _) (fun _ _ _ _ h=>h) (Yb hG hI hq hv).1 (ZoF hG hI _ hq hv) h1 rfl
    split at hy
    ·rename_i i
     split at hy
     ·obtain rfl:=Option.some.inj hy
      simp only [Gy] at h
      split at h
      case h_2=>cases h
      rename_i v hv
      obtain ⟨p1,h1,h2⟩:=Option.map_eq_some_iff.1 h
      obtain ⟨rfl,rfl⟩:=Prod.mk.inj h2
      obtain ⟨Γ1,i1,r1,w1,f1,o1,k1⟩:=hI.hand (.arg k) i hv
      exact step v (s.let_ i) Γ1 p1.1 i1 rfl rfl rfl f1 o1 (fun b n j _ hb=>k1 b n j hb) r1 w1 h1 rfl
     ·exact plain _ (.inr ⟨i,rfl,rfl⟩) (Option.some.inj hy).symm
    ·obtain ⟨q,hq,rfl⟩:=Option.map_eq_some_iff.1 hy
     exact plain q (.inl hq) rfl
theorem Ze6 {s:Zv}{e:Eff}{g:Nat}(hg:g < s.bs)(h:EO (s.after e) g):EO s.ef g∧EO e g:=by
 cases e with
 | none=>exact ⟨h,fun _ _ e=>by cases e⟩
 | some p =>
  obtain ⟨x,y⟩:=p
  simp only [Zv.after] at h
  split at h
  ·obtain ⟨h1,h2⟩:=ZlW h
   exact ⟨h1,fun _ _ e=>by cases e; exact h2⟩
  ·exact ⟨h,fun _ _ e=>by cases e; omega⟩
theorem Inv.called (hI:Inv E s Γ a w){Γ':WC}{w':World}{hp:List Zk}{e:Eff}{v:AV}{cv:Value}(hr:RW E.W0 Γ' w' hp)(hv:Rep Γ' w' v cv)(ho:OwnAt Γ' w' .res v cv)
  (hf:Frame (fun b=>TP s.hp.length (Γ b)) w Γ' w' e) (hle:s.hp.length≤hp.length) :
  ∃ Γ'',Inv E { sl := s.sl,hp := hp,ef := s.after e,bs := s.bs } Γ'' a w'∧Rep Γ'' w' v cv∧OwnAt Γ'' w' .res v cv:=by
 have lt:∀ b,Γ b≠.imm→b < w.heap.size:=fun b hb=>by
  rcases Nat.lt_or_ge b w.heap.size with h' | h'
  ·exact h'
  ·exact absurd (hI.rw.fresh b h') hb
 have slot:∀ b m t,Γ b=.list m (.slot t)→Γ' b=.list m .outer∧w'.heap[b]? = w.heap[b]?:=fun b m t hb=>by
  obtain ⟨e1,e2⟩:=hf.keep b (lt b (by rw [hb]; simp)) (by simp only [hb,TP,Kept])
  exact ⟨by rw [e1]; simp [hb,TP],e2⟩
 have back:∀ b,(∃ m t,Γ b=.list m (.slot t)∧Γ' b=.list m .outer∧Ze7 (Γ b) (Γ' b)=.list m (.slot t))∨((∀ m t,Γ b≠.list m (.slot t))∧∀ k,(∀ m t,k≠.list m (.slot t))→(∀ m t,k≠.list m (.arg t))→Γ' b=k→Ze7 (Γ b) (Γ' b)=k):=by
  intro b
  cases hb:Γ b with
  | imm=>refine .inr ⟨by simp,fun k h1 h2 h3=>?_⟩; subst h3; cases hg:Γ' b with
   | list m l=>rw [hg] at h1 h2; cases l <;> first | rfl | exact absurd rfl (h1 _ _) | exact absurd rfl (h2 _ _)
   | _=>rfl
  | own g=>refine .inr ⟨by simp,fun k h1 h2 h3=>?_⟩; subst h3; cases hg:Γ' b with
   | list m l=>rw [hg] at h1 h2; cases l <;> first | rfl | exact absurd rfl (h1 _ _) | exact absurd rfl (h2 _ _)
   | _=>rfl
  | list n q =>
   cases q with
   | slot t=>exact .inl ⟨n,t,rfl,(slot b n t hb).1,rfl⟩
   | _ =>
    refine .inr ⟨by simp,fun k h1 h2 h3=>?_⟩; subst h3; cases hg:Γ' b with
    | list m l=>rw [hg] at h1 h2; cases l <;> first | rfl | exact absurd rfl (h1 _ _) | exact absurd rfl (h2 _ _)
    | _=>rfl
 have imm':∀ b,(∀ m t,Γ b≠.list m (.slot t))→(∃ m t,Γ' b=.list m (.slot t))∨(∃ m t,Γ' b=.list m (.arg t))→Ze7 (Γ b) (Γ' b)=.imm:=by
  intro b h h2
  cases hb:Γ b with
  | imm=>rcases h2 with ⟨m,t,e⟩ | ⟨m,t,e⟩ <;> rw [e] <;> rfl
  | own g=>rcases h2 with ⟨m,t,e⟩ | ⟨m,t,e⟩ <;> rw [e] <;> rfl
  | list n q=>cases q with
   | slot t=>exact absurd hb (h n t)
   | _=>rcases h2 with ⟨m,t,e⟩ | ⟨m,t,e⟩ <;> rw [e] <;> rfl
 have f3:VF Γ' w' (fun b=>Ze7 (Γ b) (Γ' b)) w':=by
  intro b o v h1 h2
  refine ⟨?_,h2⟩
  unfold ZaS at h1 ⊢
  rcases back b with ⟨m,t,e1,e2,e3⟩ | ⟨h,h'⟩
  ·show Tn o (Ze7 (Γ b) (Γ' b))
   rw [e3]
   rw [e2] at h1
   exact h1
  ·show Tn o (Ze7 (Γ b) (Γ' b))
   by_cases hs:(∃ m t,Γ' b=.list m (.slot t))∨(∃ m t,Γ' b=.list m (.arg t))
   ·rw [imm' b h hs]; trivial
   ·rw [h' (Γ' b) (fun m t e=>hs (.inl ⟨m,t,e⟩)) (fun m t e=>hs (.inr ⟨m,t,e⟩)) rfl]; exact h1
 have own':∀ b g,Γ' b=.own g↔Ze7 (Γ b) (Γ' b)=.own g:=by
  intro b g
  rcases back b with ⟨m,t,e1,e2,e3⟩ | ⟨h,h'⟩
  ·rw [e3,e2]; simp
  ·by_cases hs:(∃ m t,Γ' b=.list m (.slot t))∨(∃ m t,Γ' b=.list m (.arg t))
   ·rw [imm' b h hs]
    rcases hs with ⟨m,t,e⟩ | ⟨m,t,e⟩ <;> rw [e] <;> simp
   ·rw [h' (Γ' b) (fun m t e=>hs (.inl ⟨m,t,e⟩)) (fun m t e=>hs (.inr ⟨m,t,e⟩)) rfl]
 have keepL:∀ b k,(∀ m,k≠.list m .outer)→(∀ m t,k≠.list m (.slot t))→(∀ m t,k≠.list m (.arg t))→Γ' b=k→Ze7 (Γ b) (Γ' b)=k:=by
  intro b k h0 h1 h2 hb
  rcases back b with ⟨m,t,e1,e2,e3⟩ | ⟨h,h'⟩
  ·rw [e2] at hb; exact absurd hb.symm (h0 m)
  ·exact h' k h1 h2 hb
 have o3:Jy Γ' (fun b=>Ze7 (Γ b) (Γ' b)):=fun b g hb=>(own' b g).1 hb
 have f1:VF Γ w (fun b=>TP s.hp.length (Γ b)) w:=fun _ _ _ h1 h2=>⟨Zh0 h1,h2⟩
 have o1:Jy Γ (fun b=>TP s.hp.length (Γ b)):=fun b g hb=>Zh1.1 hb
 have fAll:=(f1.trans hf.fix).trans f3
 have oAll:=(o1.trans hf.own).trans o3
 refine ⟨fun b=>Ze7 (Γ b) (Γ' b),⟨hI.defers,⟨hI.slots.size,fun t x hx=>(hI.slots.rep t x hx).mono fAll oAll,fun t x hx=>(hI.slots.own t x hx).mono fAll oAll fun b n hb=>?_⟩,?_,?_,hI.base,hI.base2,Nat.le_trans hI.le hle⟩,hv.mono f3 o3,ho.mono f3 o3 fun b n hb=>⟨keepL b _ (by simp) (by simp) (by simp) hb,rfl⟩⟩
 ·refine ⟨?_,(slot b n t hb).2⟩
  show Ze7 (Γ b) (Γ' b)=_
  rw [hb]; rfl
 ·exact hr.alike f3 own' (fun b n g i _ hb=>keepL b _ (by simp) (by simp) (by simp) hb) (fun b hb=>keepL b _ (by simp) (by simp) (by simp) hb)
 ·refine ⟨hf.os.trans hI.fr.os,hf.tape.trans hI.fr.tape,hf.output.trans hI.fr.output,Nat.le_trans hI.fr.size hf.size,hI.fr.fix.trans fAll,hI.fr.own.trans oAll,fun b hb hk=>?_⟩
  have hb':=Nat.lt_of_lt_of_le hb hI.fr.size
  cases hg:E.Γ0 b with
  | imm =>
   obtain ⟨e1,e2⟩:=hI.fr.keep b hb (by rw [hg]; trivial)
   rw [hg] at e1
   obtain ⟨e3,e4⟩:=hf.keep b hb' (by simp only [e1,TP,Kept])
   simp only [e1,TP] at e3
   exact ⟨keepL b _ (by simp) (by simp) (by simp) e3,e4.trans e2⟩
  | own g =>
   rw [hg] at hk
   obtain ⟨s1,s2⟩:=Ze6 (hI.base b g hg) hk
   obtain ⟨e1,e2⟩:=hI.fr.keep b hb (by rw [hg]; exact s1)
   rw [hg] at e1
   obtain ⟨e3,e4⟩:=hf.keep b hb' (by simp only [e1,TP,Kept]; exact s2)
   simp only [e1,TP] at e3
   exact ⟨keepL b _ (by simp) (by simp) (by simp) e3,e4.trans e2⟩
  | list n m =>
   rw [hg] at hk
   cases m with
   | outer =>
    obtain ⟨e1,e2⟩:=hI.fr.keep b hb (by rw [hg]; trivial)
    rw [hg] at e1
    obtain ⟨e3,e4⟩:=hf.keep b hb' (by simp only [e1,TP,Kept])
    simp only [e1,TP] at e3
    refine ⟨?_,e4.trans e2⟩
    show Ze7 (Γ b) (Γ' b)=_
    rw [e1,e3]; rfl
   | cell g i =>
    have hgb:=hI.base2 b n g i hg
    obtain ⟨s1,s2⟩:=Ze6 hgb hk
    obtain ⟨e1,e2⟩:=hI.fr.keep b hb (by rw [hg]; exact s1)
    rw [hg] at e1
    have hlt:g < s.hp.length:=Nat.lt_of_lt_of_le hgb hI.le
    obtain ⟨e3,e4⟩:=hf.keep b hb' (by simp only [e1,TP,if_pos hlt,Kept]; exact s2)
    simp only [e1,TP,if_pos hlt] at e3
    exact ⟨keepL b _ (by simp) (by simp) (by simp) e3,e4.trans e2⟩
   | slot t=>exact hk.elim
   | res=>exact hk.elim
   | arg j=>exact hk.elim
end
end Go.Proofs.YtlmfmmclnboglaaGreat.Abs
end
section
namespace Go.Proofs.YtlmfmmclnboglaaGreat.Abs
open Go Go.RowKit
section
variable {P:Program}{G:Nat→Option (List AV)}{call:FuncId→List AV→List Zk→Option (AV×List Zk×Eff)}{E:Entry}{s s':Zv}{Γ:WC}{a:Act}{w:World}{o:Oper}{hand:Nat→Bool}{draw:Bool}{ao:AOp}{v:AV}
theorem Zmm {c:Call}{b:Callee}{xs:List Operand}{ts:List TypeId}(h0:c.callee=b)(h1:c.args.toList=xs)(h2:c.argTypes.toList=ts):c={ callee := b,args := xs.toArray,argTypes := ts.toArray }:=by
 cases c with
 | mk q xs' ts'=>subst h0 h1 h2; simp
theorem Zof (hG:GOk G E.W0)(hI:Inv E s Γ a w){c:Call}(hop:o.op=.call c)(hnv:∀ f,c.callee≠.value f)(hc:cOp P hand draw o=some ao)(h:Zo G call s ao=some (v,s')):PH P E Γ s s' v a w o ao:=by
 simp only [cOp,hop] at hc
 split at hc
 ·rename_i f hf; exact absurd hf (hnv f)
 ·rename_i hf
  split at hc <;> first | (cases hc; done) | skip
  rename_i x t hx ht
  rw [Zmm hf hx ht] at hop
  split at hc <;> first | (cases hc; done) | skip
  all_goals
   rename_i hu
   obtain ⟨x',hx',rfl⟩:=Option.map_eq_some_iff.1 hc
   simp only [Zo] at h
   split at h <;> first | (cases h; done) | skip
   rename_i u hu'
   replace h:=Jl h
   obtain ⟨h,hss⟩:=h
   subst hss
  ·exact (Zp3 (sh := .str) hG hI hop hu hx' hu' h).fit hI
  ·exact (Zp3 (sh := .slice) hG hI hop ⟨_,hu⟩ hx' hu' h).fit hI
  ·exact (Zp3 (sh := .map) hG hI hop ⟨_,_,hu⟩ hx' hu' h).fit hI
 ·rename_i hf
  split at hc <;> first | (cases hc; done) | skip
  rename_i q x t u hx ht
  rw [Zmm hf hx ht] at hop
  split at hc <;> first | (cases hc; done) | skip
  rename_i e hu
  split at hc <;> first | (cases hc; done) | skip
  rename_i i z hi hz
  split at hc <;> first | (cases hc; done) | skip
  rename_i hk
  obtain ⟨rfl,hk1,hk2,hk3⟩:=hk
  split at hc <;> first | (cases hc; done) | skip
  ·rename_i sl x' hx'
   obtain rfl:=Option.some.inj hc
   simp only [Zo] at h
   split at h <;> first | (cases h; done) | skip
   rename_i k' r y hsl hy
   split at h <;> first | (cases h; done) | skip
   rename_i k'' r' hr
   split at h <;> first | (cases h; done) | skip
   rename_i hh
   obtain ⟨rfl,rfl,hid,hb⟩:=hh
   cases h
   exact (ZtT hG hI hop hu hi hz hk2 hk1 hk3 hx' hsl hy hr hid hb).fit
  ·rename_i x' hx'
   obtain rfl:=Option.some.inj hc
   simp only [Zo] at h
   split at h <;> first | (cases h; done) | skip
   rename_i y hy
   split at h <;> first | (cases h; done) | skip
   rename_i k'' r' hr
   split at h <;> first | (cases h; done) | skip
   rename_i hh
   obtain ⟨rfl,hid,hb⟩:=hh
   cases h
   exact (ZsF hG hI hop hu hi hz hk2 hk1 hk3 hx' hy hr hid hb).fit
 ·rename_i hf
  split at hc <;> first | (cases hc; done) | skip
  rename_i q x t u hx ht
  rw [Zmm hf hx ht] at hop
  split at hc <;> first | (cases hc; done) | skip
  rename_i e hu
  split at hc <;> first | (cases hc; done) | skip
  rename_i i hi
  split at hc <;> first | (cases hc; done) | skip
  rename_i hk
  obtain ⟨rfl,hk1⟩:=hk
  split at hc <;> first | (cases hc; done) | skip
  rename_i d' x' hd' hx'
  obtain rfl:=Option.some.inj hc
  simp only [Zo] at h
  split at h <;> first | (cases h; done) | skip
  ·rename_i g off len k'' y hd hy
   split at h <;> first | (cases h; done) | skip
   rename_i k' r cs t' hr hg
   split at h <;> first | (cases h; done) | skip
   rename_i hh
   obtain ⟨rfl,rfl,hfit,hone⟩:=hh
   cases h
   exact (ZsG hG hI hop hu hi hk1 hd' hx' hd hy hr hg hfit hone).fit
  ·rename_i k'' y hd hy
   split at h <;> first | (cases h; done) | skip
   rename_i k' r hr
   split at h <;> first | (cases h; done) | skip
   rename_i hh
   subst hh
   cases h
   exact (ZqS hG hI hop hu hi hd' hx' hd hy hr).fit
 ·rename_i hf
  split at hc <;> first | (cases hc; done) | skip
  rename_i t l ht
  split at hc <;> first | (cases hc; done) | skip
  obtain ⟨ps,hps,rfl⟩:=Option.map_eq_some_iff.1 hc
  simp only [Zo] at h
  split at h <;> first | (cases h; done) | skip
  rename_i n vs hv
  obtain ⟨r,hr,e⟩:=Option.map_eq_some_iff.1 h
  cases e
  exact (Zl1 (isMax := false) hG hI (by rw [hop]; cases c; simp only at hf; subst hf; rfl) hps hv hr).fit
 ·rename_i hf
  split at hc <;> first | (cases hc; done) | skip
  rename_i t l ht
  split at hc <;> first | (cases hc; done) | skip
  obtain ⟨ps,hps,rfl⟩:=Option.map_eq_some_iff.1 hc
  simp only [Zo] at h
  split at h <;> first | (cases h; done) | skip
  rename_i n vs hv
  obtain ⟨r,hr,e⟩:=Option.map_eq_some_iff.1 h
  cases e
  exact (Zl1 (isMax := true) hG hI (by rw [hop]; cases c; simp only at hf; subst hf; rfl) hps hv hr).fit
 ·cases hc
theorem ZrV (hG:GOk G E.W0)(hI:Inv E s Γ a w)(hnv:∀ c f,o.op=.call c→c.callee≠.value f)(hc:cOp P hand draw o=some ao)(h:Zo G call s ao=some (v,s')):PH P E Γ s s' v a w o ao:=by
 cases hop:o.op with
 | move x=>exact ZsO hG hI hop hc h
 | assign x=>exact Zp8 hG hI hop hc h
 | pick c x y=>exact ZsP hG hI hop hc h
 | alloc e=>exact ZrX hG hI (.inl ⟨_,hop⟩) hc h
 | box e x=>exact ZrX hG hI (.inr ⟨_,_,hop⟩) hc h
 | build t ps=>exact ZqX hG hI hop hc h
 | buildSlice t n ps=>exact Zuf hG hI hop hc h
 | load t p=>exact ZsN hG hI hop hc h
 | store t p x=>exact ZqZ hG hI hop hc h
 | nilCheck x=>exact ZgZ hG hI (.inl ⟨_,hop⟩) hc h
 | binOp op t x y t'=>exact ZgZ hG hI (.inr (.inl ⟨_,_,_,_,_,hop⟩)) hc h
 | unOp op t x=>exact ZgZ hG hI (.inr (.inr ⟨_,_,_,hop⟩)) hc h
 | convert src dst x=>exact Zog hG hI hop hc h
 | makeFunc fn x y=>exact Zm9 hG hI (.inl ⟨_,_,_,hop⟩) hc h
 | makeMap t r=>exact Zm9 hG hI (.inr (.inl ⟨_,_,hop⟩)) hc h
 | makeSlice t l c=>exact Zm9 hG hI (.inr (.inr ⟨_,_,_,hop⟩)) hc h
 | slice t x lo hi mx=>exact ZqY hG hI hop hc h
 | fieldAddr t x f=>exact Zke hG hI (.inl ⟨_,_,_,hop⟩) hc h
 | field t x f=>exact Zke hG hI (.inr (.inl ⟨_,_,_,hop⟩)) hc h
 | indexAddr t x i=>exact Zke hG hI (.inr (.inr (.inl ⟨_,_,_,hop⟩))) hc h
 | index t x i=>exact Zke hG hI (.inr (.inr (.inr ⟨_,_,_,hop⟩))) hc h
 | lookup t x i ok=>exact ZrW hG hI (.inl ⟨_,_,_,_,hop⟩) hc h
 | mapUpdate t m k x=>exact ZrW hG hI (.inr ⟨_,_,_,_,hop⟩) hc h
 | range t x=>exact Zm8 hG hI (.inl ⟨_,_,hop⟩) hc h
 | next x b=>exact Zm8 hG hI (.inr (.inl ⟨_,_,hop⟩)) hc h
 | extract x i=>exact Zm8 hG hI (.inr (.inr ⟨_,_,hop⟩)) hc h
 | call c=>exact Zof hG hI hop (fun f=>hnv c f hop) hc h
 | _=>simp [cOp,hop] at hc
end
end Go.Proofs.YtlmfmmclnboglaaGreat.Abs
end
section
namespace Go.Proofs.YtlmfmmclnboglaaGreat.Abs
open Go Go.RowKit
section
variable {P:Program}{G:Nat→Option (List AV)}{call:FuncId→List AV→List Zk→Option (AV×List Zk×Eff)}{E:Entry}{s s':Zv}{Γ:WC}{a:Act}{w:World}{o:Oper}{hand:Nat→Bool}{draw:Bool}{ao:AOp}{v:AV}
theorem SC {x:AV}{k:Nat}{r:List (List AV)}:x.nm≠.own k r:=by cases x <;> simp [AV.nm]
theorem three {first vs caps:List AV}{fv cv:Array Value}{xs:Array Value}(h1:fv.size=first.length)(h2:xs.size=vs.length)(h3:cv.size=caps.length){R:Nat→AV→Value→Prop}
  (k1:∀ j x,first[j]? = some x→R j x.nm (fv.getD j Go.undef)) (k2:∀ j x,vs[j]? = some x→R (first.length + j) x (xs.getD j Go.undef)) (k3:∀ j x i,caps[j]? = some x→R i x.nm (cv.getD j Go.undef)) :
  ((fv ++ xs) ++ cv).size=(first.map AV.nm ++ vs ++ caps.map AV.nm).length∧∀ j x,(first.map AV.nm ++ vs ++ caps.map AV.nm)[j]? = some x→R j x (((fv ++ xs) ++ cv).getD j Go.undef):=by
 refine ⟨by simp [h1,h2,h3],fun j x hx=>?_⟩
 have hget:∀ i,((fv ++ xs) ++ cv).getD i Go.undef=if i < first.length then fv.getD i Go.undef else if i < first.length + vs.length then xs.getD (i - first.length) Go.undef else cv.getD (i - (first.length + vs.length)) Go.undef:=by
  intro i
  simp only [Array.getD_eq_getD_getElem?,Array.getElem?_append,Array.size_append,h1,h2]
  split
  ·split
   ·rfl
   ·rfl
  ·rename_i hge
   rw [if_neg (by omega)]
 rw [hget]
 by_cases c1:j < first.length
 ·rw [if_pos c1]
  rw [List.append_assoc,List.getElem?_append_left (by simpa using c1),List.getElem?_map] at hx
  obtain ⟨y,hy,rfl⟩:=Option.map_eq_some_iff.1 hx
  exact k1 j y hy
 ·rw [if_neg c1]
  by_cases c2:j < first.length + vs.length
  ·rw [if_pos c2]
   rw [List.append_assoc,List.getElem?_append_right (by simpa using c1),List.getElem?_append_left (by simp; omega)] at hx
   simp only [List.length_map] at hx
   have:=k2 _ x hx
   rwa [show first.length + (j - first.length)=j by omega] at this
  ·rw [if_neg c2]
   rw [List.getElem?_append_right (by simp; omega),List.getElem?_map] at hx
   simp only [List.length_append,List.length_map] at hx
   obtain ⟨y,hy,rfl⟩:=Option.map_eq_some_iff.1 hx
   exact k3 _ y j hy
theorem Zni {c:Call}{f:Operand}(hop:o.op=.call c)(hcal:c.callee=.value f){g:FuncId}{fv cv:Array Value}(hf:a.eval f=.func (.func g) fv cv)(w:World) :
  (execOp a.eval o).run P w=(callFunc g ((fv ++ c.args.map a.eval) ++ cv)).run P w:=by
 simp only [execOp,hop]
 simp only [resolve,hcal,Deferred.ofValue,hf,Sem.run_bind,Sem.run_pure,Result.andThen_ok,invoke]
theorem ZsM (hG:GOk G E.W0)(hS:Uc P E.W0 call)(hI:Inv E s Γ a w){c:Call}{f:Operand}(hop:o.op=.call c)(hcal:c.callee=.value f)(hc:cOp P hand draw o=some ao)(h:Zo G call s ao=some (v,s'))
  {K:Act→World→Prop} {Q:Exit→Act→World→Prop} (hK:∀ Γ' cv w',Inv E s' Γ' a w'→Rep Γ' w' v cv→OwnAt Γ' w' .res v cv→K (a.put o.dst cv) w'):o.wp P a w K Q:=by
 simp only [cOp,hop,hcal] at hc
 split at hc <;> first | (cases hc; done) | skip
 rename_i f' args hf hargs
 obtain rfl:=Option.some.inj hc
 simp only [Zo] at h
 split at h <;> first | (cases h; done) | skip
 rename_i g first caps vs sl hfv hvs
 split at h <;> first | (cases h; done) | skip
 rename_i u hp e hcall
 cases h
 obtain ⟨Γ1,i1,f1,o1,_,hlen,hall⟩:=Zsi hG first.length hI hargs hvs
 have hfn:=((Yb hG hI hf hfv).1).mono f1 o1
 generalize hq:a.eval f=q at hfn
 cases hfn with
 | fn _ _ _ fv cv hs1 hr1 hs hr =>
  have f2:VF Γ1 w (fun b=>TP s.hp.length (Γ1 b)) w:=fun _ _ _ h1 h2=>⟨Zh0 h1,h2⟩
  have o2:Jy Γ1 (fun b=>TP s.hp.length (Γ1 b)):=fun b g hb=>Zh1.1 hb
  obtain ⟨t1,t2⟩:=three (first := first) (vs := vs) (caps := caps) (fv := fv) (cv := cv) (xs := c.args.map a.eval) hs1 (by simp [hlen]) hs
   (R := fun j x y=>Rep (fun b=>TP s.hp.length (Γ1 b)) w x y∧OwnAt (fun b=>TP s.hp.length (Γ1 b)) w (.slot j) x y)
   (fun j x hx=>⟨((hr1 j x hx).mono f2 o2).nm,.of_ne fun _ _=>SC⟩)
   (fun j x hx=>by
    obtain ⟨y,hy,hr,ho⟩:=hall j x hx
    have:(c.args.map a.eval).getD j Go.undef=a.eval y:=by
     rw [Array.getElem?_toList] at hy
     rw [Array.getD_eq_getD_getElem?,Array.getElem?_map,hy]; rfl
    rw [this]
    exact ⟨hr.mono f2 o2,ho.mono f2 o2 fun b n hb=>⟨by simp [hb,TP],rfl⟩⟩)
   (fun j x i hx=>⟨((hr j x hx).mono f2 o2).nm,.of_ne fun _ _=>SC⟩)
  have hw:=hS g _ _ _ _ _ hcall _ w _ i1.rw.seen (ZpZ Γ1 _) t1 t2
  unfold Oper.wp
  rw [Zni hop hcal hq]
  have fin:∀ cv w',(∃ Γ',RW E.W0 Γ' w' hp∧Rep Γ' w' v cv∧OwnAt Γ' w' .res v cv∧Frame (fun b=>TP s.hp.length (Γ1 b)) w Γ' w' e∧s.hp.length≤hp.length)→K (a.put o.dst cv) w':=by
   rintro cv w' ⟨Γ',r1,r2,r3,r4,r5⟩
   obtain ⟨Γ'',j1,j2,j3⟩:=i1.called r1 r2 r3 r4 r5
   exact hK Γ'' cv w' j1 j2 j3
  obtain ⟨hrun,hw⟩:=hw
  rw [hrun,Oper.upon_enter]
  refine hw.mono fun en w'' ⟨cv',hv,hR⟩=>?_
  subst hv
  exact fin cv' w'' hR
theorem ZsR (hG:GOk G E.W0)(hS:Uc P E.W0 call)(hI:Inv E s Γ a w)(hc:cOp P hand draw o=some ao)(h:Zo G call s ao=some (v,s'))
  {K:Act→World→Prop} {Q:Exit→Act→World→Prop} (hK:∀ Γ' cv w',Inv E s' Γ' a w'→Rep Γ' w' v cv→OwnAt Γ' w' .res v cv→K (a.put o.dst cv) w'):o.wp P a w K Q:=by
 by_cases hv:∃ c f,o.op=.call c∧c.callee=.value f
 ·obtain ⟨c,f,h1,h2⟩:=hv
  exact ZsM hG hS hI h1 h2 hc h hK
 ·exact (ZrV hG hI (fun c f h1 h2=>hv ⟨c,f,h1,h2⟩) hc h).1.wp hK
structure Behind (W w:World):Prop where
 os:w.os=W.os
 tape:w.tape=W.tape
 output:w.output=W.output
 size:W.heap.size≤w.heap.size
 upon:Upon W w
theorem Behind.inv (hI:Inv E s Γ a w){w':World}(h:Behind w w'):Inv E s Γ a w' :=
 hI.plain (X := fun _=>False) ⟨h.os,h.tape,h.output,h.size,fun b hb _=>⟨rfl,h.upon b hb⟩,fun _ _ _ h1 h2=>⟨h1,h.upon.cell h2⟩,.refl _⟩ (fun _ hx=>hx.elim) (fun _ _ h=>h) (fun b hb=>hI.rw.fresh b (Nat.le_trans h.size hb))
def Mw (n:Nat):Kind→Kind
 | .list m (.cell g i)=>if g < n then .list m (.cell g i) else .imm
 | .list m _=>.list m .outer
 | k=>k
theorem Zjp {n o:Nat}{k:Kind}(h:Tn o k):Tn o (Mw n k):=by
 cases k with
 | imm=>trivial
 | own g=>exact h.elim
 | list m l =>
  cases l <;> simp only [Mw] <;> first | exact h | skip
  split
  ·exact h
  ·trivial
theorem Zjq {n g:Nat}{k:Kind}:k=.own g↔Mw n k=.own g:=by
 cases k with
 | imm=>simp [Mw]
 | own g=>simp [Mw]
 | list m l =>
  cases l <;> simp only [Mw] <;> try simp
  split <;> simp
theorem Zol (Γ:WC)(n:Nat):Tidy (fun b=>Mw n (Γ b)) n:=by
 refine ⟨fun b m h=>?_,fun b m j h=>?_,fun b m g i h=>?_⟩ <;> revert h <;> cases Γ b with
 | imm=>simp [Mw]
 | own g=>simp [Mw]
 | list m l =>
  cases l <;> simp only [Mw] <;> try simp
  try (split <;> simp <;> try omega)
theorem Zoj (n:Nat)(k:Kind):Kept none (Mw n k):=by
 cases k with
 | imm=>trivial
 | own g=>exact fun _ _ e=>by cases e
 | list m l =>
  cases l <;> simp only [Mw] <;> try trivial
  split
  ·exact fun _ _ e=>by cases e
  ·trivial
theorem RW.quiet {W0 w:World}{Γ:WC}{hp:List Zk}(h:RW W0 Γ w hp):RW W0 (fun b=>Mw hp.length (Γ b)) w hp :=
 h.alike (fun _ _ _ h1 h2=>⟨Zjp h1,h2⟩) (fun _ _=>Zjq) (fun b n g i hl hb=>by simp [hb,Mw,hl]) (fun b hb=>by simp [hb,Mw])
theorem ZiN (hG:GOk G E.W0)(hI:Inv E s Γ a w):∀ {args:List (Nat ⊕ V8)} {ts:List TypeId} {xs:List Operand} {hand:Nat→Bool} {vs sl:List AV},ZbU P hand ts xs=some args→noHand (.call (.glob 0) args)=true →
  Gy G s.sl args=some (vs,sl)→sl=s.sl∧vs.length=xs.length∧∀ (j:Nat) (v:AV),vs[j]? = some v→∃ x,xs[j]? = some x∧Rep Γ w v (a.eval x)∧∀ k r,v=.own k r→r=[]∧a.eval x=.slice none 0 0:=by
 intro args
 induction args with
 | nil =>
  intro ts xs hand vs sl hc _ h
  simp only [Gy,Option.some.injEq,Prod.mk.injEq] at h
  obtain ⟨rfl,rfl⟩:=h
  have:xs=[]:=by
   cases xs with
   | nil=>rfl
   | cons x xs =>
    cases ts with
    | nil=>simp [ZbU] at hc
    | cons t ts =>
     simp only [ZbU] at hc
     split at hc <;> simp at hc
  subst this
  exact ⟨rfl,rfl,fun j v hv=>by simp at hv⟩
 | cons p args ih =>
  intro ts xs hand vs sl hc hq h
  cases xs with
  | nil=>cases ts <;> simp [ZbU] at hc
  | cons x xs =>
   cases ts with
   | nil=>simp [ZbU] at hc
   | cons t ts =>
    simp only [ZbU] at hc
    split at hc
    case h_2=>cases hc
    rename_i y l hy hl
    obtain ⟨rfl,rfl⟩:=List.cons.inj (Option.some.inj hc)
    simp only [noHand,List.all_cons,Bool.and_eq_true] at hq
    cases y with
    | inl i=>exact absurd hq.1 (by simp)
    | inr q =>
     have hqx:QG P t x=some q:=by
      split at hy
      ·rename_i i
       split at hy
       ·cases hy
       ·cases hy; rfl
      ·obtain ⟨q',h1,h2⟩:=Option.map_eq_some_iff.1 hy
       cases h2; exact h1
     simp only [Gy] at h
     split at h
     case h_2=>cases h
     rename_i v hv
     obtain ⟨p1,h1,h2⟩:=Option.map_eq_some_iff.1 h
     obtain ⟨rfl,rfl⟩:=Prod.mk.inj h2
     obtain ⟨e1,e2,e3⟩:=ih hl hq.2 h1
     obtain ⟨r1,r2⟩:=Yb hG hI hqx hv
     refine ⟨e1,by simp [e2],fun j u hu=>?_⟩
     cases j with
     | zero =>
      obtain rfl:=Option.some.inj hu
      exact ⟨x,rfl,r1,r2⟩
     | succ j =>
      obtain ⟨x',hx',hr⟩:=e3 j u (by simpa using hu)
      exact ⟨x',by simpa using hx',hr⟩
theorem ZgC {Γ Γ':WC}{w w':World}{v:AV}{cv:Value}(h:Rep Γ w v cv)(hf:v.flat1=true):Rep Γ' w' v cv:=by
 rw [h.conc1 hf]; exact MO hf Γ' w'
theorem Zq9 {Γ Γ':WC}{w w':World}{v:AV}{cv:Value}(h:Rep Γ w v cv)(hf:v.flat=true):Rep Γ' w' v cv:=by
 cases h with
 | agg cells cv hs h1 hn hr =>
  simp only [AV.flat,List.all_eq_true] at hf
  exact .agg cells cv hs h1 hn fun j c hc=>ZgC (hr j c hc) (hf c (List.mem_of_getElem? hc))
 | tup vs cv hs hr =>
  simp only [AV.flat,List.all_eq_true] at hf
  exact .tup vs cv hs fun j c hc=>ZgC (hr j c hc) (hf c (List.mem_of_getElem? hc))
 | fn f fst caps fv cv hs1 hr1 hs hr=>exact ZgC (Rep.fn f fst caps fv cv hs1 hr1 hs hr) hf
 | undef=>exact .undef
 | bool=>exact .bool _
 | int=>exact .int _ _
 | str=>exact .str _
 | nilp=>exact .nilp
 | nilf=>exact .nilf
 | nilm=>exact .nilm
 | _=>cases hf
theorem Behind.refl (w:World):Behind w w:=⟨rfl,rfl,rfl,Nat.le_refl _,.refl w⟩
theorem Zq8 {v:AV}(h:v.flat=true):∀ k r,v≠.own k r:=by cases v <;> first | (cases h; done) | simp
theorem Zn3 (hG:GOk G E.W0)(hS:Uc P E.W0 call)(hI:Inv E s Γ a w)(hc:cOp P hand draw o=some ao)(hq:Zho ao=true)(hn:noHand ao=true)(h:Zo G (Vf call) s ao=some (v,s'))
  {K:Act→Prop} (hK:∀ cv,s'=s→Rep Γ w v cv→(∀ l,OwnAt Γ w l v cv)→K (a.put o.dst cv)):o.quiet P a (Behind w) K:=by
 by_cases hv:∃ c f,o.op=.call c∧c.callee=.value f
 ·obtain ⟨c,f,hop,hcal⟩:=hv
  simp only [cOp,hop,hcal] at hc
  split at hc <;> first | (cases hc; done) | skip
  rename_i f' args hf hargs
  obtain rfl:=Option.some.inj hc
  simp only [Zo] at h
  split at h <;> first | (cases h; done) | skip
  rename_i g first caps vs sl hfv hvs
  split at h <;> first | (cases h; done) | skip
  rename_i u hp e hcall
  cases h
  unfold Vf at hcall
  split at hcall <;> first | (cases hcall; done) | skip
  rename_i u' hp1 hcall1
  split at hcall <;> first | (cases hcall; done) | skip
  rename_i hflat
  cases hcall
  obtain ⟨q1,q2,q3⟩:=ZiN hG hI hargs hn hvs
  subst q1
  have main:∀ w',Behind w w'→o.quietAt P a (Behind w) w' v.conc∧∃ Γ' w'',Rep Γ' w'' v v.conc:=by
   intro w' hw'
   have hI':=hw'.inv hI
   obtain ⟨_,_,q3⟩:=ZiN hG hI' hargs hn hvs
   have hfn:=(Yb hG hI' hf hfv).1
   generalize hq:a.eval f=q at hfn
   cases hfn with
   | fn _ _ _ fv cv hs1 hr1 hs hr =>
    have f2:VF Γ w' (fun b=>Mw s.hp.length (Γ b)) w':=fun _ _ _ h1 h2=>⟨Zjp h1,h2⟩
    have o2:Jy Γ (fun b=>Mw s.hp.length (Γ b)):=fun b g hb=>Zjq.1 hb
    obtain ⟨t1,t2⟩:=three (first := first) (vs := vs) (caps := caps) (fv := fv) (cv := cv) (xs := c.args.map a.eval) hs1 (by simp [q2]) hs
     (R := fun j x y=>Rep (fun b=>Mw s.hp.length (Γ b)) w' x y∧OwnAt (fun b=>Mw s.hp.length (Γ b)) w' (.slot j) x y)
     (fun j x hx=>⟨((hr1 j x hx).mono f2 o2).nm,.of_ne fun _ _=>SC⟩)
     (fun j x hx=>by
      obtain ⟨y,hy,hr,ho⟩:=q3 j x hx
      have:(c.args.map a.eval).getD j Go.undef=a.eval y:=by
       rw [Array.getElem?_toList] at hy
       rw [Array.getD_eq_getD_getElem?,Array.getElem?_map,hy]; rfl
      rw [this]
      exact ⟨hr.mono f2 o2,.nil ho⟩)
     (fun j x i hx=>⟨((hr j x hx).mono f2 o2).nm,.of_ne fun _ _=>SC⟩)
    have hw:=hS g _ _ _ _ _ hcall1 _ w' _ hI'.rw.quiet (Zol Γ _) t1 t2
    unfold Oper.quietAt
    rw [Zni hop hcal hq]
    have fin:∀ cv w'',(∃ Γ',RW E.W0 Γ' w'' hp1∧Rep Γ' w'' v cv∧OwnAt Γ' w'' .res v cv∧Frame (fun b=>Mw s.hp.length (Γ b)) w' Γ' w'' none∧s.hp.length≤hp1.length)→cv=v.conc∧Behind w w''∧Upon w' w'':=by
     rintro cv w'' ⟨Γ',r1,r2,r3,r4,r5⟩
     have hup:Upon w' w'':=fun b hb=>(r4.keep b hb (Zoj _ _)).2
     exact ⟨Zbg r2 hflat,⟨r4.os.trans hw'.os,r4.tape.trans hw'.tape,r4.output.trans hw'.output,Nat.le_trans hw'.size r4.size,fun b hb=>(hup b (Nat.lt_of_lt_of_le hb hw'.size)).trans (hw'.upon b hb)⟩,hup⟩
    obtain ⟨hrun,hw⟩:=hw
    obtain ⟨en,w1,_,⟨cv1,_,hR1⟩,_⟩:=hw []
    rw [hrun]
    refine ⟨⟨rfl,hw.mono fun en w'' ⟨cv',hv,hR⟩=>?_⟩,?_⟩
    ·subst hv
     obtain ⟨e1,e2,_⟩:=fin cv' w'' hR
     exact ⟨by rw [e1],e2⟩
    ·obtain ⟨e1,_,_⟩:=fin cv1 w1 hR1
     obtain ⟨Γ',_,r2,_⟩:=hR1
     rw [e1] at r2
     exact ⟨Γ',w1,r2⟩
  obtain ⟨Γ',w'',hrep⟩:=(main w (.refl w)).2
  exact ⟨v.conc,fun w' hw'=>(main w' hw').1,hK _ rfl (Zq9 hrep hflat) fun l=>.of_ne (Zq8 hflat)⟩
 ·obtain ⟨h1,h2⟩:=ZrV hG hI (fun c f h1 h2=>hv ⟨c,f,h1,h2⟩) hc h
  obtain ⟨e,cv,hr,r1,r2⟩:=h2 hq
  exact ⟨cv,fun w' hw'=>by
   unfold Oper.quietAt
   rw [hr w' hw'.upon]
   exact ⟨rfl,rfl⟩,hK cv e r1 fun l=>.nil r2⟩
end
end Go.Proofs.YtlmfmmclnboglaaGreat.Abs
end
section
namespace Go.Proofs.YtlmfmmclnboglaaGreat.Abs
open Go Go.RowKit
set_option linter.all false
structure Zf3 (W:List Nat)(f:List AV→List AV):Prop where
 len:∀ l,(f l).length=l.length
 out:∀ (l:List AV) (i:Nat),i ∉ W→(f l)[i]? = l[i]?
 on:∀ (l m:List AV) (i:Nat),i ∈ W→l.length=m.length→l[i]? = m[i]?→(f l)[i]? = (f m)[i]?
theorem Zf3.id (W:List Nat):Zf3 W id:=⟨fun _=>rfl,fun _ _ _=>rfl,fun _ _ _ _ _ h=>h⟩
theorem Zf3.set (d:Nat)(v:AV):Zf3 [d] (fun l=>l.set d v):=by
 refine ⟨fun l=>by simp,fun l i hi=>?_,fun l m i hi hl h=>?_⟩
 ·have:d≠i:=fun e=>hi (by simp [e])
  rw [List.getElem?_set_ne this]
 ·have:i=d:=by simpa using hi
  subst this
  simp only [List.getElem?_set_self']
  rw [h]
theorem Zf3.mod (t:Nat):Zf3 [t] (fun l=>l.modify t AV.ro):=by
 refine ⟨fun l=>by simp,fun l i hi=>?_,fun l m i hi hl h=>?_⟩
 ·have:t≠i:=fun e=>hi (by simp [e])
  rw [List.getElem?_modify]; simp [this]
 ·rw [List.getElem?_modify,List.getElem?_modify,h]
theorem Zf3.comp {V W:List Nat}{f g:List AV→List AV}(hf:Zf3 V f)(hg:Zf3 W g):Zf3 (W ++ V) (fun l=>g (f l)):=by
 refine ⟨fun l=>by rw [hg.len,hf.len],fun l i hi=>?_,fun l m i hi hl h=>?_⟩
 ·rw [List.mem_append,not_or] at hi
  rw [hg.out _ _ hi.1,hf.out _ _ hi.2]
 ·have hfi:(f l)[i]? = (f m)[i]?:=by
   by_cases h2:i ∈ V
   ·exact hf.on l m i h2 hl h
   ·rw [hf.out _ _ h2,hf.out _ _ h2,h]
  by_cases h1:i ∈ W
  ·exact hg.on _ _ i h1 (by rw [hf.len,hf.len,hl]) hfi
  ·rw [hg.out _ _ h1,hg.out _ _ h1,hfi]
theorem Zf3.swap {V W:List Nat}{f g:List AV→List AV}(hf:Zf3 V f)(hg:Zf3 W g)(hd:ZkE V W=true)(l:List AV):f (g l)=g (f l):=by
 have hd':∀ i,i ∈ V→i ∉ W:=fun i hi hw=>by
  have:=List.all_eq_true.1 hd i hi
  simp at this
  exact this hw
 refine List.ext_getElem? fun i=>?_
 by_cases h1:i ∈ V
 ·have h2:=hd' i h1
  rw [hg.out (f l) i h2,hf.on (g l) l i h1 (hg.len l) (hg.out l i h2)]
 ·rw [hf.out (g l) i h1]
  by_cases h2:i ∈ W
  ·exact (hg.on (f l) l i h2 (hf.len l) (hf.out l i h1)).symm
  ·rw [hg.out l i h2,hg.out (f l) i h2,hf.out l i h1]
def Agree (R:List Nat)(l m:List AV):Prop:=∀ i ∈ R,l[i]? = m[i]?
theorem Agree.left {R S:List Nat}{l m:List AV}(h:Agree (R ++ S) l m):Agree R l m:=fun i hi=>h i (List.mem_append_left _ hi)
theorem Agree.right {R S:List Nat}{l m:List AV}(h:Agree (R ++ S) l m):Agree S l m:=fun i hi=>h i (List.mem_append_right _ hi)
theorem Agree.of_loc {W R:List Nat}{f:List AV→List AV}(hf:Zf3 W f)(hd:ZkE W R=true)(l:List AV):Agree R l (f l):=fun i hi=>by
 refine (hf.out l i fun hw=>?_).symm
 have:=List.all_eq_true.1 hd i hw
 simp at this
 exact this hi
theorem Agree.symm {R:List Nat}{l m:List AV}(h:Agree R l m):Agree R m l:=fun i hi=>(h i hi).symm
section
variable {G:Nat→Option (List AV)}
theorem YO {x:V8}{l m:List AV}(h:Agree (oR x) l m):opnd G l x=opnd G m x:=by
 cases x with
 | tmp t=>simp only [opnd]; rw [h t (by simp [oR])]
 | const v=>rfl
 | glob g=>rfl
theorem Ra:∀ {xs:List V8} {l m:List AV},Agree (oRs xs) l m→opnds G l xs=opnds G m xs
 | [],_,_,_=>rfl
 | x :: xs,l,m,h=>by
  have h':Agree (oR x ++ oRs xs) l m:=by simpa [oRs] using h
  simp only [opnds]
  rw [YO h'.left,Ra h'.right]
theorem ZcY {x:Option V8}{l m:List AV}(h:Agree (oRo x) l m):optOpnd G l x=optOpnd G m x:=by
 cases x with
 | none=>rfl
 | some x=>simp only [optOpnd]; rw [YO h]
theorem El:∀ {args:List (Nat ⊕ V8)} {l m:List AV} {vs sl:List AV},(args.all fun | .inr _=>true | .inl _=>false)=true →
  Agree (args.flatMap fun x=>match x with | .inl t=>[t] | .inr x=>oR x) l m→Gy G l args=some (vs,sl)→sl=l∧Gy G m args=some (vs,m)
 | [],l,m,vs,sl,_,_,h=>by
  simp only [Gy,Option.some.injEq,Prod.mk.injEq] at h ⊢
  exact ⟨h.2.symm,h.1,trivial⟩
 | .inl t :: args,_,_,_,_,hn,_,_=>by simp at hn
 | .inr x :: args,l,m,vs,sl,hn,ha,h=>by
  simp only [List.all_cons,Bool.and_eq_true] at hn
  have ha':Agree (oR x ++ (args.flatMap fun x=>match x with | .inl t=>[t] | .inr x=>oR x)) l m:=by simpa using ha
  simp only [Gy] at h ⊢
  rw [← YO (G := G) ha'.left]
  split at h <;> first | (cases h; done) | skip
  rename_i v hv
  obtain ⟨p,h1,h2⟩:=Option.map_eq_some_iff.1 h
  obtain ⟨rfl,rfl⟩:=Prod.mk.inj h2
  obtain ⟨e1,e2⟩:=El hn.2 ha'.right h1
  refine ⟨e1,?_⟩
  simp only [hv,e2,Option.map_some]
end
def OV (h h':List Zk):Prop:=(∀ p v,Zf h p=some v→Zf h' p=some v)∧∀ n p v,Z8 h n p=some v→Z8 h' n p=some v
theorem OV.refl (h:List Zk):OV h h:=⟨fun _ _ h=>h,fun _ _ _ h=>h⟩
theorem OV.of_get {h h':List Zk}(hg:∀ (g:Nat) (cs:List AV) (t:TypeId),h[g]? = some (Zk.cells cs t)→∃ (cs':List AV) (t':TypeId),h'[g]? = some (Zk.cells cs' t')∧cs'.map AV.ro=cs.map AV.ro):OV h h':=by
 refine ⟨fun p v hv=>?_,fun n p v hv=>?_⟩
 ·unfold Zf at hv ⊢
  split at hv <;> first | exact hv | (cases hv; done) | skip
  split at hv <;> first | (cases hv; done) | skip
  rename_i g o _ cs t hcs
  obtain ⟨cs',t',h1,h2⟩:=hg _ _ _ hcs
  simp only [h1]
  rw [← List.getElem?_map] at hv ⊢
  rw [h2]; exact hv
 ·unfold Z8 at hv ⊢
  split at hv <;> first | exact hv | (cases hv; done) | skip
  split at hv <;> first | (cases hv; done) | skip
  rename_i g o _ cs t hcs
  obtain ⟨cs',t',h1,h2⟩:=hg _ _ _ hcs
  simp only [h1]
  have hl:cs'.length=cs.length:=by have:=congrArg List.length h2; simpa using this
  rw [hl]
  rw [List.map_take,List.map_drop] at hv ⊢
  rw [h2]; exact hv
theorem OV.app (h:List Zk)(o:Zk):OV h (h ++ [o]):=.of_get fun g cs t hg=>⟨cs,t,by rw [List.getElem?_append_left (List.getElem?_eq_some_iff.1 hg).1]; exact hg,rfl⟩
theorem ZuT (v:AV):v.ro.ro=v.ro:=by cases v <;> rfl
theorem Zjk (cs:List AV)(o:Nat)(v:AV)(h:cs[o]? = some v):(cs.set o v.ro).map AV.ro=cs.map AV.ro:=by
 refine List.ext_getElem? fun i=>?_
 rw [List.getElem?_map,List.getElem?_map,List.getElem?_set]
 split
 ·rename_i e
  subst e
  have hl:=(List.getElem?_eq_some_iff.1 h).1
  rw [if_pos hl,h]
  simp [ZuT]
 ·rfl
theorem OV.mark {h:List Zk}{g o:Nat}{cs:List AV}{t:TypeId}{v:AV}(h1:h[g]? = some (.cells cs t))(h2:cs[o]? = some v):OV h (h.set g (.cells (cs.set o v.ro) t))∧OV (h.set g (.cells (cs.set o v.ro) t)) h:=by
 have hl:=(List.getElem?_eq_some_iff.1 h1).1
 constructor
 ·refine .of_get fun g' cs' t' hg=>?_
  rw [List.getElem?_set]
  split
  ·rename_i e; subst e
   rw [h1] at hg; cases hg
   exact ⟨cs.set o v.ro,t,by simp [hl],Zjk cs o v h2⟩
  ·exact ⟨_,_,hg,rfl⟩
 ·refine .of_get fun g' cs' t' hg=>?_
  rw [List.getElem?_set] at hg
  split at hg
  ·rename_i e; subst e
   simp only [hl,if_true,Option.some.injEq,Zk.cells.injEq] at hg
   obtain ⟨rfl,rfl⟩:=hg
   exact ⟨_,_,h1,(Zjk cs o v h2).symm⟩
  ·exact ⟨_,_,hg,rfl⟩
section
variable {G:Nat→Option (List AV)}{call:FuncId→List AV→List Zk→Option (AV×List Zk×Eff)}
def tkF (ao:AOp)(l:List AV):List AV :=
 match Zkd ao with
 | [t]=>l.modify t AV.ro
 | _=>l
theorem Ztv (ao:AOp):Zf3 (Zkd ao) (tkF ao):=by
 cases ao <;> first | exact Zf3.id _ | exact Zf3.mod _
structure ZbR (G:Nat→Option (List AV))(call:FuncId→List AV→List Zk→Option (AV×List Zk×Eff))(ao:AOp)(k:HK)(s:Zv)(v:AV)(s':Zv):Prop where
 sl:s'.sl=tkF ao s.sl
 bs:s'.bs=s.bs
 any:∀ t,Agree (Ti ao) s.sl t.sl→t.hp=s.hp→t.ef=s.ef→t.bs=s.bs→Zo G call t ao=some (v,⟨tkF ao t.sl,s'.hp,s'.ef,t.bs⟩)
 still:(match k with | .free | .look | .read=>True | _=>False)→s'.hp=s.hp∧s'.ef=s.ef
 free:k=.free→∀ t,Agree (Ti ao) s.sl t.sl→Zo G call t ao=some (v,⟨tkF ao t.sl,t.hp,t.ef,t.bs⟩)
 look:k=.look→∀ t,Agree (Ti ao) s.sl t.sl→OV s.hp t.hp→Zo G call t ao=some (v,⟨tkF ao t.sl,t.hp,t.ef,t.bs⟩)
 read:(match k with | .free | .look | .read=>True | _=>False)→∀ t,Agree (Ti ao) s.sl t.sl→t.hp=s.hp→Zo G call t ao=some (v,⟨tkF ao t.sl,t.hp,t.ef,t.bs⟩)
 alloc:k=.alloc→s'.ef=s.ef∧∃ obs,s'.hp=s.hp ++ obs∧∀ t,Agree (Ti ao) s.sl t.sl→t.hp.length=s.hp.length→Zo G call t ao=some (v,⟨tkF ao t.sl,t.hp ++ obs,t.ef,t.bs⟩)
 mark:k=.mark→s'.hp.length=s.hp.length∧OV s.hp s'.hp∧OV s'.hp s.hp∧∀ t obs,Agree (Ti ao) s.sl t.sl→t.hp=s.hp ++ obs→t.ef=s.ef→t.bs=s.bs→Zo G call t ao=some (v,⟨tkF ao t.sl,s'.hp ++ obs,s'.ef,t.bs⟩)
theorem ZbR.of_free {ao:AOp}{s:Zv}{v:AV}{s':Zv}(h:s'=⟨tkF ao s.sl,s.hp,s.ef,s.bs⟩)(hf:∀ t,Agree (Ti ao) s.sl t.sl→Zo G call t ao=some (v,⟨tkF ao t.sl,t.hp,t.ef,t.bs⟩)):ZbR G call ao .free s v s':=by
 subst h
 refine ⟨rfl,rfl,fun t ha h1 h2 h3=>?_,fun _=>⟨rfl,rfl⟩,fun _=>hf,(fun h=>by cases h),fun _ t ha _=>hf t ha,(fun h=>by cases h),(fun h=>by cases h)⟩
 rw [hf t ha,h1,h2]
theorem ZbR.of_read {ao:AOp}{s:Zv}{v:AV}{s':Zv}(h:s'=⟨tkF ao s.sl,s.hp,s.ef,s.bs⟩)(hf:∀ t,Agree (Ti ao) s.sl t.sl→t.hp=s.hp→Zo G call t ao=some (v,⟨tkF ao t.sl,t.hp,t.ef,t.bs⟩)):ZbR G call ao .read s v s':=by
 subst h
 refine ⟨rfl,rfl,fun t ha h1 h2 h3=>?_,fun _=>⟨rfl,rfl⟩,(fun h=>by cases h),(fun h=>by cases h),fun _ t ha h1=>hf t ha h1,(fun h=>by cases h),(fun h=>by cases h)⟩
 rw [hf t ha h1,h1,h2]
theorem ZbR.of_look {ao:AOp}{s:Zv}{v:AV}{s':Zv}(h:s'=⟨tkF ao s.sl,s.hp,s.ef,s.bs⟩)(hf:∀ t,Agree (Ti ao) s.sl t.sl→OV s.hp t.hp→Zo G call t ao=some (v,⟨tkF ao t.sl,t.hp,t.ef,t.bs⟩)):ZbR G call ao .look s v s':=by
 subst h
 refine ⟨rfl,rfl,fun t ha h1 h2 h3=>?_,fun _=>⟨rfl,rfl⟩,(fun h=>by cases h),fun _=>hf,fun _ t ha h1=>hf t ha (h1 ▸ .refl _),(fun h=>by cases h),(fun h=>by cases h)⟩
 rw [hf t ha (h1 ▸ .refl _),h1,h2]
theorem ZbR.of_set {ao:AOp}{s:Zv}{v:AV}{s':Zv}(h1:s'.sl=tkF ao s.sl)(h2:s'.bs=s.bs)(hf:∀ t,Agree (Ti ao) s.sl t.sl→t.hp=s.hp→t.ef=s.ef→t.bs=s.bs→Zo G call t ao=some (v,⟨tkF ao t.sl,s'.hp,s'.ef,t.bs⟩)):ZbR G call ao .set s v s' :=
 ⟨h1,h2,hf,(fun h=>h.elim),(fun h=>by cases h),(fun h=>by cases h),(fun h=>h.elim),(fun h=>by cases h),(fun h=>by cases h)⟩
theorem IV {α:Type}{x:Option AV}{s:α}{v:AV}{s':α}(h:x.map (·,s)=some (v,s')):x=some v∧s'=s:=by
 cases x with
 | none=>cases h
 | some a=>cases h; exact ⟨rfl,rfl⟩
theorem ZsQ (hq:∀ f args hp v hp' e,call f args hp=some (v,hp',e)→hp'=hp∧e=none){ao:AOp}{k:HK}{s:Zv}{v:AV}{s':Zv}(hk:hkind ao=some k)(h:Zo G call s ao=some (v,s')):ZbR G call ao k s v s':=by
 cases ao <;> simp only [hkind,Option.some.injEq,reduceCtorEq] at hk <;> try subst hk
 case un op x =>
  simp only [Zo] at h
  split at h <;> first | (cases h; done) | skip
  rename_i a ha
  obtain ⟨h1,rfl⟩:=IV h
  refine .of_free rfl fun t ht=>?_
  simp only [Zo,← YO (G := G) (x := x) ht,ha,h1,Option.map_some]
  rfl
 case fa off x =>
  simp only [Zo] at h
  split at h <;> first | (cases h; done) | skip
  rename_i a ha
  obtain ⟨h1,rfl⟩:=IV h
  refine .of_free rfl fun t ht=>?_
  simp only [Zo,← YO (G := G) (x := x) ht,ha,h1,Option.map_some]
  rfl
 case fld off n agg x =>
  simp only [Zo] at h
  split at h <;> first | (cases h; done) | skip
  rename_i a ha
  obtain ⟨h1,rfl⟩:=IV h
  refine .of_free rfl fun t ht=>?_
  simp only [Zo,← YO (G := G) (x := x) ht,ha,h1,Option.map_some]
  rfl
 case mv x =>
  simp only [Zo] at h
  obtain ⟨h1,rfl⟩:=IV h
  refine .of_free rfl fun t ht=>?_
  simp only [Zo,← YO (G := G) (x := x) ht,h1,Option.map_some]
  rfl
 case take i =>
  simp only [Zo] at h
  split at h <;> first | (cases h; done) | skip
  rename_i a ha
  cases h
  refine .of_free rfl fun t ht=>?_
  simp only [Zo,← ht i (by simp [Ti]),ha]
  rfl
 case pick c a b =>
  simp only [Zo] at h
  split at h <;> first | (cases h; done) | skip
  ·rename_i hc
   obtain ⟨h1,rfl⟩:=IV h
   refine .of_free rfl fun t ht=>?_
   simp only [Zo,← YO (G := G) (x := c) ht.left,← YO (G := G) (x := a) ht.right.left,hc,h1,Option.map_some]
   rfl
  ·rename_i hc
   obtain ⟨h1,rfl⟩:=IV h
   refine .of_free rfl fun t ht=>?_
   simp only [Zo,← YO (G := G) (x := c) ht.left,← YO (G := G) (x := b) ht.right.right,hc,h1,Option.map_some]
   rfl
 case nilchk x =>
  simp only [Zo] at h
  split at h <;> first | (cases h; done) | skip
  all_goals
   rename_i hc
   cases h
   refine .of_free rfl fun t ht=>?_
   simp only [Zo,← YO (G := G) (x := x) ht,hc]
   rfl
 case extract x i =>
  simp only [Zo] at h
  split at h <;> first | (cases h; done) | skip
  rename_i vs hc
  obtain ⟨u,h1,h2⟩:=Option.map_eq_some_iff.1 h
  cases h2
  refine .of_free rfl fun t ht=>?_
  simp only [Zo,← YO (G := G) (x := x) ht,hc,h1,Option.map_some]
  rfl
 case slice sh x lo hi =>
  simp only [Zo] at h
  split at h <;> first | (cases h; done) | skip
  rename_i a b c h0 h1 h2
  obtain ⟨h3,rfl⟩:=IV h
  refine .of_free rfl fun t ht=>?_
  simp only [Zo,← YO (G := G) (x := x) ht.left,← ZcY (G := G) (x := lo) ht.right.left,← ZcY (G := G) (x := hi) ht.right.right,h0,h1,h2,h3,Option.map_some]
  rfl
 case build zero parts =>
  simp only [Zo] at h
  split at h <;> first | (cases h; done) | skip
  rename_i vs hvs
  obtain ⟨u,h1,h2⟩:=Option.map_eq_some_iff.1 h
  cases h2
  refine .of_free rfl fun t ht=>?_
  simp only [Zo,← Ra (G := G) (xs := List.map (fun (p:Nat×Nat×V8)=>p.2.2) parts) ht,hvs,h1,Option.map_some]
  rfl
 case bin op sh x y =>
  simp only [Zo] at h
  split at h <;> first | (cases h; done) | skip
  rename_i a b ha hb
  obtain ⟨h1,rfl⟩:=IV h
  refine .of_free rfl fun t ht=>?_
  simp only [Zo,← YO (G := G) (x := x) ht.left,← YO (G := G) (x := y) ht.right,ha,hb,h1,Option.map_some]
  rfl
 case ia sh x y =>
  simp only [Zo] at h
  split at h <;> first | (cases h; done) | skip
  rename_i a b ha hb
  obtain ⟨h1,rfl⟩:=IV h
  refine .of_free rfl fun t ht=>?_
  simp only [Zo,← YO (G := G) (x := x) ht.left,← YO (G := G) (x := y) ht.right,ha,hb,h1,Option.map_some]
  rfl
 case idx x y =>
  simp only [Zo] at h
  split at h <;> first | (cases h; done) | skip
  rename_i a b ha hb
  obtain ⟨h1,rfl⟩:=IV h
  refine .of_free rfl fun t ht=>?_
  simp only [Zo,← YO (G := G) (x := x) ht.left,← YO (G := G) (x := y) ht.right,ha,hb,h1,Option.map_some]
  rfl
 case min xs =>
  simp only [Zo] at h
  split at h <;> first | (cases h; done) | skip
  rename_i n l hxs
  obtain ⟨u,h1,h2⟩:=Option.map_eq_some_iff.1 h
  cases h2
  refine .of_free rfl fun t ht=>?_
  simp only [Zo,← Ra (G := G) (xs := xs) ht,hxs,h1,Option.map_some]
  rfl
 case max xs =>
  simp only [Zo] at h
  split at h <;> first | (cases h; done) | skip
  rename_i n l hxs
  obtain ⟨u,h1,h2⟩:=Option.map_eq_some_iff.1 h
  cases h2
  refine .of_free rfl fun t ht=>?_
  simp only [Zo,← Ra (G := G) (xs := xs) ht,hxs,h1,Option.map_some]
  rfl
 case ldc x =>
  simp only [Zo] at h
  split at h <;> first | (cases h; done) | skip
  rename_i a ha
  obtain ⟨h1,rfl⟩:=IV h
  refine .of_look rfl fun t ht hl=>?_
  simp only [Zo,← YO (G := G) (x := x) ht,ha,hl.1 _ _ h1,Option.map_some]
  rfl
 case lda n x =>
  simp only [Zo] at h
  split at h <;> first | (cases h; done) | skip
  rename_i a ha
  obtain ⟨h1,rfl⟩:=IV h
  refine .of_look rfl fun t ht hl=>?_
  simp only [Zo,← YO (G := G) (x := x) ht,ha,hl.2 _ _ _ h1,Option.map_some]
  rfl
 case len sh x =>
  simp only [Zo] at h
  split at h <;> first | (cases h; done) | skip
  rename_i a ha
  obtain ⟨h1,rfl⟩:=IV h
  refine .of_read rfl fun t ht hl=>?_
  have e:Yy t.hp sh a=some v:=by rw [hl]; exact h1
  simp only [Zo,← YO (G := G) (x := x) ht,ha,e,Option.map_some]
  rfl
 case conv c x =>
  simp only [Zo] at h
  split at h <;> first | (cases h; done) | skip
  rename_i a ha
  obtain ⟨h1,rfl⟩:=IV h
  refine .of_read rfl fun t ht hl=>?_
  have e:Dt t.hp c a=some v:=by rw [hl]; exact h1
  simp only [Zo,← YO (G := G) (x := x) ht,ha,e,Option.map_some]
  rfl
 case app k b i x =>
  simp only [Zo] at h
  split at h <;> first | (cases h; done) | skip
  rename_i k' r a h0 ha
  split at h <;> first | (cases h; done) | skip
  rename_i k'' r' h1
  split at h <;> first | (cases h; done) | skip
  rename_i hc
  cases h
  refine .of_read rfl fun t ht hl=>?_
  have e0:=ht i (by simp [Ti])
  have e1:Agree (oR x) s.sl t.sl:=fun j hj=>ht j (List.mem_cons_of_mem _ hj)
  have e:rowsOf t.hp a=some (k'',r'):=by rw [hl]; exact h1
  simp only [Zo,← YO (G := G) (x := x) e1,← e0,h0,ha,e]
  rw [if_pos hc]
  rfl
 case appn k b x =>
  simp only [Zo] at h
  split at h <;> first | (cases h; done) | skip
  rename_i a ha
  split at h <;> first | (cases h; done) | skip
  rename_i k'' r' h1
  split at h <;> first | (cases h; done) | skip
  rename_i hc
  cases h
  refine .of_read rfl fun t ht hl=>?_
  have e:rowsOf t.hp a=some (k'',r'):=by rw [hl]; exact h1
  simp only [Zo,← YO (G := G) (x := x) ht,ha,e]
  rw [if_pos hc]
  rfl
 case call f args =>
  split at hk <;> first | (cases hk; done) | skip
  rename_i hn
  cases hk
  simp only [Zo] at h
  split at h <;> first | (cases h; done) | skip
  rename_i g first caps vs sl hf hvs
  split at h <;> first | (cases h; done) | skip
  rename_i u hp e hcall
  cases h
  obtain ⟨rfl,rfl⟩:=hq _ _ _ _ _ _ hcall
  have hall:(args.all fun | .inr _=>true | .inl _=>false)=true:=hn
  obtain ⟨rfl,_⟩:=El (G := G) (m := s.sl) hall (fun _ _=>rfl) hvs
  refine .of_read rfl fun t ht hl=>?_
  obtain ⟨_,e2⟩:=El (G := G) hall ht.right hvs
  have hcall':=hcall
  rw [← hl] at hcall'
  simp only [Zo,← YO (G := G) (x := f) ht.left,hf,e2,hcall']
  rfl
 case st n x y =>
  simp only [Zo] at h
  split at h <;> first | (cases h; done) | skip
  rename_i g o a ha hb
  split at h <;> first | (cases h; done) | skip
  rename_i cs ty hg
  split at h <;> first | (cases h; done) | skip
  rename_i hc
  cases h
  refine .of_set rfl rfl fun t ht h1 h2 h3=>?_
  simp only [Zo,← YO (G := G) (x := x) ht.left,← YO (G := G) (x := y) ht.right,ha,hb,h1,hg,Zv.note,h2,h3]
  rw [if_pos hc]
  rfl
 case stt x i =>
  simp only [Zo] at h
  split at h <;> first | (cases h; done) | skip
  rename_i g o a ha hb
  split at h <;> first | (cases h; done) | skip
  rename_i cs ty hg
  split at h <;> first | (cases h; done) | skip
  rename_i hc
  cases h
  refine .of_set rfl rfl fun t ht h1 h2 h3=>?_
  have e0:=ht i (by simp [Ti])
  have e1:Agree (oR x) s.sl t.sl:=fun j hj=>ht j (List.mem_cons_of_mem _ hj)
  simp only [Zo,← YO (G := G) (x := x) e1,← e0,ha,hb,h1,hg,Zv.note,Zv.let_,h2,h3]
  rw [if_pos hc]
  rfl
 case copy k x y =>
  simp only [Zo] at h
  split at h <;> first | (cases h; done) | skip
  ·rename_i g off len k'' a ha hb
   split at h <;> first | (cases h; done) | skip
   rename_i k' r cs ty hr hg
   split at h <;> first | (cases h; done) | skip
   rename_i hc
   cases h
   refine .of_set rfl rfl fun t ht h1 h2 h3=>?_
   simp only [Zo,← YO (G := G) (x := x) ht.left,← YO (G := G) (x := y) ht.right,ha,hb,h1,hr,hg,Zv.note,h2,h3]
   rw [if_pos hc]
   rfl
  ·rename_i a ha hb
   split at h <;> first | (cases h; done) | skip
   rename_i k' r hr
   split at h <;> first | (cases h; done) | skip
   rename_i hc
   cases h
   refine .of_set rfl rfl fun t ht h1 h2 h3=>?_
   simp only [Zo,← YO (G := G) (x := x) ht.left,← YO (G := G) (x := y) ht.right,ha,hb,h1,hr]
   rw [if_pos hc,← h1,← h2]
   rfl
 case ldt x =>
  simp only [Zo] at h
  split at h <;> first | (cases h; done) | skip
  rename_i g o ha
  split at h <;> first | (cases h; done) | skip
  rename_i cs ty hg
  split at h <;> first | (cases h; done) | skip
  rename_i u hu
  cases h
  obtain ⟨l1,l2⟩:=OV.mark hg hu
  have hlt:=(List.getElem?_eq_some_iff.1 hg).1
  refine ⟨rfl,rfl,fun t ht h1 h2 h3=>?_,(fun h=>h.elim),(fun h=>by cases h),(fun h=>by cases h),(fun h=>h.elim),(fun h=>by cases h),fun _=>⟨by simp,l1,l2,fun t obs ht h1 h2 h3=>?_⟩⟩
  ·simp only [Zo,← YO (G := G) (x := x) ht,ha,h1,hg,hu,Zv.note,h2,h3]
   rfl
  ·have e:(s.hp ++ obs)[g]? = some (.cells cs ty):=by rw [List.getElem?_append_left hlt]; exact hg
   simp only [Zo,← YO (G := G) (x := x) ht,ha,h1,e,hu,Zv.note,h2,h3,List.set_append_left _ _ hlt]
   rfl
 case lit e k parts =>
  cases parts with
  | nil =>
   simp only [hkind,Option.some.injEq] at hk
   subst hk
   have key:∀ t:Zv,Zo G call t (.lit e k [])=some (.own k [],t):=fun t=>rfl
   rw [key] at h
   cases h
   exact .of_free rfl fun t _=>key t
  | cons p0 ps =>
  simp only [hkind,Option.some.injEq] at hk
  subst hk
  generalize hps:p0 :: ps=parts at *
  simp only [Zo] at h
  split at h <;> first | (cases h; done) | skip
  rename_i vs hvs
  split at h
  ·rename_i hc
   cases h
   have key:∀ t:Zv,Agree (Ti (.lit e k parts)) s.sl t.sl→Zo G call t (.lit e k parts)=some (.own k (vs.map fun v=>v.cells.map AV.ro),t):=fun t ht=>by
    simp only [Zo,← Ra (G := G) (xs := parts) ht,hvs]
    rw [if_pos hc]
   refine ⟨rfl,rfl,fun t ht h1 h2 h3=>?_,(fun h=>h.elim),(fun h=>by cases h),(fun h=>by cases h),(fun h=>h.elim),fun _=>⟨rfl,[],by simp,fun t ht _=>?_⟩,(fun h=>by cases h)⟩
   ·rw [key t ht,← h1,← h2]; rfl
   ·rw [key t ht,List.append_nil]; rfl
  ·rename_i hc0
   split at h <;> first | (cases h; done) | skip
   rename_i hc
   cases h
   have key:∀ t:Zv,Agree (Ti (.lit e k parts)) s.sl t.sl→Zo G call t (.lit e k parts)=some (.arr t.hp.length 0 vs.length k,{ t with hp:=t.hp ++ [.cells (vs.map AV.cells).flatten e] }):=fun t ht=>by
    simp only [Zo,← Ra (G := G) (xs := parts) ht,hvs]
    rw [if_neg hc0,if_pos hc]
   refine ⟨rfl,rfl,fun t ht h1 h2 h3=>?_,(fun h=>h.elim),(fun h=>by cases h),(fun h=>by cases h),(fun h=>h.elim),fun _=>⟨rfl,_,rfl,fun t ht hl=>?_⟩,(fun h=>by cases h)⟩
   ·rw [key t ht,h1,h2]; rfl
   ·rw [key t ht,hl]; rfl
theorem Zmd {s t:Zv}{g:Option (Nat×Bool)}(h:Agree (match g with | some (i,_)=>[i] | none=>[]) s.sl t.sl):GX s g=GX t g:=by
 cases g with
 | none=>rfl
 | some p =>
  obtain ⟨i,b⟩:=p
  simp only [GX]
  rw [h i (by simp)]
def ZsV (d:Option Nat)(v:AV)(l:List AV):List AV:=match d with | some d=>l.set d v | none=>l
theorem Zn9 (d:Option Nat)(v:AV):Zf3 d.toList (ZsV d v):=by
 cases d with
 | none=>exact Zf3.id _
 | some d=>exact Zf3.set d v
theorem EG (s:Zv)(d:Option Nat)(v:AV):s.put d v=⟨ZsV d v s.sl,s.hp,s.ef,s.bs⟩:=by cases d <;> rfl
structure StepA (G:Nat→Option (List AV))(call:FuncId→List AV→List Zk→Option (AV×List Zk×Eff))(o:J9)(k:HK)(s s':Zv)(f:List AV→List AV):Prop where
 loc:Zf3 (Zao o) f
 sl:s'.sl=f s.sl
 bs:s'.bs=s.bs
 any:∀ t,Agree (Le o) s.sl t.sl→t.hp=s.hp→t.ef=s.ef→t.bs=s.bs→QF G call o t=some ⟨f t.sl,s'.hp,s'.ef,t.bs⟩
 still:(match k with | .free | .look | .read=>True | _=>False)→s'.hp=s.hp∧s'.ef=s.ef
 free:k=.free→∀ t,Agree (Le o) s.sl t.sl→QF G call o t=some ⟨f t.sl,t.hp,t.ef,t.bs⟩
 look:k=.look→∀ t,Agree (Le o) s.sl t.sl→OV s.hp t.hp→QF G call o t=some ⟨f t.sl,t.hp,t.ef,t.bs⟩
 read:(match k with | .free | .look | .read=>True | _=>False)→∀ t,Agree (Le o) s.sl t.sl→t.hp=s.hp→QF G call o t=some ⟨f t.sl,t.hp,t.ef,t.bs⟩
 alloc:k=.alloc→s'.ef=s.ef∧∃ obs,s'.hp=s.hp ++ obs∧∀ t,Agree (Le o) s.sl t.sl→t.hp.length=s.hp.length→QF G call o t=some ⟨f t.sl,t.hp ++ obs,t.ef,t.bs⟩
 mark:k=.mark→s'.hp.length=s.hp.length∧OV s.hp s'.hp∧OV s'.hp s.hp∧∀ t obs,Agree (Le o) s.sl t.sl→t.hp=s.hp ++ obs→t.ef=s.ef→t.bs=s.bs→QF G call o t=some ⟨f t.sl,s'.hp ++ obs,s'.ef,t.bs⟩
theorem Zqe (hq:∀ f args hp v hp' e,call f args hp=some (v,hp',e)→hp'=hp∧e=none){o:J9}{k:HK}{s s':Zv}(hk:hkind o.op=some k)(h:QF G call o s=some s'):∃ f,StepA G call o k s s' f:=by
 have wg:∀ t:Zv,Agree (Le o) s.sl t.sl→GX t o.guard=GX s o.guard:=fun t ht=>(Zmd ht.left).symm
 simp only [QF] at h
 split at h <;> first | (cases h; done) | skip
 ·rename_i hw
  split at h <;> first | (cases h; done) | skip
  rename_i v s1 he
  obtain rfl:=Option.some.inj h
  have S:=ZsQ hq hk he
  have run:∀ (t:Zv) (hp:List Zk) (ef:Eff),GX t o.guard=some true→Zo G call t o.op=some (v,⟨tkF o.op t.sl,hp,ef,t.bs⟩)→QF G call o t=some ⟨ZsV o.dst v (tkF o.op t.sl),hp,ef,t.bs⟩:=fun t hp ef h1 h2=>by
   simp only [QF,h1,h2,EG]
  refine ⟨fun l=>ZsV o.dst v (tkF o.op l),(Ztv o.op).comp (Zn9 o.dst v),by rw [EG,S.sl],by rw [EG]; exact S.bs,fun t ht h1 h2 h3=>?_,fun hs=>?_,fun hk t ht=>?_,fun hk t ht hl=>?_,fun hk t ht hl=>?_,fun hk=>?_,fun hk=>?_⟩
  ·rw [EG]; exact run t _ _ ((wg t ht).trans hw) (S.any t ht.right h1 h2 h3)
  ·rw [EG]; exact S.still hs
  ·exact run t _ _ ((wg t ht).trans hw) (S.free hk t ht.right)
  ·exact run t _ _ ((wg t ht).trans hw) (S.look hk t ht.right hl)
  ·exact run t _ _ ((wg t ht).trans hw) (S.read hk t ht.right hl)
  ·obtain ⟨e1,obs,e2,e3⟩:=S.alloc hk
   rw [EG]
   exact ⟨e1,obs,e2,fun t ht hl=>run t _ _ ((wg t ht).trans hw) (e3 t ht.right hl)⟩
  ·obtain ⟨e1,e2,e3,e4⟩:=S.mark hk
   rw [EG]
   exact ⟨e1,e2,e3,fun t obs ht h1 h2 h3=>run t _ _ ((wg t ht).trans hw) (e4 t obs ht.right h1 h2 h3)⟩
 ·rename_i hw
  obtain rfl:=Option.some.inj h
  have run:∀ t:Zv,GX t o.guard=some false→QF G call o t=some ⟨ZsV o.dst .undef t.sl,t.hp,t.ef,t.bs⟩:=fun t h1=>by
   simp only [QF,h1,EG]
  have hl:Zf3 (Zao o) (ZsV o.dst .undef):=by
   have:=(Zf3.id (Zkd o.op)).comp (Zn9 o.dst .undef)
   exact this
  rw [EG]
  refine ⟨ZsV o.dst .undef,hl,rfl,rfl,fun t ht h1 h2 h3=>?_,fun _=>⟨rfl,rfl⟩,fun _ t ht=>run t ((wg t ht).trans hw),fun _ t ht _=>run t ((wg t ht).trans hw),fun _ t ht _=>run t ((wg t ht).trans hw),fun _=>⟨rfl,[],by simp,fun t ht _=>?_⟩,fun _=>⟨rfl,.refl _,.refl _,fun t obs ht h1 h2 h3=>?_⟩⟩
  ·rw [run t ((wg t ht).trans hw),h1,h2]
  ·rw [run t ((wg t ht).trans hw),List.append_nil]
  ·rw [run t ((wg t ht).trans hw),h1,h2]
theorem ZrD (hq:∀ f args hp v hp' e,call f args hp=some (v,hp',e)→hp'=hp∧e=none){o1 o2:J9}{s s1 s2:Zv}(hc:ZnQ o1 o2=true)(h1:QF G call o1 s=some s1)(h2:QF G call o2 s1=some s2) :
  ∃ u,QF G call o2 s=some u∧QF G call o1 u=some s2:=by
 simp only [ZnQ,Bool.and_eq_true] at hc
 obtain ⟨⟨⟨hk,ha⟩,hb⟩,hd⟩:=hc
 split at hk <;> first | (cases hk; done) | skip
 rename_i k1 k2 hk1 hk2
 obtain ⟨f1,S1⟩:=Zqe hq hk1 h1
 obtain ⟨f2,S2⟩:=Zqe hq hk2 h2
 have A2:Agree (Le o2) s1.sl s.sl:=by rw [S1.sl]; exact (Agree.of_loc S1.loc ha s.sl).symm
 have A1:∀ u:Zv,u.sl=f2 s.sl→Agree (Le o1) s.sl u.sl:=fun u hu=>by rw [hu]; exact Agree.of_loc S2.loc hd s.sl
 have fin:∀ (u:Zv) (hp:List Zk) (ef:Eff),u.sl=f2 s.sl→u.bs=s.bs→hp=s2.hp→ef=s2.ef→QF G call o1 u=some ⟨f1 u.sl,hp,ef,u.bs⟩→QF G call o1 u=some s2:=fun u hp ef e1 e2 e3 e4 h=>by
  rw [h]
  have q1:f1 u.sl=s2.sl:=by rw [e1,S2.sl,S1.sl]; exact S1.loc.swap S2.loc hb s.sl
  have q2:u.bs=s2.bs:=by rw [e2,S2.bs,S1.bs]
  rw [q1,q2,e3,e4]
 cases k1 with
 | free =>
  obtain ⟨p1,p2⟩:=S1.still trivial
  have e:=S2.any s A2 p1.symm p2.symm S1.bs.symm
  exact ⟨_,e,fin _ _ _ rfl rfl rfl rfl (S1.free rfl _ (A1 _ rfl))⟩
 | look =>
  obtain ⟨p1,p2⟩:=S1.still trivial
  have e:=S2.any s A2 p1.symm p2.symm S1.bs.symm
  cases k2 with
  | free=>obtain ⟨q1,q2⟩:=S2.still trivial; exact ⟨_,e,fin _ _ _ rfl rfl rfl rfl (S1.look rfl _ (A1 _ rfl) (by show OV s.hp s2.hp; rw [q1,p1]; exact .refl _))⟩
  | look=>obtain ⟨q1,q2⟩:=S2.still trivial; exact ⟨_,e,fin _ _ _ rfl rfl rfl rfl (S1.look rfl _ (A1 _ rfl) (by show OV s.hp s2.hp; rw [q1,p1]; exact .refl _))⟩
  | read=>obtain ⟨q1,q2⟩:=S2.still trivial; exact ⟨_,e,fin _ _ _ rfl rfl rfl rfl (S1.look rfl _ (A1 _ rfl) (by show OV s.hp s2.hp; rw [q1,p1]; exact .refl _))⟩
  | mark=>obtain ⟨_,q2,_⟩:=S2.mark rfl; exact ⟨_,e,fin _ _ _ rfl rfl rfl rfl (S1.look rfl _ (A1 _ rfl) (by show OV s.hp s2.hp; rw [← p1]; exact q2))⟩
  | alloc =>
   obtain ⟨_,obs,q2,_⟩:=S2.alloc rfl
   refine ⟨_,e,fin _ _ _ rfl rfl rfl rfl (S1.look rfl _ (A1 _ rfl) ?_)⟩
   show OV s.hp s2.hp
   rw [q2,p1]
   exact .of_get fun g cs t hg=>⟨cs,t,by rw [List.getElem?_append_left (List.getElem?_eq_some_iff.1 hg).1]; exact hg,rfl⟩
  | set=>cases hk
 | read =>
  obtain ⟨p1,p2⟩:=S1.still trivial
  have e:=S2.any s A2 p1.symm p2.symm S1.bs.symm
  cases k2 with
  | free=>obtain ⟨q1,q2⟩:=S2.still trivial; exact ⟨_,e,fin _ _ _ rfl rfl rfl rfl (S1.read trivial _ (A1 _ rfl) (q1.trans p1))⟩
  | look=>obtain ⟨q1,q2⟩:=S2.still trivial; exact ⟨_,e,fin _ _ _ rfl rfl rfl rfl (S1.read trivial _ (A1 _ rfl) (q1.trans p1))⟩
  | read=>obtain ⟨q1,q2⟩:=S2.still trivial; exact ⟨_,e,fin _ _ _ rfl rfl rfl rfl (S1.read trivial _ (A1 _ rfl) (q1.trans p1))⟩
  | mark=>cases hk
  | alloc=>cases hk
  | set=>cases hk
 | set =>
  cases k2 with
  | free =>
   obtain ⟨q1,q2⟩:=S2.still trivial
   have e:=S2.free rfl s A2
   exact ⟨_,e,fin _ _ _ rfl rfl q1.symm q2.symm (S1.any _ (A1 _ rfl) rfl rfl rfl)⟩
  | _=>cases hk
 | alloc =>
  cases k2 with
  | free =>
   obtain ⟨q1,q2⟩:=S2.still trivial
   have e:=S2.free rfl s A2
   exact ⟨_,e,fin _ _ _ rfl rfl q1.symm q2.symm (S1.any _ (A1 _ rfl) rfl rfl rfl)⟩
  | _=>cases hk
 | mark =>
  obtain ⟨m1,m2,m3,m4⟩:=S1.mark rfl
  cases k2 with
  | free =>
   obtain ⟨q1,q2⟩:=S2.still trivial
   have e:=S2.free rfl s A2
   exact ⟨_,e,fin _ _ _ rfl rfl q1.symm q2.symm (S1.any _ (A1 _ rfl) rfl rfl rfl)⟩
  | look =>
   obtain ⟨q1,q2⟩:=S2.still trivial
   have e:=S2.look rfl s A2 m3
   exact ⟨_,e,fin _ _ _ rfl rfl q1.symm q2.symm (S1.any _ (A1 _ rfl) rfl rfl rfl)⟩
  | alloc =>
   obtain ⟨q1,obs,q2,q3⟩:=S2.alloc rfl
   have e:=q3 s A2 m1.symm
   refine ⟨_,e,fin _ _ _ rfl rfl q2.symm q1.symm (m4 _ obs (A1 _ rfl) rfl rfl rfl)⟩
  | _=>cases hk
end
end Go.Proofs.YtlmfmmclnboglaaGreat.Abs
end
section
namespace Go.Proofs.YtlmfmmclnboglaaGreat.Abs
open Go Go.RowKit
section
variable {P:Program}{G:Nat→Option (List AV)}{call:FuncId→List AV→List Zk→Option (AV×List Zk×Eff)}{E:Entry}{s s':Zv}{Γ:WC}{a:Act}{w:World}{hand:Nat→Bool}{draw:Bool}
def ZfE (ops:Array Oper):Option (Nat×Bool)→Option (Option (Nat×Bool))
 | none=>some none
 | some (j,want)=>match (ops[j]?).bind (·.dst) with
  | some d=>some (some (d,want))
  | none=>none
theorem RH (hI:Inv E s Γ a w){ops:Array Oper}{o:Oper}{g:Option (Nat×Bool)}{b:Bool}(hg:ZfE ops o.guard=some g)(h:GX s g=some b):Region.wanted o (yielded ops a.tmps)=b:=by
 unfold Region.wanted
 cases hq:o.guard with
 | none =>
  rw [hq] at hg
  obtain rfl:=Option.some.inj hg
  simp only [GX,Option.some.injEq] at h
  exact h
 | some p =>
  obtain ⟨j,want⟩:=p
  rw [hq] at hg
  simp only [ZfE] at hg
  split at hg
  ·rename_i d hd
   obtain rfl:=Option.some.inj hg
   simp only [GX] at h
   split at h <;> first | (cases h; done) | skip
   ·rename_i c hc
    obtain rfl:=Option.some.inj h
    have hr:=hI.slots.rep d _ hc
    have hlt:d < a.tmps.size:=by rw [hI.slots.size]; exact Ya hc
    have ht:a.tmps[d]? = some (a.tmps.getD d Go.undef):=Jc hlt
    generalize a.tmps.getD d Go.undef=u at hr ht
    cases hr
    simp only [yielded,hd,Option.bind_some,ht]
    cases c <;> cases want <;> rfl
   ·rename_i hc
    obtain rfl:=Option.some.inj h
    have hr:=hI.slots.rep d _ hc
    have hlt:d < a.tmps.size:=by rw [hI.slots.size]; exact Ya hc
    have ht:a.tmps[d]? = some (a.tmps.getD d Go.undef):=Jc hlt
    generalize a.tmps.getD d Go.undef=u at hr ht
    cases hr
    simp only [yielded,hd,Option.bind_some,ht]
    rfl
  ·cases hg
theorem ZaY {ops:Array Oper}{o:Oper}{l:List Oper}{aops:List J9}(h:Rs P hand draw ops (o :: l)=some aops) :
  ∃ g r,ZfE ops o.guard=some g∧Rs P hand draw ops l=some r∧aops=⟨o.dst,(cOp P hand draw o).getD .bad,g⟩ :: r:=by
 simp only [Rs] at h
 split at h <;> first | (cases h; done) | skip
 rename_i g r h2 h3
 refine ⟨g,r,?_,h3,(Option.some.inj h).symm⟩
 rw [← h2]
 unfold ZfE
 cases o.guard with
 | none=>rfl
 | some p=>rfl
theorem RF {o:Oper}{s s':Zv}{v:AV}{call:FuncId→List AV→List Zk→Option (AV×List Zk×Eff)}(h:Zo G call s ((cOp P hand draw o).getD .bad)=some (v,s')):cOp P hand draw o=some ((cOp P hand draw o).getD .bad):=by
 cases hc:cOp P hand draw o with
 | none=>rw [hc] at h; simp [Zo] at h
 | some ao=>rfl
theorem Zn5 (hG:GOk G E.W0)(hS:Uc P E.W0 call){ops:Array Oper}{Q:Exit→Act→World→Prop}:∀ {l:List Oper} {aops:List J9} (k:Nat) {s s':Zv} {Γ:WC} {a:Act} {w:World},(∀ j,l[j]? = ops[k + j]?) →
  Rs P hand draw ops l=some aops→XH G call aops s=some s'→Inv E s Γ a w→(∀ Γ a w,Inv E s' Γ a w→Q .normal a w)→wpOps P ops Q (List.range' k l.length) a w
 | [],aops,k,s,s',Γ,a,w,_,hc,h,hI,hQ=>by
  obtain rfl:=Option.some.inj (by simpa [Rs] using hc:some []=some aops)
  obtain rfl:=Option.some.inj (by simpa [XH] using h:some s=some s')
  exact hQ Γ a w hI
 | o :: l,aops,k,s,s',Γ,a,w,hl,hc,h,hI,hQ=>by
  obtain ⟨g,r,h2,h3,rfl⟩:=ZaY hc
  have ho:ops[k]? = some o:=by simpa using (hl 0).symm
  simp only [XH] at h
  split at h <;> first | (cases h; done) | skip
  rename_i s1 he
  have hl':∀ j,l[j]? = ops[k + 1 + j]?:=fun j=>by
   have:=hl (j + 1)
   simpa [Nat.add_assoc,Nat.add_comm 1 j] using this
  simp only [List.length_cons,List.range'_succ,wpOps,ho]
  simp only [QF] at he
  split at he <;> first | (cases he; done) | skip
  ·rename_i hw
   rw [RH hI h2 hw]
   split at he <;> first | (cases he; done) | skip
   rename_i v s2 hev
   obtain rfl:=Option.some.inj he
   simp only [if_true]
   refine .inl (ZsR hG hS hI (RF hev) hev fun Γ' cv w' i1 r1 o1=>?_)
   obtain ⟨Γ2,i2⟩:=i1.put o.dst r1 o1
   exact Zn5 hG hS (k + 1) hl' h3 h i2 hQ
  ·rename_i hw
   rw [RH hI h2 hw]
   obtain rfl:=Option.some.inj he
   simp only [Bool.false_eq_true,if_false]
   obtain ⟨Γ2,i2⟩:=hI.put o.dst (v := .undef) (cv := Go.undef) .undef (.of_ne (by simp))
   exact Zn5 hG hS (k + 1) hl' h3 h i2 hQ
theorem Zha (hG:GOk G E.W0)(hS:Uc P E.W0 call){ops:Array Oper}{Q:Exit→Act→World→Prop}{w:World}:∀ {l:List Oper} {aops:List J9} {s s':Zv} {Γ:WC} {a:Act},
  Rs P hand draw ops l=some aops→Zf0 aops=true→XH G (Vf call) aops s=some s'→Inv E s Γ a w→(∀ Γ a w,Inv E s' Γ a w→Q .normal a w) →
  wpQuiet P ops (Behind w) (fun a'=>∀ w',Behind w w'→Q .normal a' w') l a
 | [],aops,s,s',Γ,a,hc,_,h,hI,hQ=>by
  obtain rfl:=Option.some.inj (by simpa [Rs] using hc:some []=some aops)
  obtain rfl:=Option.some.inj (by simpa [XH] using h:some s=some s')
  exact fun w' hw'=>hQ Γ a w' (hw'.inv hI)
 | o :: l,aops,s,s',Γ,a,hc,hq,h,hI,hQ=>by
  obtain ⟨g,r,h2,h3,rfl⟩:=ZaY hc
  simp only [Zf0,Bool.and_eq_true] at hq
  simp only [XH] at h
  split at h <;> first | (cases h; done) | skip
  rename_i s1 he
  simp only [wpQuiet]
  simp only [QF] at he
  split at he <;> first | (cases he; done) | skip
  ·rename_i hw
   rw [RH hI h2 hw]
   split at he <;> first | (cases he; done) | skip
   rename_i v s2 hev
   obtain rfl:=Option.some.inj he
   simp only [if_true]
   refine Zn3 hG hS hI (RF hev) hq.1.1 hq.1.2 hev fun cv e r1 o1=>?_
   subst e
   obtain ⟨Γ2,i2⟩:=hI.put o.dst r1 (o1 .res)
   exact Zha hG hS h3 hq.2 h i2 hQ
  ·rename_i hw
   rw [RH hI h2 hw]
   obtain rfl:=Option.some.inj he
   simp only [Bool.false_eq_true,if_false]
   obtain ⟨Γ2,i2⟩:=hI.put o.dst (v := .undef) (cv := Go.undef) .undef (.of_ne (by simp))
   exact Zha hG hS h3 hq.2 h i2 hQ
theorem bubble (hq:∀ f args hp v hp' e,call f args hp=some (v,hp',e)→hp'=hp∧e=none){o:J9}{l2:List J9}{sF:Zv}:∀ {l1:List J9} {s:Zv},(∀ x ∈ l1,ZnQ x o=true)→XH G call (l1 ++ o :: l2) s=some sF →
  ∃ u,QF G call o s=some u∧XH G call (l1 ++ l2) u=some sF
 | [],s,_,h=>by
  simp only [List.nil_append,XH] at h
  split at h <;> first | (cases h; done) | skip
  rename_i u hu
  exact ⟨u,hu,h⟩
 | x :: l1,s,hx,h=>by
  simp only [List.cons_append,XH] at h
  split at h <;> first | (cases h; done) | skip
  rename_i s1 h1
  obtain ⟨u1,h2,h3⟩:=bubble hq (fun y hy=>hx y (List.mem_cons_of_mem _ hy)) h
  obtain ⟨u,h4,h5⟩:=ZrD hq (hx x (List.mem_cons_self ..)) h1 h2
  refine ⟨u,h4,?_⟩
  simp only [List.cons_append,XH,h5]
  exact h3
theorem Zok:∀ f args hp v hp' e,Vf call f args hp=some (v,hp',e)→hp'=hp∧e=none:=by
 intro f args hp v hp' e h
 unfold Vf at h
 split at h <;> first | (cases h; done) | skip
 split at h <;> first | (cases h; done) | skip
 cases h
 exact ⟨rfl,rfl⟩
theorem NM:∀ {l:List Oper} {aops:List J9} {ops:Array Oper},Rs P hand draw ops l=some aops→l.length=aops.length∧∀ (i:Nat) (o:Oper),l[i]? = some o→∃ g,ZfE ops o.guard=some g∧aops[i]? = some ⟨o.dst,(cOp P hand draw o).getD .bad,g⟩
 | [],aops,ops,h=>by
  obtain rfl:=Option.some.inj (by simpa [Rs] using h:some []=some aops)
  exact ⟨rfl,fun i o hi=>by simp at hi⟩
 | o :: l,aops,ops,h=>by
  obtain ⟨g,r,h2,h3,rfl⟩:=ZaY h
  obtain ⟨h4,h5⟩:=NM h3
  refine ⟨by simp [h4],fun i o' hi=>?_⟩
  cases i with
  | zero=>cases hi; exact ⟨g,h2,rfl⟩
  | succ i=>exact h5 i o' hi
theorem Zrb (hG:GOk G E.W0)(hS:Uc P E.W0 call){ops:Array Oper}{o:Oper}{g:Option (Nat×Bool)}{u:Zv}{K:Act→World→Prop}{Q:Exit→Act→World→Prop}(hn:noHand ((cOp P hand draw o).getD .bad)=true)(h2:ZfE ops o.guard=some g)
  (he:QF G (Vf call) ⟨o.dst,(cOp P hand draw o).getD .bad,g⟩ s=some u) (hI:Inv E s Γ a w) (hK:∀ Γ a w,Inv E u Γ a w→K a w) :
  if Region.wanted o (yielded ops a.tmps)=true then o.wp P a w K Q∨(o.asks P a w∧LetsOut Q) else K (a.put o.dst Go.undef) w:=by
 simp only [QF] at he
 split at he <;> first | (cases he; done) | skip
 ·rename_i hw
  rw [RH hI h2 hw]
  split at he <;> first | (cases he; done) | skip
  rename_i v s2 hev
  obtain rfl:=Option.some.inj he
  simp only [if_true]
  refine .inl ?_
  by_cases hc:∃ f args,(cOp P hand draw o).getD .bad=.call f args
  ·obtain ⟨f,args,hcall⟩:=hc
   have hqt:Zho ((cOp P hand draw o).getD .bad)=true:=by rw [hcall]; rfl
   refine Oper.wp_of_quiet (C := Behind w) (K := fun a'=>∀ w',Behind w w'→K a' w') (Behind.refl w) (fun a' w' hw' h=>h w' hw') ?_
   refine Zn3 hG hS hI (RF hev) hqt hn hev fun cv e r1 o1=>?_
   subst e
   obtain ⟨Γ2,i2⟩:=hI.put o.dst r1 (o1 .res)
   exact fun w' hw'=>hK _ _ w' (hw'.inv i2)
  ·have hev':Zo G call s ((cOp P hand draw o).getD .bad)=some (v,s2):=by
    rw [← hev]
    cases hx:(cOp P hand draw o).getD .bad <;> first | rfl | exact absurd ⟨_,_,hx⟩ hc
   refine ZsR hG hS hI (RF hev') hev' fun Γ' cv w' i1 r1 o1=>?_
   obtain ⟨Γ2,i2⟩:=i1.put o.dst r1 o1
   exact hK _ _ _ i2
 ·rename_i hw
  rw [RH hI h2 hw]
  obtain rfl:=Option.some.inj he
  simp only [Bool.false_eq_true,if_false]
  obtain ⟨Γ2,i2⟩:=hI.put o.dst (v := .undef) (cv := Go.undef) .undef (.of_ne (by simp))
  exact hK _ _ _ i2
theorem Zjg {listed:Array Bool}{i:Nat}(h:listed.getD i true=false):listed.getD i false=false:=by
 rcases Nat.lt_or_ge i listed.size with h' | h'
 ·simp [h'] at h ⊢; exact h
 ·simp [Array.getElem?_eq_none h'] at h
def Lr (n:Nat)(listed:Array Bool):List Nat:=(List.range n).filter fun i=>!listed.getD i true
theorem RB (n:Nat)(listed:Array Bool):(Lr n listed).Pairwise (· < ·):=List.Pairwise.filter _ List.pairwise_lt_range
theorem TL {n i:Nat}{listed:Array Bool}:i ∈ Lr n listed↔i < n∧listed.getD i true=false:=by simp [Lr]
theorem Zdd {n i:Nat}{listed:Array Bool}{l1 l2:List Nat}(h:Lr n listed=l1 ++ i :: l2)(hi:i < listed.size):Lr n (listed.setIfInBounds i true)=l1 ++ l2:=by
 have hs:=RB n listed
 rw [h] at hs
 have h1:∀ j ∈ l1,j≠i:=fun j hj=>Nat.ne_of_lt ((List.pairwise_append.1 hs).2.2 j hj i (List.mem_cons_self ..))
 have h2:∀ j ∈ l2,j≠i:=fun j hj=>Nat.ne_of_gt ((List.pairwise_cons.1 (List.pairwise_append.1 hs).2.1).1 j hj)
 have e:Lr n (listed.setIfInBounds i true)=(Lr n listed).filter fun j=>decide (j≠i):=by
  unfold Lr
  rw [List.filter_filter]
  refine List.filter_congr fun j _=>?_
  by_cases hji:j=i
  ·subst hji
   have:(listed.setIfInBounds j true).getD j true=true:=by simp [hi]
   simp [this]
  ·rw [getD_set_ne true (Ne.symm hji)]; simp [hji]
 rw [e,h,List.filter_append,List.filter_cons]
 simp only [ne_eq,not_true_eq_false,decide_false,Bool.false_eq_true,if_false]
 rw [List.filter_eq_self.2 (fun j hj=>by simpa using h1 j hj),List.filter_eq_self.2 (fun j hj=>by simpa using h2 j hj)]
theorem ZsT (hG:GOk G E.W0)(hS:Uc P E.W0 call){ops:Array Oper}{bops:List J9}{Q:Exit→Act→World→Prop}{sF:Zv}(hc:Rs P hand draw ops ops.toList=some bops)(hd:ZiV ops bops=true)(hQ:∀ Γ a w,Inv E sF Γ a w→Q .normal a w) :
  ∀ (fuel:Nat) {listed:Array Bool} {s:Zv} {Γ:WC} {a:Act} {w:World},listed.size=ops.size→(Lr ops.size listed).length=fuel→XH G (Vf call) ((Lr ops.size listed).map fun i=>bops.getD i ⟨none,.bad,none⟩) s=some sF→Inv E s Γ a w→wpAny P .any ops Q fuel listed a w:=by
 simp only [ZiV,Bool.and_eq_true,List.all_eq_true,List.mem_range] at hd
 obtain ⟨⟨hord,hnh⟩,hpair⟩:=hd
 obtain ⟨hlen,hget⟩:=NM hc
 intro fuel
 induction fuel with
 | zero =>
  intro listed s Γ a w hsz hl h hI
  have hn:=List.eq_nil_of_length_eq_zero hl
  rw [hn] at h
  obtain rfl:=Option.some.inj (by simpa [XH] using h:some s=some sF)
  refine ⟨List.eq_nil_iff_forall_not_mem.2 fun i hi=>?_,hQ _ _ _ hI⟩
  obtain ⟨h1,o,h2,_⟩:=mem_ready.1 hi
  have:i ∈ Lr ops.size listed:=TL.2 ⟨(Array.getElem?_eq_some_iff.1 h2).1,h1⟩
  rw [hn] at this
  cases this
 | succ fuel ih =>
  intro listed s Γ a w hsz hl h hI
  have hlisted:∀ j,j < ops.size→listed.getD j true≠false→listed.getD j false=true:=fun j hj h=>by
   have hj':j < listed.size:=by omega
   simp [hj'] at h ⊢; exact h
  refine ⟨fun hr=>?_,fun i hi=>?_⟩
  ·obtain ⟨i,r,hir⟩:∃ i r,Lr ops.size listed=i :: r:=by
    cases hx:Lr ops.size listed with
    | nil=>rw [hx] at hl; cases hl
    | cons i r=>exact ⟨i,r,rfl⟩
   have him:=TL.1 (show i ∈ Lr ops.size listed by rw [hir]; exact List.mem_cons_self ..)
   have hoi:ops[i]? = some ops[i]:=Array.getElem?_eq_getElem him.1
   have hready:i ∈ Region.ready .any ops listed:=by
    refine mem_ready.2 ⟨him.2,_,hoi,fun e he hb=>?_⟩
    have:=hord i him.1
    rw [hoi] at this
    have hlt:=Array.all_eq_true'.1 this e he
    rw [hb] at hlt
    simp only [Bool.not_true,Bool.false_or,decide_eq_true_eq] at hlt
    refine hlisted e.on (by omega) fun hun=>?_
    have hm:=TL.2 ⟨show e.on < ops.size by omega,hun⟩
    rw [hir] at hm
    have hs:=RB ops.size listed
    rw [hir] at hs
    rcases List.mem_cons.1 hm with he | hm
    ·omega
    ·have:=(List.pairwise_cons.1 hs).1 _ hm
     omega
   rw [hr] at hready
   cases hready
  ·obtain ⟨hun,o,ho,hdeps⟩:=mem_ready.1 hi
   have hin:=(Array.getElem?_eq_some_iff.1 ho).1
   obtain ⟨l1,l2,hsplit⟩:=List.append_of_mem (TL.2 ⟨hin,hun⟩)
   have hs:=RB ops.size listed
   rw [hsplit] at hs
   obtain ⟨g,hg1,hg2⟩:=hget i o (by simpa using ho)
   have hbi:bops.getD i ⟨none,.bad,none⟩=⟨o.dst,(cOp P hand draw o).getD .bad,g⟩:=by rw [List.getD_eq_getElem?_getD,hg2]; rfl
   have hcomm:∀ x ∈ l1.map (fun i=>bops.getD i ⟨none,.bad,none⟩),ZnQ x ⟨o.dst,(cOp P hand draw o).getD .bad,g⟩=true:=fun x hx=>by
    obtain ⟨j,hj,rfl⟩:=List.mem_map.1 hx
    have hji:j < i:=(List.pairwise_append.1 hs).2.2 j hj i (List.mem_cons_self ..)
    have hjm:=TL.1 (show j ∈ Lr ops.size listed by rw [hsplit]; exact List.mem_append_left _ hj)
    have:=hpair i hin j hji
    rw [Bool.or_eq_true] at this
    rcases this with h1 | h1
    ·exfalso
     unfold Zqi at h1
     rw [ho] at h1
     obtain ⟨e,he,hb⟩:=Array.any_eq_true'.1 h1
     simp only [Bool.and_eq_true,beq_iff_eq] at hb
     have h2:=hdeps e he hb.1
     rw [hb.2,Zjg hjm.2] at h2
     cases h2
    ·rw [hg2] at h1
     split at h1
     ·rename_i x y hx hy
      cases hy
      rw [List.getD_eq_getElem?_getD,hx]
      exact h1
     ·cases h1
   rw [hsplit,List.map_append,List.map_cons,hbi] at h
   obtain ⟨u,hu1,hu2⟩:=bubble Zok hcomm h
   rw [← List.map_append,← Zdd hsplit (by omega)] at hu2
   have hkk:noHand ((cOp P hand draw o).getD .bad)=true:=hnh _ (List.mem_of_getElem? hg2)
   have hlen2:(Lr ops.size (listed.setIfInBounds i true)).length=fuel:=by
    rw [Zdd hsplit (by omega)]
    rw [hsplit] at hl
    simp at hl ⊢
    omega
   unfold wpOp
   simp only [ho]
   exact Zrb hG hS hkk hg1 hu1 hI fun Γ' a' w' hI'=>ih (by simp [hsz]) hlen2 hu2 hI'
end
end Go.Proofs.YtlmfmmclnboglaaGreat.Abs
end
section
namespace Go.Proofs.YtlmfmmclnboglaaGreat.Abs
open Go Go.RowKit
section
variable {P:Program}{G:Nat→Option (List AV)}{call:FuncId→List AV→List Zk→Option (AV×List Zk×Eff)}{E:Entry}{s s':Zv}{Γ:WC}{a:Act}{w:World}{hand:Nat→Bool}{draw:Bool}
def Ends (E:Entry)(r:AQ×Zv)(e:Exit)(a:Act)(w:World):Prop :=
 (match r.1,e with
  | .normal,.normal=>True
  | .exit i,.exit j=>i=j
  | .ret,.ret=>True
  | _,_=>False)∧∃ Γ,Inv E r.2 Γ a w
theorem Ends.normal {s:Zv}{Γ:WC}{a:Act}{w:World}(h:Inv E s Γ a w):Ends E (.normal,s) .normal a w:=⟨trivial,Γ,h⟩
theorem Zmx {c:Code}{f:Zv→Option (AQ×Zv)}(ih:∀ {s:Zv} {r:AQ×Zv} {Γ:WC} {a:Act} {w:World},f s=some r→Inv E s Γ a w→c.wp P (Ends E r) a w) :
  ∀ (n:Nat) {s:Zv} {r:AQ×Zv} {Γ:WC} {a:Act} {w:World},iter f n s=some r→Inv E s Γ a w→Code.rounds P c (Ends E r) n a w
 | 0,_,_,_,_,_,h,_=>by cases h
 | n + 1,s,r,Γ,a,w,h,hI=>by
  rw [rounds_succ]
  simp only [iter] at h
  split at h
  ·rename_i s1 h1
   refine Go.wp_mono (ih h1 hI) fun e a' w' he=>?_
   obtain ⟨k1,Γ',i1⟩:=he
   cases e <;> first | exact k1.elim | skip
   exact Zmx ih n h i1
  ·rename_i hne
   refine Go.wp_mono (ih h hI) fun e a' w' he=>?_
   cases e <;> first | exact he | skip
   obtain ⟨k1,_⟩:=he
   obtain ⟨x,s1⟩:=r
   cases x <;> first | exact k1.elim | skip
   exact absurd h (hne s1)
theorem Zsr (hm:P.follows .mixedOrders=true)(hG:GOk G E.W0)(hS:Uc P E.W0 call){takes:FuncId→List Nat}{res:List Nat}(L:Nat):∀ {c:Code} {ac:Zn} {s:Zv} {r:AQ×Zv} {Γ:WC} {a:Act} {w:World},
  Zat P takes res c=some ac→Q3 G call L ac s=some r→Inv E s Γ a w→c.wp P (Ends E r) a w:=by
 intro c
 induction c with
 | skip =>
  intro ac s r Γ a w hc h hI
  cases hc; cases h
  exact Go.wp_skip (.normal hI)
 | region id ops draw =>
  intro ac s r Γ a w hc h hI
  cases draw with
  | false =>
   simp only [Zat] at hc
   obtain ⟨aops,h1,rfl⟩:=Option.map_eq_some_iff.1 hc
   simp only [Q3] at h
   obtain ⟨s1,h2,rfl⟩:=Option.map_eq_some_iff.1 h
   refine wp_region ?_
   rw [List.range_eq_range']
   have:=Zn5 hG hS (Q := Ends E (.normal,s1)) 0 (l := ops.toList) (by simp) h1 h2 hI fun Γ a w h=>.normal h
   simpa using this
  | true =>
   simp only [Zat] at hc
   split at hc <;> first | (cases hc; done) | skip
   rename_i aops bops h1 h1'
   split at hc
   ·rename_i hq
    simp only [Bool.and_eq_true] at hq
    cases hc
    simp only [Q3] at h
    obtain ⟨s1,h2,rfl⟩:=Option.map_eq_some_iff.1 h
    refine wp_region_quiet (C := Behind w) hm hq.1 ⟨rfl,rfl,rfl,Nat.le_refl _,fun _ _=>rfl⟩ ?_
    exact Zha hG hS h1 hq.2 h2 hI fun Γ a w h=>.normal h
   ·split at hc
    ·rename_i hd
     cases hc
     simp only [Q3] at h
     obtain ⟨s1,h2,rfl⟩:=Option.map_eq_some_iff.1 h
     refine wp_region_any hm ?_
     have hb:Behind w { w with drawn:=w.drawn + 1 }:=⟨rfl,rfl,rfl,Nat.le_refl _,fun _ _=>rfl⟩
     have hr:Lr ops.size (Array.replicate ops.size false)=List.range ops.size:=by
      unfold Lr
      refine List.filter_eq_self.2 fun i hi=>?_
      simp only [List.mem_range] at hi
      simp [hi]
     have hmap:(List.range ops.size).map (fun i=>bops.getD i ⟨none,.bad,none⟩)=bops:=by
      have hl:ops.size=bops.length:=by simpa using (NM h1').1
      rw [hl]
      refine List.ext_getElem? fun i=>?_
      rw [List.getElem?_map]
      by_cases hi:i < bops.length
      ·rw [List.getElem?_range hi,Option.map_some,List.getD_eq_getElem?_getD,List.getElem?_eq_getElem hi]; rfl
      ·rw [List.getElem?_eq_none (by simpa using hi),List.getElem?_eq_none (by omega)]; rfl
     exact ZsT hG hS (Q := Ends E (.normal,s1)) h1' hd (fun Γ a w h=>.normal h) ops.size (by simp) (by rw [hr]; simp) (by rw [hr,hmap]; exact h2) (hb.inv hI)
    ·cases hc; cases h
 | seq x y ihx ihy =>
  intro ac s r Γ a w hc h hI
  simp only [Zat] at hc
  split at hc <;> first | (cases hc; done) | skip
  rename_i ax ay hx hy
  obtain rfl:=Option.some.inj hc
  simp only [Q3] at h
  refine Go.wp_seq ?_
  split at h
  ·rename_i s1 h1
   refine Go.wp_mono (ihx hx h1 hI) fun e a' w' he=>?_
   obtain ⟨k1,Γ',i1⟩:=he
   cases e <;> first | exact k1.elim | skip
   exact ihy hy h i1
  ·rename_i hne
   refine Go.wp_mono (ihx hx h hI) fun e a' w' he=>?_
   cases e <;> first | exact he | skip
   obtain ⟨k1,_⟩:=he
   obtain ⟨q,s1⟩:=r
   cases q <;> first | exact k1.elim | skip
   exact absurd h (hne s1)
 | cond c x y ihx ihy =>
  intro ac s r Γ a w hc h hI
  simp only [Zat] at hc
  split at hc <;> first | (cases hc; done) | skip
  rename_i c' ax ay hcc hx hy
  obtain rfl:=Option.some.inj hc
  simp only [Q3] at h
  split at h <;> first | (cases h; done) | skip
  ·rename_i hb
   have k:=(Yb hG hI hcc hb).1
   generalize hq:a.eval c=q at k
   cases k
   exact Go.wp_cond_true hq (ihx hx h hI)
  ·rename_i hb
   have k:=(Yb hG hI hcc hb).1
   generalize hq:a.eval c=q at k
   cases k
   exact Go.wp_cond_false hq (ihy hy h hI)
 | block id c ih =>
  intro ac s r Γ a w hc h hI
  simp only [Zat] at hc
  obtain ⟨ax,hx,rfl⟩:=Option.map_eq_some_iff.1 hc
  simp only [Q3] at h
  refine Go.wp_block ?_
  split at h
  ·rename_i i s1 h1
   split at h
   ·rename_i hi
    obtain rfl:=Option.some.inj h
    refine Go.wp_mono (ih hx h1 hI) fun e a' w' he=>?_
    obtain ⟨k1,Γ',i1⟩:=he
    cases e <;> first | exact k1.elim | skip
    rename_i j
    simp only [Exit.inBlock]
    rw [if_pos (by rw [← hi]; exact (show i=j from k1).symm)]
    exact .normal i1
   ·rename_i hi
    obtain rfl:=Option.some.inj h
    refine Go.wp_mono (ih hx h1 hI) fun e a' w' he=>?_
    obtain ⟨k1,Γ',i1⟩:=he
    cases e <;> first | exact k1.elim | skip
    rename_i j
    simp only [Exit.inBlock]
    rw [if_neg (by rw [← (show i=j from k1)]; exact hi)]
    exact ⟨k1,Γ',i1⟩
  ·rename_i hne
   refine Go.wp_mono (ih hx h hI) fun e a' w' he=>?_
   cases e <;> first | exact he | skip
   obtain ⟨k1,_⟩:=he
   obtain ⟨q,s1⟩:=r
   cases q <;> first | exact k1.elim | skip
   exact absurd h (hne _ s1)
 | loop c ih =>
  intro ac s r Γ a w hc h hI
  simp only [Zat] at hc
  obtain ⟨ax,hx,rfl⟩:=Option.map_eq_some_iff.1 hc
  simp only [Q3] at h
  exact wp_loop_rounds L (Zmx (fun h1 h2=>ih hx h1 h2) L h hI)
 | scope c ih =>
  intro ac s r Γ a w hc h hI
  simp only [Zat] at hc
  obtain ⟨ax,hx,rfl⟩:=Option.map_eq_some_iff.1 hc
  simp only [Q3] at h
  refine Go.wp_scope_straight (Go.wp_mono (ih hx h hI) fun e a' w' he=>?_)
  cases e <;> first | exact he | skip
  obtain ⟨k1,_⟩:=he
  obtain ⟨q,s1⟩:=r
  cases q <;> exact k1.elim
 | exit id =>
  intro ac s r Γ a w hc h hI
  cases hc; cases h
  exact Go.wp_exit ⟨rfl,Γ,hI⟩
 | ret =>
  intro ac s r Γ a w hc h hI
  cases hc; cases h
  exact Go.wp_ret ⟨trivial,Γ,hI⟩
 | label l =>
  intro ac s r Γ a w hc h hI
  cases hc; cases h
  exact Go.wp_label (.normal hI)
 | _ =>
  intro ac s r Γ a w hc h
  cases hc; cases h
end
end Go.Proofs.YtlmfmmclnboglaaGreat.Abs
end
section
namespace Go.Proofs.YtlmfmmclnboglaaGreat.Abs
open Go Go.RowKit
section
variable {P:Program}{G:Nat→Option (List AV)}{E:Entry}{s:Zv}{Γ:WC}{a:Act}{w:World}
def Zhw (tmps:Array Value):ResultVar→Sem Value
 | .tmp t=>pure (tmps.getD t Go.undef)
 | .cell x t=>do loadVar t (← asAddr (tmps.getD x Go.undef))
def packed:List Value→Value
 | [v]=>v
 | vs=>.tuple vs.toArray
theorem Zhx {fn:Func}{tmps:Array Value}{vs:List Value}(h:(fn.results.toList.mapM (Zhw tmps)).run P w=.ok vs w):(results fn tmps).run P w=.ok (packed vs) w:=by
 have e0:results fn tmps=(do let vs ← fn.results.mapM (Zhw tmps); pure (if h:vs.size=1 then vs[0] else .tuple vs)):=by
  unfold results
  congr 1
 rw [e0]
 obtain ⟨l,hl⟩:∃ l,fn.results=⟨l⟩:=⟨fn.results.toList,rfl⟩
 rw [hl] at h ⊢
 have e:((⟨l⟩:Array ResultVar).mapM (Zhw tmps)).run P w=.ok vs.toArray w:=by
  rw [List.mapM_toArray,map_eq_pure_bind,Sem.run_bind,h]
  rfl
 rw [Sem.run_bind,e]
 simp only [Result.andThen_ok,Sem.run_pure]
 cases vs with
 | nil=>rfl
 | cons v vs=>cases vs <;> rfl
theorem ZpT (hI:Inv E s Γ a w){r:ResultVar}{ar:Zmf}{v:AV}(hc:ZuD P r=some ar)(h:Ze5 s ar=some v) :
  ∃ cv,(Zhw a.tmps r).run P w=.ok cv w∧Rep Γ w v cv∧((∃ t,cv=a.tmps.getD t Go.undef∧s.sl[t]? = some v)∨∀ k r,v≠.own k r):=by
 cases r with
 | tmp t =>
  obtain rfl:=Option.some.inj hc
  exact ⟨a.tmps.getD t Go.undef,rfl,hI.slots.rep t v h,.inl ⟨t,rfl,h⟩⟩
 | cell t ty =>
  simp only [ZuD] at hc
  split at hc
  ·rename_i hag
   obtain rfl:=Option.some.inj hc
   simp only [Ze5] at h
   split at h <;> first | (cases h; done) | skip
   rename_i x hx
   obtain ⟨b,off,cv,e,hl,hcell,hr,hn⟩:=Zpp hI (hI.slots.rep t x hx) h
   have hu:=ZgH hag
   obtain ⟨i,hi⟩:=info_of_underlying hu
   have hld:=run_loadCells_list (P := P) w ⟨b,off,none⟩ cv (fun j y hj=>by rw [add_lit]; exact hcell j y hj)
   rw [hl] at hld
   refine ⟨_,?_,hr,.inr hn⟩
   simp only [Zhw,e]
   simp [asAddr,loadVar,S9 hag hu,XJ hi,hld]
  ·rename_i hag
   split at hc <;> first | (cases hc; done) | skip
   rename_i hu
   obtain rfl:=Option.some.inj hc
   simp only [Ze5] at h
   split at h <;> first | (cases h; done) | skip
   rename_i x hx
   obtain ⟨b,off,cv,e,hcell,hr,hn⟩:=Zpq hI (hI.slots.rep t x hx) h
   refine ⟨cv,?_,hr,.inr hn⟩
   simp only [Zhw,e]
   simp [asAddr,loadVar,S9 (by simpa using hag) hu,hcell]
theorem ZpS (hI:Inv E s Γ a w):∀ {rs:List ResultVar} {ars:List Zmf} {vs:List AV},ZkJ P rs=some ars→Zac s ars=some vs →
  ∃ cvs:List Value,(rs.mapM (Zhw a.tmps)).run P w=.ok cvs w∧cvs.length=vs.length∧ars.length=rs.length∧∀ (j:Nat) (x:AV),vs[j]? = some x→∃ u,cvs[j]? = some u∧Rep Γ w x u
 | [],ars,vs,hc,h=>by
  cases hc; cases h
  exact ⟨[],rfl,rfl,rfl,fun j x hx=>by simp at hx⟩
 | r :: rs,ars,vs,hc,h=>by
  simp only [ZkJ] at hc
  split at hc <;> first | (cases hc; done) | skip
  rename_i ar l h1 h2
  obtain rfl:=Option.some.inj hc
  simp only [Zac] at h
  split at h <;> first | (cases h; done) | skip
  rename_i v vs' h3 h4
  obtain rfl:=Option.some.inj h
  obtain ⟨cv,e1,r1,_⟩:=ZpT hI h1 h3
  obtain ⟨cvs,e2,e3,e4,e5⟩:=ZpS hI h2 h4
  refine ⟨cv :: cvs,?_,by simp [e3],by simp [e4],fun j x hx=>?_⟩
  ·rw [List.mapM_cons]
   simp only [Sem.run_bind,e1,Result.andThen_ok,e2]
   rfl
  ·cases j with
   | zero=>obtain rfl:=Option.some.inj hx; exact ⟨cv,rfl,r1.nm⟩
   | succ j =>
    obtain ⟨u,hu,hr⟩:=e5 j x (by simpa using hx)
    exact ⟨u,by simpa using hu,hr⟩
theorem Zsb (hI:Inv E s Γ a w){fn:Func}{rs:List Zmf}{v:AV}(hc:ZkJ P fn.results.toList=some rs)(h:BC s rs=some v) :
  ∃ cv Γ',(results fn a.tmps).run P w=.ok cv w∧RW E.W0 Γ' w s.hp∧Frame E.Γ0 E.w0 Γ' w s.ef∧Rep Γ' w v cv∧OwnAt Γ' w .res v cv:=by
 have many:∀ vs,Zac s rs=some vs→v=.tup vs→rs.length≠1→∃ cv Γ',(results fn a.tmps).run P w=.ok cv w∧RW E.W0 Γ' w s.hp∧Frame E.Γ0 E.w0 Γ' w s.ef∧Rep Γ' w v cv∧OwnAt Γ' w .res v cv:=by
  intro vs hvs hv hne
  obtain ⟨cvs,e2,e3,e4,e5⟩:=ZpS hI hc hvs
  have hr:=Zhx e2
  have hvl:vs.length=rs.length:=by
   clear hc e2 e3 e4 e5 hr hv hne h
   induction rs generalizing vs with
   | nil=>cases hvs; rfl
   | cons r rs ih =>
    simp only [Zac] at hvs
    split at hvs <;> first | (cases hvs; done) | skip
    rename_i h1 h2
    obtain rfl:=Option.some.inj hvs
    simp [ih _ h2]
  subst hv
  refine ⟨.tuple cvs.toArray,Γ,?_,hI.rw,hI.fr,.tup vs _ (by simpa using e3) (fun j x hx=>?_),.of_ne (by simp)⟩
  ·rw [hr]
   cases cvs with
   | nil=>rfl
   | cons u cvs =>
    cases cvs with
    | nil=>simp at e3; omega
    | cons _ _=>rfl
  ·obtain ⟨u,hu,hr⟩:=e5 j x hx
   rw [Array.getD_eq_getD_getElem?,List.getElem?_toArray,hu]
   exact hr
 cases rs with
 | nil =>
  simp only [BC] at h
  obtain ⟨vs,hvs,e⟩:=Option.map_eq_some_iff.1 h
  exact many vs hvs e.symm (by simp)
 | cons r rs =>
  cases rs with
  | cons r' rs =>
   simp only [BC] at h
   obtain ⟨vs,hvs,e⟩:=Option.map_eq_some_iff.1 h
   exact many vs hvs e.symm (by simp)
  | nil =>
   simp only [BC] at h
   cases hl:fn.results.toList with
   | nil=>rw [hl] at hc; cases hc
   | cons q qs =>
    rw [hl] at hc
    simp only [ZkJ] at hc
    split at hc <;> first | (cases hc; done) | skip
    rename_i ar l h1 h2
    obtain ⟨rfl,rfl⟩:=List.cons.inj (Option.some.inj hc)
    have hqs:qs=[]:=by
     cases qs with
     | nil=>rfl
     | cons _ _ =>
      simp only [ZkJ] at h2
      split at h2 <;> simp at h2
    subst hqs
    obtain ⟨cv,e1,r1,hown⟩:=ZpT hI h1 h
    have hrun:=Zhx (fn := fn) (tmps := a.tmps) (P := P) (w := w) (vs := [cv]) (by
     rw [hl,List.mapM_cons]
     simp only [Sem.run_bind,e1,Result.andThen_ok]
     rfl)
    rcases hown with ⟨t,rfl,ht⟩ | hn
    ·obtain ⟨Γ',i1,r1,o1⟩:=hI.take t ht
     exact ⟨_,Γ',hrun,i1.rw,i1.fr,r1,o1⟩
    ·exact ⟨_,Γ,hrun,hI.rw,hI.fr,r1,.of_ne hn⟩
end
end Go.Proofs.YtlmfmmclnboglaaGreat.Abs
end
section
namespace Go.Proofs.YtlmfmmclnboglaaGreat.Abs
open Go Go.RowKit
def IY (bs:Nat):Kind→Kind
 | .own g=>if g < bs then .own g else .imm
 | .list n (.cell g i)=>if g < bs then .list n (.cell g i) else .imm
 | k=>k
theorem ZcE {bs o:Nat}{k:Kind}(h:Tn o k):Tn o (IY bs k):=by
 cases k with
 | imm=>trivial
 | own g=>exact h.elim
 | list m l =>
  cases l <;> simp only [IY] <;> first | exact h | skip
  split
  ·exact h
  ·trivial
theorem ZcF {bs g:Nat}{k:Kind}(h:IY bs k=.own g):k=.own g∧g < bs:=by
 cases k with
 | imm=>cases h
 | own g' =>
  simp only [IY] at h
  split at h
  ·rename_i hl; cases h; exact ⟨rfl,hl⟩
  ·cases h
 | list m l =>
  cases l <;> simp only [IY] at h <;> first | (cases h; done) | skip
  split at h <;> cases h
theorem Zfy {α β:Type}{f:α→Option β}:∀ {l:List α} {r:List β},l.mapM f=some r→r.length=l.length∧∀ (j:Nat) (y:β),r[j]? = some y→∃ x,l[j]? = some x∧f x=some y
 | [],r,h=>by
  simp only [List.mapM_nil] at h
  obtain rfl:=Option.some.inj h
  exact ⟨rfl,fun j y hy=>by simp at hy⟩
 | x :: l,r,h=>by
  rw [List.mapM_cons] at h
  cases hx:f x with
  | none=>rw [hx] at h; cases h
  | some y =>
   cases hl:l.mapM f with
   | none=>rw [hx,hl] at h; cases h
   | some ys =>
    rw [hx,hl] at h
    obtain rfl:=Option.some.inj h
    obtain ⟨e1,e2⟩:=Zfy hl
    refine ⟨by simp [e1],fun j z hz=>?_⟩
    cases j with
    | zero=>obtain rfl:=Option.some.inj hz; exact ⟨x,rfl,hx⟩
    | succ j =>
     obtain ⟨x',h1,h2⟩:=e2 j z (by simpa using hz)
     exact ⟨x',by simpa using h1,h2⟩
section
variable {W0 w:World}{Γ Γ':WC}{hp:List Zk}{bs:Nat}
theorem Zpz {x:AV}{v:Value}(hf:VF Γ w Γ' w)(h:Rep Γ w x v)(hn:x.noId1=true):Rep Γ' w x.ro v:=(h.noId hf hn).ro
theorem OwnAt.fix {w':World}{l l':Loc}{x:AV}{v:Value}(hf:VF Γ w Γ' w')(hb:∀ b n,Γ b=.list n l→Γ' b=.list n l'∧w'.heap[b]? = w.heap[b]?)(h:OwnAt Γ w l x v):OwnAt Γ' w' l' x v:=by
 intro k rows e
 rcases h k rows e with h | ⟨b,cap,e,cur,hv,hg,hh,h1,h2,h3,h4,h5⟩
 ·exact .inl h
 ·obtain ⟨g1,g2⟩:=hb b _ hg
  exact .inr ⟨b,cap,e,cur,hv,g1,g2.trans hh,h1,h2,h3,h4,fun i j r c a1 a2=>⟨(h5 i j r c a1 a2).1,(h5 i j r c a1 a2).2.noId hf (h5 i j r c a1 a2).1⟩⟩
theorem ZjT (hr:RW W0 Γ w hp):∀ (d:Nat) {v v':AV} {cv:Value},ZrN bs hp d v=some v'→Rep Γ w v cv→Rep (fun b=>IY bs (Γ b)) w v' cv∧(∀ k r,v'≠.own k r)∧(v.one=true→v'.one=true):=by
 have hf:VF Γ w (fun b=>IY bs (Γ b)) w:=fun _ _ _ h1 h2=>⟨ZcE h1,h2⟩
 have hown:∀ b g,Γ b=.own g→g < bs→IY bs (Γ b)=.own g:=fun b g h hg=>by simp [h,IY,hg]
 intro d
 induction d with
 | zero =>
  intro v v' cv h hv
  cases v <;> simp only [ZrN] at h
  case arr g off len k =>
   split at h <;> first | (cases h; done) | skip
   rename_i hg
   obtain rfl:=Option.some.inj h
   cases hv with
   | arr _ _ _ _ cap b hb hc=>exact ⟨.arr _ _ _ _ cap b (hown b g hb hg) hc,by simp,fun h=>h⟩
  case ptr g o =>
   split at h <;> first | (cases h; done) | skip
   rename_i hg
   obtain rfl:=Option.some.inj h
   cases hv with
   | ptr _ _ b hb=>exact ⟨.ptr _ _ b (hown b g hb hg),by simp,fun h=>h⟩
  case map g =>
   split at h <;> first | (cases h; done) | skip
   rename_i hg
   obtain rfl:=Option.some.inj h
   cases hv with
   | map _ b hb=>exact ⟨.map _ b (hown b g hb hg),by simp,fun h=>h⟩
  case agg=>cases h
  case tup=>cases h
  case fn f a cs =>
   split at h <;> first | (cases h; done) | skip
   rename_i hg
   obtain rfl:=Option.some.inj h
   refine ⟨?_,by simp,fun h=>h⟩
   have:=hv.noId hf (by simpa [AV.noId1] using hg)
   obtain ⟨rfl,rfl⟩:a=[]∧cs=[]:=by simpa using hg
   exact this
  case undef=>cases h; cases hv; exact ⟨.undef,by simp [AV.ro],fun h=>h⟩
  all_goals
   obtain rfl:=Option.some.inj h
   exact ⟨Zpz hf hv rfl,fun _ _=>TN,fun h=>by rw [Zl2]; exact h⟩
 | succ d ih =>
  intro v v' cv h hv
  cases v <;> simp only [ZrN] at h
  case arr g off len k =>
   split at h
   ·rename_i hg
    obtain rfl:=Option.some.inj h
    cases hv with
    | arr _ _ _ _ cap b hb hc=>exact ⟨.arr _ _ _ _ cap b (hown b g hb hg) hc,by simp,fun h=>h⟩
   ·rename_i hg
    split at h <;> first | (cases h; done) | skip
    rename_i cs t hobj
    split at h <;> first | (cases h; done) | skip
    rename_i hfit
    obtain ⟨cs',h1,h2⟩:=Option.bind_eq_some_iff.1 h
    split at h2 <;> first | (cases h2; done) | skip
    rename_i hid
    obtain rfl:=Option.some.inj h2
    obtain ⟨m1,m2⟩:=Zfy h1
    cases hv with
    | arr _ _ _ _ cap b hb hc =>
     obtain ⟨b',C,o1,o2,o3,o4⟩:=hr.objs g _ hobj
     obtain rfl:=hr.inj b b' g hb o1
     have hlen:cs'.length=len * k:=by rw [m1]; simp; omega
     have hrow:∀ (i:Nat) (r:List AV),(chunk k len cs')[i]? = some r→i < len∧r.length=k∧∀ (j:Nat) (c:AV),r[j]? = some c→j < k∧cs'[i * k + j]? = some c:=by
      intro i r hi
      have hil:=Ya hi
      rw [Ms] at hil
      have he:=ZfS k len _ i r hi
      have hle:(i + 1) * k≤len * k:=Nat.mul_le_mul_right k hil
      rw [Nat.add_mul,Nat.one_mul] at hle
      refine ⟨hil,by rw [he]; simp; omega,fun j c hj=>?_⟩
      rw [he,List.getElem?_take] at hj
      split at hj
      ·rename_i hjk
       refine ⟨hjk,?_⟩
       rw [List.getElem?_drop] at hj
       exact hj
      ·cases hj
     have hcell:∀ (p:Nat) (c:AV),cs'[p]? = some c→off + p < C.size∧Rep (fun b=>IY bs (Γ b)) w c (C.getD (off + p) Go.undef)∧c.noId1=true:=by
      intro p c hp
      obtain ⟨x,x1,x2⟩:=m2 p c hp
      have hpl:=Ya hp
      rw [List.getElem?_take,if_pos (by omega),List.getElem?_drop] at x1
      obtain ⟨_,q2,_⟩:=o4 _ x x1
      exact ⟨by omega,(ih x2 q2).1,List.all_eq_true.1 hid c (List.mem_of_getElem? hp)⟩
     refine ⟨?_,by simp,fun _=>rfl⟩
     have hl:(chunk k len cs').length=len:=Ms k len cs'
     have key:=Rep.lst (Γ := fun b=>IY bs (Γ b)) (w := w) k (chunk k len cs') b off cap (fun i j=>C.getD (off + (i * k + j)) Go.undef) (by rw [hl]; exact hc) (fun r hr=>?_) (fun i j r c hi hj=>?_) (fun i j r c hi hj=>?_)
     ·rw [hl] at key; exact key
     ·obtain ⟨i,hi⟩:=List.mem_iff_getElem?.1 hr
      exact (hrow i r hi).2.1
     ·obtain ⟨_,_,h3⟩:=hrow i r hi
      obtain ⟨_,h4⟩:=h3 j c hj
      obtain ⟨q1,q2,q3⟩:=hcell _ c h4
      refine ⟨?_,?_,q3⟩
      ·rw [cell_of_row w b _ C t (0,0) o2]
       exact Jc q1
      ·show Tn _ (IY bs (Γ b))
       rw [hb]
       simp only [IY,if_neg hg]
       trivial
     ·obtain ⟨_,_,h3⟩:=hrow i r hi
      obtain ⟨_,h4⟩:=h3 j c hj
      exact (hcell _ c h4).2.1
  case ptr g o =>
   split at h <;> first | (cases h; done) | skip
   rename_i hg
   obtain rfl:=Option.some.inj h
   cases hv with
   | ptr _ _ b hb=>exact ⟨.ptr _ _ b (hown b g hb hg),by simp,fun h=>h⟩
  case map g =>
   split at h <;> first | (cases h; done) | skip
   rename_i hg
   obtain rfl:=Option.some.inj h
   cases hv with
   | map _ b hb=>exact ⟨.map _ b (hown b g hb hg),by simp,fun h=>h⟩
  case agg=>cases h
  case tup=>cases h
  case fn f a cs =>
   split at h <;> first | (cases h; done) | skip
   rename_i hg
   obtain rfl:=Option.some.inj h
   refine ⟨?_,by simp,fun h=>h⟩
   have:=hv.noId hf (by simpa [AV.noId1] using hg)
   obtain ⟨rfl,rfl⟩:a=[]∧cs=[]:=by simpa using hg
   exact this
  case undef=>cases h; cases hv; exact ⟨.undef,by simp [AV.ro],fun h=>h⟩
  all_goals
   obtain rfl:=Option.some.inj h
   exact ⟨Zpz hf hv rfl,fun _ _=>TN,fun h=>by rw [Zl2]; exact h⟩
theorem Zpf (hr:RW W0 Γ w hp){v v':AV}{cv:Value}(h:ZdW bs hp v=some v')(hv:Rep Γ w v cv):Rep (fun b=>IY bs (Γ b)) w v' cv∧∀ k r,v'≠.own k r:=by
 unfold ZdW at h
 split at h
 ·rename_i cs
  obtain ⟨cs',h1,rfl⟩:=Option.map_eq_some_iff.1 h
  obtain ⟨m1,m2⟩:=Zfy h1
  cases hv with
  | agg _ u hs k1 kn kr =>
   refine ⟨.agg cs' u (by rw [hs,m1]) (fun j c hc=>?_) (fun j k r hc=>?_) (fun j c hc=>?_),by simp⟩
   ·obtain ⟨x,x1,x2⟩:=m2 j c hc
    exact (ZjT hr 4 x2 (kr j x x1)).2.2 (k1 j x x1)
   ·obtain ⟨x,x1,x2⟩:=m2 j _ hc
    exact absurd rfl ((ZjT hr 4 x2 (kr j x x1)).2.1 k r)
   ·obtain ⟨x,x1,x2⟩:=m2 j c hc
    exact (ZjT hr 4 x2 (kr j x x1)).1
 ·obtain ⟨h1,h2,_⟩:=ZjT hr 4 h hv
  exact ⟨h1,h2⟩
theorem ZtI (hr:RW W0 Γ w hp){v v':AV}{cv:Value}(h:frz bs hp v=some v')(hv:Rep Γ w v cv)(ho:OwnAt Γ w .res v cv):Rep (fun b=>IY bs (Γ b)) w v' cv∧OwnAt (fun b=>IY bs (Γ b)) w .res v' cv:=by
 have hf:VF Γ w (fun b=>IY bs (Γ b)) w:=fun _ _ _ h1 h2=>⟨ZcE h1,h2⟩
 unfold frz at h
 split at h
 ·rename_i vs
  obtain ⟨vs',h1,rfl⟩:=Option.map_eq_some_iff.1 h
  obtain ⟨m1,m2⟩:=Zfy h1
  cases hv with
  | tup _ u hs kr =>
   refine ⟨.tup vs' u (by rw [hs,m1]) fun j c hc=>?_,.of_ne (by simp)⟩
   obtain ⟨x,x1,x2⟩:=m2 j c hc
   exact (Zpf hr x2 (kr j x x1)).1
 ·obtain rfl:=Option.some.inj h
  exact ⟨hv.noId hf rfl,ho.fix hf fun b n hb=>⟨by simp [hb,IY],rfl⟩⟩
 ·obtain ⟨h1,h2⟩:=Zpf hr h hv
  exact ⟨h1,.of_ne h2⟩
theorem Zh9 {x:AV}{cv:Value}(hx:x.under1 bs=true)(hv:Rep Γ w x cv):Rep (fun b=>IY bs (Γ b)) w x cv:=by
 have hf:VF Γ w (fun b=>IY bs (Γ b)) w:=fun _ _ _ h1 h2=>⟨ZcE h1,h2⟩
 have hown:∀ b g,Γ b=.own g→g < bs→IY bs (Γ b)=.own g:=fun b g h hg=>by simp [h,IY,hg]
 unfold AV.under1 at hx
 split at hx
 ·cases hv with
  | arr _ _ _ _ cap b hb hc=>exact .arr _ _ _ _ cap b (hown b _ hb (by simpa using hx)) hc
 ·cases hv with
  | ptr _ _ b hb=>exact .ptr _ _ b (hown b _ hb (by simpa using hx))
 ·cases hv with
  | map _ b hb=>exact .map _ b (hown b _ hb (by simpa using hx))
 ·exact hv.noId hf hx
theorem ZrE {x:AV}{cv:Value}(hx:x.under bs=true)(hv:Rep Γ w x cv):Rep (fun b=>IY bs (Γ b)) w x cv:=by
 unfold AV.under at hx
 split at hx
 ·simp only [Bool.and_eq_true,List.all_eq_true] at hx
  cases hv with
  | fn f a cs u v hs1 hr1 hs hr=>exact .fn _ _ _ u v hs1 (fun j c hc=>Zh9 (hx.1 c (List.mem_of_getElem? hc)) (hr1 j c hc)) hs (fun j c hc=>Zh9 (hx.2 c (List.mem_of_getElem? hc)) (hr j c hc))
 ·exact Zh9 hx hv
theorem ZgA {s:Zv}{Γ0:WC}{w0:World}{hp0:List Zk}{v:AV}{cv:Value}{v':AV}{hp':List Zk}{e':Eff}(h0:RW W0 Γ0 w0 hp0)(hbs:s.bs=hp0.length)(hle:s.bs≤s.hp.length)(base:∀ b n g i,Γ0 b=.list n (.cell g i)→g < s.bs)
  (hr:RW W0 Γ w s.hp) (hfr:Frame Γ0 w0 Γ w s.ef) (hv:Rep Γ w v cv) (ho:OwnAt Γ w .res v cv) {keep:Bool} (h:(if keep then (v.nm,s.hp,s.ef) else finish v s hp0)=(v',hp',e')) :
  ∃ Γ',RW W0 Γ' w hp'∧Rep Γ' w v' cv∧OwnAt Γ' w .res v' cv∧Frame Γ0 w0 Γ' w e'∧hp0.length≤hp'.length:=by
 have hf:VF Γ w (fun b=>IY s.bs (Γ b)) w:=fun _ _ _ h1 h2=>⟨ZcE h1,h2⟩
 have asis:(v.nm,s.hp,s.ef)=(v',hp',e')→∃ Γ',RW W0 Γ' w hp'∧Rep Γ' w v' cv∧OwnAt Γ' w .res v' cv∧Frame Γ0 w0 Γ' w e'∧hp0.length≤hp'.length:=by
  intro e
  cases e
  exact ⟨Γ,hr,hv.nm,.of_ne fun _ _=>SC,hfr,by omega⟩
 have base1:∀ b g,Γ0 b=.own g→g < s.bs:=fun b g hb=>by rw [hbs]; exact h0.lt b g hb
 have same0:∀ b,b < w0.heap.size→Kept s.ef (Γ0 b)→IY s.bs (Γ b)=Γ0 b∧w.heap[b]? = w0.heap[b]?:=fun b hb hk=>by
  obtain ⟨e1,e2⟩:=hfr.keep b hb hk
  refine ⟨?_,e2⟩
  rw [e1]
  cases hg:Γ0 b with
  | imm=>rfl
  | own g=>simp [IY,base1 b g hg]
  | list n l =>
   cases l with
   | cell g i=>simp [IY,base b n g i hg]
   | _=>rfl
 have fr:Frame Γ0 w0 (fun b=>IY s.bs (Γ b)) w s.ef :=
  ⟨hfr.os,hfr.tape,hfr.output,hfr.size,hfr.fix.trans hf,fun b g hb=>by simp [hfr.own b g hb,IY,base1 b g hb],same0⟩
 have inj':∀ b b' g,IY s.bs (Γ b)=.own g→IY s.bs (Γ b')=.own g→b=b':=fun b b' g h1 h2=>hr.inj b b' g (ZcF h1).1 (ZcF h2).1
 have imm':∀ b,Γ b=.imm→IY s.bs (Γ b)=.imm:=fun b hb=>by rw [hb]; rfl
 split at h
 ·exact asis h
 unfold finish at h
 split at h
 case h_2=>exact asis h
 rename_i u hu
 obtain ⟨r1,r2⟩:=ZtI hr hu hv ho
 split at h
 ·rename_i he
  cases h
  rw [he] at fr
  refine ⟨_,⟨fun g o hg=>?_,inj',fun b hb=>imm' b (hr.fresh b hb),fun b g hb=>by rw [← hbs]; exact (ZcF hb).2,hr.old,fun b hb=>imm' b (hr.oldImm b hb)⟩,r1,r2,fr,Nat.le_refl _⟩
  refine (h0.objs g o hg).step (X := fun b=>¬ Kept none (Γ0 b)) ⟨fr.os,fr.tape,fr.output,fr.size,fun b hb hx=>fr.keep b hb (Classical.not_not.1 hx),fr.fix,fr.own⟩ h0.fresh (fun b hx e=>hx ?_) (fun b n i hx e=>hx ?_)
  ·rw [e]; exact fun _ _ e=>by cases e
  ·rw [e]; exact fun _ _ e=>by cases e
 ·rename_i e he
  split at h
  ·rename_i hall
   cases h
   rw [he] at fr
   have hlen:(s.hp.take s.bs).length=s.bs:=by simp; omega
   refine ⟨_,⟨fun g o hg=>?_,inj',fun b hb=>imm' b (hr.fresh b hb),fun b g hb=>by rw [hlen]; exact (ZcF hb).2,hr.old,fun b hb=>imm' b (hr.oldImm b hb)⟩,r1,r2,fr,by omega⟩
   have hgl:=Ya hg
   rw [hlen] at hgl
   have hund:=List.all_eq_true.1 hall o (List.mem_of_getElem? hg)
   rw [List.getElem?_take,if_pos hgl] at hg
   have:=hr.objs g o hg
   cases o with
   | dead=>trivial
   | cells cs t =>
    obtain ⟨b,C,h1,h2,h3,h4⟩:=this
    refine ⟨b,C,by simp [h1,IY,hgl],h2,h3,fun i c hc=>?_⟩
    obtain ⟨a1,a2,a3⟩:=h4 i c hc
    exact ⟨a1,ZrE (List.all_eq_true.1 hund c (List.mem_of_getElem? hc)) a2,a3.fix hf fun b n hb=>⟨by simp [hb,IY,hgl],rfl⟩⟩
   | map es =>
    obtain ⟨b,ms,clk,h1,h2,h3,h4⟩:=this
    exact ⟨b,ms,clk,by simp [h1,IY,hgl],h2,h3,h4⟩
   | iter l pos =>
    obtain ⟨b,h1,h2⟩:=this
    exact ⟨b,by simp [h1,IY,hgl],h2⟩
  ·exact asis h
end
end Go.Proofs.YtlmfmmclnboglaaGreat.Abs
end
section
namespace Go.Proofs.YtlmfmmclnboglaaGreat.Abs
open Go Go.RowKit
section
variable {G:Nat→Option (List AV)}{call:FuncId→List AV→List Zk→Option (AV×List Zk×Eff)}
theorem Zpb {s s':Zv}{ao:AOp}{v:AV}(h:Zo G call s ao=some (v,s')):s'.bs=s.bs:=by
 cases ao <;> simp only [Zo] at h <;> (repeat' split at h) <;> first
  | (cases h; done)
  | (obtain ⟨_,rfl⟩:=Jl h; rfl)
  | (cases h; rfl)
  | (obtain ⟨x,_,e⟩:=Option.map_eq_some_iff.1 h; cases e; rfl)
theorem ZrY (s:Zv)(d:Option Nat)(v:AV):(s.put d v).bs=s.bs:=by cases d <;> rfl
theorem Sw:∀ {l:List J9} {s s':Zv},XH G call l s=some s'→s'.bs=s.bs
 | [],s,s',h=>by cases h; rfl
 | o :: l,s,s',h=>by
  simp only [XH] at h
  split at h <;> first | (cases h; done) | skip
  rename_i s1 h1
  rw [Sw h]
  simp only [QF] at h1
  split at h1 <;> first | (cases h1; done) | skip
  ·split at h1 <;> first | (cases h1; done) | skip
   rename_i v s2 h2
   obtain rfl:=Option.some.inj h1
   rw [ZrY,Zpb h2]
  ·obtain rfl:=Option.some.inj h1
   rw [ZrY]
theorem Zmw {f:Zv→Option (AQ×Zv)}(hf:∀ {s:Zv} {r:AQ×Zv},f s=some r→r.2.bs=s.bs):∀ (n:Nat) {s:Zv} {r:AQ×Zv},iter f n s=some r→r.2.bs=s.bs
 | 0,_,_,h=>by cases h
 | n + 1,s,r,h=>by
  simp only [iter] at h
  split at h
  ·rename_i s1 h1
   rw [Zmw hf n h]
   exact hf h1
  ·exact hf h
theorem Zmt (L:Nat):∀ {c:Zn} {s:Zv} {r:AQ×Zv},Q3 G call L c s=some r→r.2.bs=s.bs:=by
 intro c
 induction c with
 | skip=>intro s r h; cases h; rfl
 | region draw ops =>
  intro s r h
  cases draw with
  | false =>
   simp only [Q3] at h
   obtain ⟨s1,h1,rfl⟩:=Option.map_eq_some_iff.1 h
   exact Sw h1
  | true =>
   simp only [Q3] at h
   obtain ⟨s1,h1,rfl⟩:=Option.map_eq_some_iff.1 h
   exact Sw h1
 | seq x y ihx ihy =>
  intro s r h
  simp only [Q3] at h
  split at h
  ·rename_i s1 h1
   rw [ihy h]; exact ihx h1
  ·exact ihx h
 | cond c x y ihx ihy =>
  intro s r h
  simp only [Q3] at h
  split at h <;> first | (cases h; done) | skip
  ·exact ihx h
  ·exact ihy h
 | block id c ih =>
  intro s r h
  simp only [Q3] at h
  split at h
  ·rename_i i s1 h1
   have:=ih h1
   split at h <;> (obtain rfl:=Option.some.inj h; exact this)
  ·exact ih h
 | loop c ih =>
  intro s r h
  simp only [Q3] at h
  exact Zmw ih L h
 | scope c ih=>intro s r h; simp only [Q3] at h; exact ih h
 | exit id=>intro s r h; cases h; rfl
 | ret=>intro s r h; cases h; rfl
 | bad=>intro s r h; cases h
end
structure ZnL (P:Program)(W0:World)(C:Cfg):Prop where
 mixed:P.follows .mixedOrders=true
 globals:GOk C.G W0
 table:∀ f af,C.T f=some af→∃ fn takes,P.funcs[f]? = some fn∧(fn.name == "runtime.NumGoroutine")=false∧cFn P takes fn=some af
 oracle:Uc P W0 C.O
theorem ZcO {P:Program}{f:FuncId}{fn:Func}{c:Code}(hf:P.funcs[f]? = some fn)(hn:(fn.name == "runtime.NumGoroutine")=false)(hb:fn.body=some c)(xs:Array Value)(w:World):(callFunc f xs).run P w=.ok (.enter f xs) w:=by
 have hn':¬ fn.name = "runtime.NumGoroutine" := by simpa using hn
 simp [callFunc,program,hf,hn',hb,Sem.run]
theorem Zg4 {P:Program}{W0:World}{C:Cfg}(h:ZnL P W0 C):∀ n,Uc P W0 (Za C n):=by
 intro n
 induction n with
 | zero=>intro f args hp v hp' e hc; cases hc
 | succ n ih =>
  intro f args hp v hp' e hc Γ w xs hr ht hs hx
  simp only [Za] at hc
  split at hc
  case h_2=>exact h.oracle f args hp v hp' e hc Γ w xs hr ht hs hx
  rename_i af haf
  obtain ⟨fn,takes,hf,hname,hcf⟩:=h.table f af haf
  unfold cFn at hcf
  split at hcf <;> first | (cases hcf; done) | skip
  rename_i c rs hb hrs
  obtain ⟨ac,hac,rfl⟩:=Option.map_eq_some_iff.1 hcf
  split at hc
  ·cases hc
  ·rename_i x s hne hev
   split at hc <;> first | (cases hc; done) | skip
   rename_i u hu
   have hfin:=Option.some.inj hc
   refine ⟨ZcO hf hname hb xs w,?_⟩
   have hbs:s.bs=hp.length:=Zmt C.L hev
   have hI:Inv ⟨W0,Γ,w⟩ ⟨args ++ List.replicate (fn.ntmps - args.length) .undef,hp,none,hp.length⟩ Γ { tmps := xs ++ Array.replicate (fn.ntmps - xs.size) Go.undef,defers := [] } w:=by
    have get:∀ (t:Nat) (y:AV),(args ++ List.replicate (fn.ntmps - args.length) AV.undef)[t]? = some y→(args[t]? = some y∧(xs ++ Array.replicate (fn.ntmps - xs.size) Go.undef).getD t Go.undef=xs.getD t Go.undef)∨(y=.undef∧(xs ++ Array.replicate (fn.ntmps - xs.size) Go.undef).getD t Go.undef=Go.undef):=by
     intro t y hy
     rw [List.getElem?_append] at hy
     split at hy
     ·rename_i hlt
      refine .inl ⟨hy,?_⟩
      rw [Array.getD_eq_getD_getElem?,Array.getD_eq_getD_getElem?,Array.getElem?_append_left (by omega)]
     ·rename_i hge
      have hm:=List.mem_of_getElem? hy
      have:=List.eq_of_mem_replicate hm
      refine .inr ⟨this,?_⟩
      have hlt:=Ya hy
      simp only [List.length_replicate] at hlt
      rw [Array.getD_eq_getD_getElem?,Array.getElem?_append_right (by omega),Array.getElem?_replicate,if_pos (by omega)]
      rfl
    refine ⟨rfl,⟨by simp [hs],fun t y hy=>?_,fun t y hy=>?_⟩,hr,.refl _ _ _,fun b g hb=>hr.lt b g hb,fun b m g i hb=>ht.cell b m g i hb,Nat.le_refl _⟩
    ·rcases get t y hy with ⟨h1,h2⟩ | ⟨rfl,h2⟩
     ·rw [h2]; exact (hx t y h1).1
     ·rw [h2]; exact .undef
    ·rcases get t y hy with ⟨h1,h2⟩ | ⟨rfl,h2⟩
     ·rw [h2]; exact (hx t y h1).2
     ·exact .of_ne (by simp)
   have hw:=Zsr h.mixed h.globals ih C.L hac hev hI
   refine calls_of_wp hf hb (Go.wp_mono hw fun en a' w' he=>?_)
   obtain ⟨k1,Γ',i1⟩:=he
   have fin:a'.defers=[]∧∃ cv,(results fn a'.tmps).run P w'=.ok cv w'∧∃ v',Ending.returned cv=.returned v'∧∃ Γ',RW W0 Γ' w' hp'∧Rep Γ' w' v v'∧OwnAt Γ' w' .res v v'∧Frame Γ w Γ' w' e∧hp.length≤hp'.length:=by
    obtain ⟨cv,Γ2,q1,q2,q3,q4,q5⟩:=Zsb i1 hrs hu
    obtain ⟨Γ3,p1,p2,p3,p4,p5⟩:=ZgA hr hbs (by rw [hbs]; have:=i1.le; simpa [hbs] using this) (fun b m g i hb=>by rw [hbs]; exact ht.cell b m g i hb) q2 q3 q4 q5 hfin
    exact ⟨i1.defers,cv,q1,cv,rfl,Γ3,p1,p2,p3,p4,p5⟩
   cases x with
   | exit i=>exact (hne i rfl).elim
   | normal=>cases en <;> first | exact k1.elim | exact fin
   | ret=>cases en <;> first | exact k1.elim | exact fin
  ·cases hc
end Go.Proofs.YtlmfmmclnboglaaGreat.Abs
end
section
namespace Go.Proofs.YtlmfmmclnboglaaGreat.Abs
open Go Go.RowKit
def still:WC:=fun _=>.imm
theorem ZnG (W:World):RW W still W [] :=
 ⟨fun g o hg=>by simp at hg,fun b b' g h=>(by cases h),fun _ _=>rfl,fun b g h=>(by cases h),⟨rfl,rfl,rfl,Nat.le_refl _,fun _ _=>rfl⟩,fun _ _=>rfl⟩
theorem Zjx:Tidy still 0:=⟨fun _ _ h=>(by cases h),fun _ _ _ h=>(by cases h),fun _ _ _ _ h=>(by cases h)⟩
theorem ZtN {P:Program}{W:World}{C:Cfg}(h:ZnL P W C){n:Nat}{f:FuncId}{avs:List AV}{hp:List Zk}{e:Eff}(hev:Za C n f avs []=some (.bool true,hp,e)){args:Array Value}
  (hs:args.size=avs.length) (hr:∀ (j:Nat) (x:AV),avs[j]? = some x→Rep still W x (args.getD j Go.undef)∧∀ k r,x≠.own k r) :
  Calls P f args W fun e W'=>e=.returned (.bool true)∧Below W.heap.size W W':=by
 obtain ⟨_,hw⟩:=Zg4 h n f avs [] _ _ _ hev still W args (ZnG W) Zjx hs fun j x hx=>⟨(hr j x hx).1,.of_ne (hr j x hx).2⟩
 refine hw.mono fun en W' ⟨cv,hv,Γ',r1,r2,_,r4,_⟩=>?_
 subst hv
 cases r2
 exact ⟨rfl,r4.os,r4.tape,r4.output,r4.size,fun b hb=>(r4.keep b hb trivial).2⟩
end Go.Proofs.YtlmfmmclnboglaaGreat.Abs
end
section
namespace Go.Proofs.YtlmfmmclnboglaaGreat.Abs
open Go Go.RowKit
def Znd (P:Program)(W0:World)(f:FuncId)(args:List AV)(v:AV):Prop :=
 (∀ k r,v≠.own k r)∧∀ (Γ:WC) (w:World) (xs:Array Value),Below W0.heap.size W0 w→(∀ b,w.heap.size≤b→Γ b=.imm)→xs.size=args.length→(∀ (j:Nat) (x:AV),args[j]? = some x→Rep Γ w x (xs.getD j Go.undef)) →
  Zsg P f xs w fun cv w'=>Below w.heap.size w w'∧Rep Γ w' v cv
theorem Zh3 {P:Program}{W0:World}{O:FuncId→List AV→Option AV}(h:∀ f args v,O f args=some v→Znd P W0 f args v) :
  Uc P W0 fun f args hp=>(O f args).map fun v=>(v,hp,none):=by
 intro f args hp v hp' e ho Γ w xs hr _ hs hx
 obtain ⟨u,hu,e1⟩:=Option.map_eq_some_iff.1 ho
 cases e1
 obtain ⟨hown,hrun⟩:=h f args v hu
 refine (hrun Γ w xs hr.old hr.fresh hs fun j x hj=>(hx j x hj).1).mono fun cv w' ⟨hb,hv⟩=>?_
 have st:Step Γ w Γ w' fun _=>False:=⟨hb.os,hb.tape,hb.output,hb.size,fun b hbl _=>⟨rfl,hb.block b hbl⟩,fun b o v h1 h2=>⟨h1,(NT (hb.block b (lt_of_cell h2))).trans h2⟩,.refl _⟩
 obtain ⟨o1,o2⟩:=Zal hr.old hr.oldImm st fun _ hx=>hx.elim
 refine ⟨Γ,⟨fun g o hg=>(hr.objs g o hg).step st hr.fresh (fun _ hx=>hx.elim) (fun _ _ _ hx=>hx.elim),hr.inj,fun b hbl=>hr.fresh b (Nat.le_trans hb.size hbl),hr.lt,o1,o2⟩,hv,.of_ne hown,⟨hb.os,hb.tape,hb.output,hb.size,st.fix,.refl _,fun b hbl _=>⟨rfl,hb.block b hbl⟩⟩,Nat.le_refl _⟩
theorem Zk6 {P:Program}{f:FuncId}{fn:Func}{c:Code}{xs:Array Value}{w:World}{R:Value→World→Prop}(hf:P.funcs[f]? = some fn)(hn:(fn.name == "runtime.NumGoroutine")=false)(hb:fn.body=some c)
  (h:Calls P f xs w fun e w'=>∃ v,e=.returned v∧R v w'):Zsg P f xs w R:=⟨ZcO hf hn hb xs w,h⟩
end Go.Proofs.YtlmfmmclnboglaaGreat.Abs
end
section
namespace Go.Proofs.YtlmfmmclnboglaaGreat.Abs
open Go
inductive KV where
 | raw (v:AV)
 | cln (v:AV)
def KV.val:KV→AV
 | .raw v=>v
 | .cln v=>v
def KV.rd:KV→AV
 | .raw v=>v.ro
 | .cln v=>v
abbrev Za3 {α:Type}(b:Bool)(x y:α):α :=
 match b with
 | true=>x
 | false=>y
abbrev Env:=Nat→KV
def Env.set (e:Env)(t:Nat)(v:KV):Env:=fun u=>Za3 (Nat.beq u t) v (e u)
def Env.put (e:Env)(d:Option Nat)(v:KV):Env :=
 match d with
 | some d=>e.set d v
 | none=>e
abbrev KR:=Option (AV×List Zk×Eff)
abbrev Kj:=Env→List Zk→Eff→KR
abbrev rdK {α:Type}(x:Option α)(k:α→KR):KR :=
 match x with
 | some v=>k v
 | none=>none
def Zc {α:Type}(x:Option α)(k:α→KR):KR :=
 match x with
 | some v=>k v
 | none=>none
def GQ {α β:Type}(x:Option (α×β))(k:α→β→KR):KR :=
 match x with
 | some (a,b)=>k a b
 | none=>none
def Qg {α β γ:Type}(x:Option (α×β×γ))(k:α→β→γ→KR):KR :=
 match x with
 | some (a,b,c)=>k a b c
 | none=>none
def ifK (v:AV)(a b:KR):KR :=
 match v with
 | .bool true=>a
 | .bool false=>b
 | _=>none
def ZaK (want:Bool):AV→Option Bool
 | .bool b=>some (b == want)
 | .undef=>some false
 | _=>none
def ZaL (g:Option Bool)(x:KR)(hp:List Zk)(ef:Eff)(k:AV→List Zk→Eff→KR):KR :=
 match g with
 | some true=>Qg x k
 | some false=>k .undef hp ef
 | none=>none
def ZrP (g:Option Bool)(a b:KR):KR :=
 match g with
 | some true=>a
 | some false=>b
 | none=>none
def Uq (c:AV)(want:Bool)(x:KR)(other:Option AV)(hp:List Zk)(ef:Eff)(k:AV→List Zk→Eff→KR):KR :=
 match c with
 | .bool b=>match b == want with
  | true=>Qg x k
  | false=>Zc other fun v=>k v hp ef
 | _=>none
def JE {α:Type}(x:α)(k:α→KR):KR:=k x
def SE (bs:Nat)(ef:Eff)(g v:Nat):Eff:=if g < bs then Eff.or ef (some (g,v)) else ef
def Ze (bs:Nat)(ef:Eff):Eff→Eff
 | some (a,b)=>if a < bs then Eff.or ef (some (a,b)) else ef
 | none=>ef
def ZiC (c a b:AV):Option AV :=
 match c with
 | .bool true=>some a
 | .bool false=>some b
 | _=>none
def GA (n:Nat)(v:AV):Option (List AV):=if v.cells.length=n∧v.laid=true then some v.cells else none
def Zeb (e:TypeId)(k:Nat)(vs:List AV)(hp:List Zk):Option (AV×List Zk) :=
 if vs.all (fun v=>v.cells.length == k && v.cells.all AV.noId1) then some (.own k (vs.map fun v=>v.cells.map AV.ro),hp)
 else if vs.all (fun v=>v.cells.length == k && v.laid) then some (.arr hp.length 0 vs.length k,hp ++ [.cells (vs.map AV.cells).flatten e]) else none
def ZtO (e:TypeId)(k:Nat)(vs:List AV)(hp:List Zk):Option (AV×List Zk) :=
 if vs.all (fun v=>v.cells.length == k && v.laid) then some (.arr hp.length 0 vs.length k,hp ++ [.cells (vs.map AV.cells).flatten e]) else none
def ZqH (bs:Nat)(p:AV)(hp:List Zk)(ef:Eff):Option (AV×List Zk×Eff) :=
 match p with
 | .ptr g o=>match hp[g]? with
  | some (.cells cs t)=>match cs[o]? with
   | some v=>some (v,hp.set g (.cells (cs.set o v.ro) t),SE bs ef g 0)
   | none=>none
  | _=>none
 | _=>none
def stV (bs n:Nat)(p v:AV)(hp:List Zk)(ef:Eff):Option (List Zk×Eff) :=
 match p with
 | .ptr g o=>match hp[g]? with
  | some (.cells cs t)=>if v.cells.length=n∧o + n≤cs.length∧v.laid=true then some (hp.set g (.cells (splice cs o v.cells) t),SE bs ef g 0) else none
  | _=>none
 | _=>none
def Zfu (bs:Nat)(p v:AV)(hp:List Zk)(ef:Eff):Option (List Zk×Eff) :=
 match p with
 | .ptr g o=>match hp[g]? with
  | some (.cells cs t)=>if v.one=true∧o < cs.length then some (hp.set g (.cells (cs.set o v) t),SE bs ef g 0) else none
  | _=>none
 | _=>none
def ZjZ:AV→Option AV
 | .ref c=>some (.ref c)
 | .ptr g o=>some (.ptr g o)
 | .fn f a c=>some (.fn f a c)
 | _=>none
def ZqL (e:TypeId)(zero:List AV)(n:AV)(hp:List Zk):Option (AV×List Zk) :=
 match n with
 | .int _ n=>if 0≤n∧n≤4294967296 then some (.arr hp.length 0 n.toNat zero.length,hp ++ [.cells (List.flatten (List.replicate n.toNat zero)) e]) else none
 | _=>none
def Zly (bs:Nat)(sh:KSh)(m k v:AV)(hp:List Zk)(ef:Eff):Option (List Zk×Eff) :=
 match m with
 | .map g=>match hp[g]? with
  | some (.map es)=>if DT sh k && v.flat1 then match update sh k v es with
    | some es'=>some (hp.set g (.map es'),SE bs ef g 0)
    | none=>none
   else none
  | _=>none
 | _=>none
def Zsa (x:AV)(hp:List Zk):Option (AV×List Zk) :=
 match x with
 | .str b=>some (.ptr hp.length 0,hp ++ [.iter b 0])
 | _=>none
def ZtR (bs:Nat)(x:AV)(hp:List Zk)(ef:Eff):Option (AV×List Zk×Eff) :=
 match x with
 | .ptr g 0=>match hp[g]? with
  | some (.iter b pos)=>if pos < b.length then
    some (.tup [.bool true,.int .i64 pos,.int .i32 (Utf8.decode ⟨b.toArray⟩ pos).1],hp.set g (.iter b (pos + (Utf8.decode ⟨b.toArray⟩ pos).2)),SE bs ef g 0)
   else some (.tup [.bool false],hp,ef)
  | _=>none
 | _=>none
def Jk (x:AV)(i:Nat):Option AV :=
 match x with
 | .tup vs=>(vs[i]?).map AV.ro
 | _=>none
def Zo6 (k bytes:Nat)(s x:AV)(hp:List Zk):Option AV :=
 match s with
 | .own k' r=>match rowsOf hp x with
  | some (k'',r')=>if k=k'∧k=k''∧r'.all (·.all AV.noId1)∧(r.length + r'.length) * bytes≤140737488355328 then some (.own k (r ++ r')) else none
  | none=>none
 | _=>none
def ZtD (k bytes:Nat)(x:AV)(hp:List Zk):Option AV :=
 match rowsOf hp x with
 | some (k'',r')=>if k=k''∧r'.all (·.all AV.noId1)∧r'.length * bytes≤140737488355328 then some (.own k r') else none
 | none=>none
def copyV (bs k:Nat)(d x:AV)(hp:List Zk)(ef:Eff):Option (AV×List Zk×Eff) :=
 match d with
 | .arr g off len k''=>match rowsOf hp x,hp[g]? with
  | some (k',r),some (.cells cs t)=>if k=k'∧k=k''∧off + Nat.min r.length len * k≤cs.length∧((r.take (Nat.min r.length len)).flatten.map AV.ro).all AV.one=true then
    some (.int .i64 (Nat.min r.length len:Nat),hp.set g (.cells (splice cs off ((r.take (Nat.min r.length len)).flatten.map AV.ro)) t),SE bs ef g 0) else none
  | _,_=>none
 | .lst _ []=>match rowsOf hp x with
  | some (k',_)=>if k=k' then some (.int .i64 0,hp,ef) else none
  | none=>none
 | _=>none
def ZtQ:List AV→Option AV
 | .int .i64 n :: l=>(Zt5 n l).map fun n=>.int .i64 n
 | _=>none
def ZrS:List AV→Option AV
 | .int .i64 n :: l=>(Zt4 n l).map fun n=>.int .i64 n
 | _=>none
def Vh (K:FuncId→List AV→List Zk→KR)(f:AV)(vs:List AV)(hp:List Zk):KR :=
 match f with
 | .fn f first caps=>K f (first.map AV.nm ++ vs ++ caps.map AV.nm) hp
 | _=>none
def LZ:List Nat→Nat→Bool
 | [],_=>true
 | u :: l,t=>Za3 (Nat.beq u t) false (LZ l t)
def rm (d:Nat):List Nat→List Nat
 | []=>[]
 | u :: l=>Za3 (Nat.beq u d) (rm d l) (u :: rm d l)
def rmO (d:Option Nat)(P:List Nat):List Nat :=
 match d with
 | some d=>rm d P
 | none=>P
def OC:AOp→Bool
 | .take _ | .stt .. | .app .. => true
 | .call _ args=>args.any fun
  | .inl _=>true
  | .inr _=>false
 | _=>false
def Hq (N t:Nat)(want:Bool)(P:List Nat):List Nat→List J9→Nat
 | _,[]=>0
 | ds,o :: l=>match o.guard,o.dst with
  | some (u,w),some d =>
   Za3 (((Nat.beq u t && (w == want)) || !LZ ds u) && !Nat.beq d t && !LZ P d && !OC o.op && Nat.blt d N) (Hq N t want P (d :: ds) l + 1) 0
  | _,_=>0
def inA (t:Nat)(w:Bool):List (Nat×Bool)→Bool
 | []=>false
 | (u,v) :: l=>Za3 (Nat.beq u t && (v == w)) true (inA t w l)
section
variable (G:Nat→Option (List AV))(N bs:Nat)(P:List Nat)
def Kn (e:Env):V8→Option AV
 | .tmp t=>Za3 ((Nat.blt t N && LZ P t)) (some (e t).rd) (none)
 | .const v=>some v
 | .glob g=>(G g).map .ref
def ZaN (e:Env):List V8→Option (List AV)
 | []=>some []
 | x :: l=>match Kn G N P e x with
  | some v=>match ZaN e l with
   | some vs=>some (v :: vs)
   | none=>none
  | none=>none
def Zfz (e:Env):Option V8→Option (Option AV)
 | none=>some none
 | some x=>match Kn G N P e x with
  | some v=>some (some v)
  | none=>none
def mvK (e:Env)(x:V8)(k:KV→KR):KR :=
 match x with
 | .tmp t=>Za3 ((Nat.blt t N && LZ P t)) (k (.cln (e t).rd)) none
 | .const v=>k (.raw v)
 | .glob g=>Zc (G g) fun c=>k (.cln (.ref c))
def Zj2:Env→List (Nat ⊕ V8)→Option (List AV×Env)
 | e,[]=>some ([],e)
 | e,.inl t :: l=>Za3 ((Nat.blt t N && LZ P t)) (match Zj2 (e.set t (.cln (e t).rd)) l with
  | some (vs,e')=>some ((e t).val :: vs,e')
  | none=>none) none
 | e,.inr x :: l=>match Kn G N P e x with
  | some v=>match Zj2 e l with
   | some (vs,e')=>some (v :: vs,e')
   | none=>none
  | none=>none
variable (K:FuncId→List AV→List Zk→KR)
def opK (e:Env)(hp:List Zk)(ef:Eff)(op:AOp)(k:KV→Env→List Zk→Eff→KR):KR :=
 match op with
 | .bad=>none
 | .mv x=>mvK G N P e x fun v=>k v e hp ef
 | .take t=>Za3 ((Nat.blt t N && LZ P t)) (k (e t) (e.set t (.cln (e t).rd)) hp ef) none
 | .pick c a b=>rdK (Kn G N P e c) fun c=>rdK (Kn G N P e a) fun a=>rdK (Kn G N P e b) fun b=>Zc (ZiC c a b) fun v=>k (.raw v) e hp ef
 | .mk t cells=>k (.cln (.ptr hp.length 0)) e (hp ++ [.cells cells t]) ef
 | .box t n x=>rdK (Kn G N P e x) fun v=>Zc (GA n v) fun cs=>k (.cln (.ptr hp.length 0)) e (hp ++ [.cells cs t]) ef
 | .build zero parts=>rdK (ZaN G N P e (parts.map (·.2.2))) fun vs=>Zc (fill zero ((parts.zip vs).map fun (p,v)=>(p.1,p.2.1,v.nm))) fun cs=>k (.cln (.agg cs)) e hp ef
 | .lit t n parts=>rdK (ZaN G N P e parts) fun vs=>GQ (Zeb t n vs hp) fun v hp'=>k (.raw v) e hp' ef
 | .lita t n parts=>rdK (ZaN G N P e parts) fun vs=>GQ (ZtO t n vs hp) fun v hp'=>k (.raw v) e hp' ef
 | .ldc p=>rdK (Kn G N P e p) fun p=>Zc (Zf hp p) fun v=>k (.cln v) e hp ef
 | .lda n p=>rdK (Kn G N P e p) fun p=>Zc (Z8 hp n p) fun v=>k (.cln v) e hp ef
 | .ldt p=>rdK (Kn G N P e p) fun p=>Qg (ZqH bs p hp ef) fun v hp' ef'=>k (.raw v) e hp' ef'
 | .st n p x=>rdK (Kn G N P e p) fun p=>rdK (Kn G N P e x) fun v=>GQ (stV bs n p v hp ef) fun hp' ef'=>k (.cln .undef) e hp' ef'
 | .stt p t=>rdK (Kn G N P e p) fun p=>Za3 ((Nat.blt t N && LZ P t)) (GQ (Zfu bs p (e t).val hp ef) (fun hp' ef'=>k (.cln .undef) (e.set t (.cln (e t).rd)) hp' ef')) none
 | .nilchk x=>rdK (Kn G N P e x) fun x=>Zc (ZjZ x) fun v=>k (.cln v) e hp ef
 | .bin op sh x y=>rdK (Kn G N P e x) fun a=>rdK (Kn G N P e y) fun b=>Zc (Zd op sh a b) fun v=>k (.cln v) e hp ef
 | .un op x=>rdK (Kn G N P e x) fun a=>Zc (JG op a) fun v=>k (.cln v) e hp ef
 | .conv c x=>rdK (Kn G N P e x) fun a=>Zc (Dt hp c a) fun v=>k (.cln v) e hp ef
 | .mkfn f first caps=>rdK (ZaN G N P e first) fun us=>rdK (ZaN G N P e caps) fun vs=>k (.cln (.fn f us vs)) e hp ef
 | .mkmap=>k (.cln (.map hp.length)) e (hp ++ [.map []]) ef
 | .mksl t zero n=>rdK (Kn G N P e n) fun n=>GQ (ZqL t zero n hp) fun v hp'=>k (.cln v) e hp' ef
 | .slice sh x lo hi=>rdK (Kn G N P e x) fun x=>rdK (Zfz G N P e lo) fun lo=>rdK (Zfz G N P e hi) fun hi=>Zc (Zap sh x lo hi) fun v=>k (.cln v) e hp ef
 | .fa off x=>rdK (Kn G N P e x) fun x=>Zc (Zp off x) fun v=>k (.cln v) e hp ef
 | .fld off n agg x=>rdK (Kn G N P e x) fun x=>Zc (Zjf off n agg x) fun v=>k (.cln v) e hp ef
 | .ia sh x i=>rdK (Kn G N P e x) fun x=>rdK (Kn G N P e i) fun i=>Zc (Qf sh x i) fun v=>k (.cln v) e hp ef
 | .idx x i=>rdK (Kn G N P e x) fun x=>rdK (Kn G N P e i) fun i=>Zc (Sz x i) fun v=>k (.cln v) e hp ef
 | .look sh zero x i ok=>rdK (Kn G N P e x) fun x=>rdK (Kn G N P e i) fun i=>Zc (NF hp sh zero x i ok) fun v=>k (.raw v) e hp ef
 | .mupd sh m i v=>rdK (Kn G N P e m) fun m=>rdK (Kn G N P e i) fun i=>rdK (Kn G N P e v) fun v=>GQ (Zly bs sh m i v hp ef) fun hp' ef'=>k (.cln .undef) e hp' ef'
 | .range x=>rdK (Kn G N P e x) fun x=>GQ (Zsa x hp) fun v hp'=>k (.cln v) e hp' ef
 | .next x=>rdK (Kn G N P e x) fun x=>Qg (ZtR bs x hp ef) fun v hp' ef'=>k (.cln v) e hp' ef'
 | .extract x i=>rdK (Kn G N P e x) fun x=>Zc (Jk x i) fun v=>k (.cln v) e hp ef
 | .len sh x=>rdK (Kn G N P e x) fun x=>Zc (Yy hp sh x) fun v=>k (.cln v) e hp ef
 | .app n bytes t x=>Za3 ((Nat.blt t N && LZ P t)) (rdK (Kn G N P e x) (fun x=>Zc (Zo6 n bytes (e t).val x hp) fun v=>k (.raw v) (e.set t (.cln (e t).rd)) hp ef)) none
 | .appn n bytes x=>rdK (Kn G N P e x) fun x=>Zc (ZtD n bytes x hp) fun v=>k (.raw v) e hp ef
 | .copy n d x=>rdK (Kn G N P e d) fun d=>rdK (Kn G N P e x) fun x=>Qg (copyV bs n d x hp ef) fun v hp' ef'=>k (.cln v) e hp' ef'
 | .min xs=>rdK (ZaN G N P e xs) fun vs=>Zc (ZtQ vs) fun v=>k (.cln v) e hp ef
 | .max xs=>rdK (ZaN G N P e xs) fun vs=>Zc (ZrS vs) fun v=>k (.cln v) e hp ef
 | .call f args=>rdK (Kn G N P e f) fun f=>rdK (Zj2 G N P e args) fun p=>Qg (Vh K f p.1 hp) fun v hp' ef'=>k (.raw v) p.2 hp' (Ze bs ef ef')
def ZsS (A:List (Nat×Bool))(o:J9)(e:Env)(hp:List Zk)(ef:Eff)(k:Kj):KR :=
 match o.guard with
 | none=>opK G N bs P K e hp ef o.op fun v e' hp' ef'=>k (e'.put o.dst v) hp' ef'
 | some (t,want)=>Za3 (inA t want A) (opK G N bs P K e hp ef o.op fun v e' hp' ef'=>k (e'.put o.dst v) hp' ef') (Za3 (Nat.blt t N && LZ P t)
   (Za3 (OC o.op)
    (ZrP (ZaK want (e t).val) (opK G N bs P K e hp ef o.op fun v e' hp' ef'=>k (e'.put o.dst v) hp' ef') (k (e.put o.dst (.cln .undef)) hp ef))
    (ZaL (ZaK want (e t).val) (opK G N bs P K e hp ef o.op fun v _ hp' ef'=>some (v.val,hp',ef')) hp ef fun v hp' ef'=>k (e.put o.dst (.raw v)) hp' ef'))
   none)
end
section
variable (G:Nat→Option (List AV))(N bs:Nat)(K:FuncId→List AV→List Zk→KR)
def Zpj (A:List (Nat×Bool))(P:List Nat)(ops:List J9):Option (Nat×Bool×Nat×Option Nat×V8×V8×List J9) :=
 match ops with
 | []=>none
 | o :: l=>match o.guard with
  | none=>none
  | some (t,want)=>Za3 (inA t want A) none
   (match (o :: l).drop (Hq N t want P [] (o :: l)) with
   | ⟨d,.pick (.tmp u) a b,none⟩ :: rest=>Za3 (Nat.beq u t && Nat.blt t N && LZ P t && Nat.blt 0 (Hq N t want P [] (o :: l))) (some (t,want,Hq N t want P [] (o :: l),d,a,b,rest)) none
   | ⟨d,.pick (.tmp u) a b,some (gt,gw)⟩ :: rest=>Za3 (inA gt gw A && Nat.beq u t && Nat.blt t N && LZ P t && Nat.blt 0 (Hq N t want P [] (o :: l))) (some (t,want,Hq N t want P [] (o :: l),d,a,b,rest)) none
   | _=>none)
def Zpd:Nat→List (Nat×Bool)→List Nat→List J9→List Nat
 | 0,_,P,_=>P
 | _ + 1,_,P,[]=>P
 | n + 1,A,P,o :: l=>match Zpj N A P (o :: l) with
  | some (_,_,_,d,_,_,rest)=>Zpd n A (rmO d P) rest
  | none=>Zpd n A (rmO o.dst P) l
def Zoh:Nat→List (Nat×Bool)→List Nat→List J9→Kj→Kj
 | _,_,_,[],k=>k
 | 0,_,_,_ :: _,_=>fun _ _ _=>none
 | n + 1,A,P,o :: l,k=>match Zpj N A P (o :: l) with
  | some (t,want,m,d,a,b,rest)=>fun e hp ef=>Uq (e t).val want
    (Zoh n ((t,want) :: A) P ((o :: l).take m) (fun e' hp' ef'=>rdK (Kn G N (Zpd N n ((t,want) :: A) P ((o :: l).take m)) e' (Za3 want a b)) fun v=>some (v,hp',ef')) e hp ef)
    (Kn G N P e (Za3 want b a)) hp ef fun v hp' ef'=>Zoh n A (rmO d P) rest k (e.put d (.raw v)) hp' ef'
  | none=>fun e hp ef=>ZsS G N bs P K A o e hp ef (Zoh n A (rmO o.dst P) l k)
def ZqK (id:Nat):List (Nat×Kj)→Kj
 | []=>fun _ _ _=>none
 | (i,k) :: l=>Za3 (Nat.beq i id) (k) (ZqK id l)
def VW (F:Kj→Kj):Nat→Kj
 | 0=>fun _ _ _=>none
 | n + 1=>F (VW F n)
variable (P:List Nat)(L:Nat)
def Z9:Zn→Kj→Kj→List (Nat×Kj)→Kj
 | .skip,n,_,_=>n
 | .region false ops,n,_,_=>Zoh G N bs K ops.length [] P ops n
 | .region true ops,n,_,_=>Zoh G N bs (Vf K) ops.length [] P ops n
 | .seq a b,n,r,xs=>Z9 a (Z9 b n r xs) r xs
 | .cond c a b,n,r,xs=>fun e hp ef=>rdK (Kn G N P e c) fun v=>ifK v (Z9 a n r xs e hp ef) (Z9 b n r xs e hp ef)
 | .block id c,n,r,xs=>Z9 c n r ((id,n) :: xs)
 | .loop c,_,r,xs=>VW (fun n'=>Z9 c n' r xs) L
 | .scope c,n,r,xs=>Z9 c n r xs
 | .exit id,_,_,xs=>ZqK id xs
 | .ret,_,r,_=>r
 | .bad,_,_,_=>fun _ _ _=>none
end
def Zu6 (e:Env)(N:Nat)(P:List Nat)(hp:List Zk):Zmf→Option AV
 | .tmp t=>Za3 ((Nat.blt t N && LZ P t)) (some (e t).val) (none)
 | .one t=>Za3 ((Nat.blt t N && LZ P t)) (Zf hp (e t).val) (none)
 | .agg t n=>Za3 ((Nat.blt t N && LZ P t)) (Z8 hp n (e t).val) (none)
def Zr5 (e:Env)(N:Nat)(P:List Nat)(hp:List Zk):List Zmf→(List AV→KR)→KR
 | [],k=>k []
 | r :: l,k=>rdK (Zu6 e N P hp r) fun v=>Zr5 e N P hp l fun vs=>k (v.nm :: vs)
def ZmV (e:Env)(N:Nat)(P:List Nat)(hp:List Zk):List Zmf→(AV→KR)→KR
 | [r],k=>rdK (Zu6 e N P hp r) k
 | rs,k=>Zr5 e N P hp rs fun vs=>k (.tup vs)
def Z6 (keep:Bool)(hp0:List Zk)(v:AV)(hp:List Zk)(ef:Eff):AV×List Zk×Eff :=
 bif keep then (v.nm,hp,ef) else finish v ⟨[],hp,ef,hp0.length⟩ hp0
def Y5 (P:List Nat)(fn:AFn)(hp0:List Zk):Kj:=fun e hp ef=>ZmV e fn.ntmps P hp fn.results fun v=>some (Z6 fn.keep hp0 v hp ef)
def Df:List AV→Env
 | []=>fun _=>.raw .undef
 | v :: l=>fun t=>match t with
  | 0=>.raw v
  | t + 1=>Df l t
def fnK (G:Nat→Option (List AV))(K:FuncId→List AV→List Zk→KR)(P:List Nat)(L:Nat)(fn:AFn)(args:List AV)(hp:List Zk):KR :=
 Z9 G fn.ntmps hp.length K P L fn.code (Y5 P fn hp) (Y5 P fn hp) [] (Df args) hp none
end Go.Proofs.YtlmfmmclnboglaaGreat.Abs
end
section
namespace Go.Proofs.YtlmfmmclnboglaaGreat.Abs
open Go
theorem Vd {α:Type}{x:Option α}{k:α→KR}{r:AV×List Zk×Eff}(h:Zc x k=some r):∃ v,x=some v∧k v=some r:=by
 cases x with
 | none=>cases h
 | some v=>exact ⟨v,rfl,h⟩
theorem DX {α β:Type}{x:Option (α×β)}{k:α→β→KR}{r:AV×List Zk×Eff}(h:GQ x k=some r):∃ a b,x=some (a,b)∧k a b=some r:=by
 cases x with
 | none=>cases h
 | some v=>exact ⟨v.1,v.2,rfl,h⟩
theorem CU {α β γ:Type}{x:Option (α×β×γ)}{k:α→β→γ→KR}{r:AV×List Zk×Eff}(h:Qg x k=some r):∃ a b c,x=some (a,b,c)∧k a b c=some r:=by
 cases x with
 | none=>cases h
 | some v=>exact ⟨v.1,v.2.1,v.2.2,rfl,h⟩
theorem ZbT {α:Type}(x y:α):Za3 true x y=x:=rfl
theorem Zam {α:Type}(x y:α):Za3 false x y=y:=rfl
theorem YN {α:Type}{x:Option α}{k:α→KR}{r:AV×List Zk×Eff}(h:rdK x k=some r):∃ v,x=some v∧k v=some r:=by
 cases x with
 | none=>cases h
 | some v=>exact ⟨v,rfl,h⟩
theorem Rk {α:Type}{b:Bool}{x:Option α}{r:α}(h:Za3 b x none=some r):b=true∧x=some r:=by
 cases b with
 | false=>cases h
 | true=>exact ⟨rfl,h⟩
def Zmg (v:KV):Prop:=v.val.ro=v.rd
theorem ZaM (v:AV):Zmg (.raw v):=rfl
theorem DU {v:AV}(h:v.ro=v):Zmg (.cln v):=h
theorem ZlT (v:AV):v.ro.ro=v.ro:=by cases v <;> rfl
theorem ZtK {v:KV}(h:Zmg v):Zmg (.cln v.rd):=by
 show v.rd.ro=v.rd
 rw [← h,ZlT]
theorem DW:∀ {P:List Nat} {t:Nat},LZ P t=true↔t ∉ P
 | [],t=>by simp [LZ]
 | u :: l,t=>by
  simp only [LZ,List.mem_cons,not_or]
  cases hb:Nat.beq u t with
  | true =>
   have:=Nat.eq_of_beq_eq_true hb
   subst this
   simp
  | false =>
   have:t≠u:=fun h=>by subst h; rw [Nat.beq_refl] at hb; cases hb
   simp [this,← DW]
theorem Znu:∀ {P:List Nat} {d t:Nat},t ∈ rm d P↔t ∈ P∧t≠d
 | [],d,t=>by simp [rm]
 | u :: l,d,t=>by
  simp only [rm]
  cases hb:Nat.beq u d with
  | true =>
   have:=Nat.eq_of_beq_eq_true hb
   subst this
   simp only [Znu,List.mem_cons]
   constructor
   ·rintro ⟨a,b⟩; exact ⟨.inr a,b⟩
   ·rintro ⟨a | a,b⟩
    ·exact absurd a b
    ·exact ⟨a,b⟩
  | false =>
   have:u≠d:=fun h=>by subst h; rw [Nat.beq_refl] at hb; cases hb
   simp only [List.mem_cons,Znu]
   constructor
   ·rintro (a | ⟨a,b⟩)
    ·subst a; exact ⟨.inl rfl,this⟩
    ·exact ⟨.inr a,b⟩
   ·rintro ⟨a | a,b⟩
    ·exact .inl a
    ·exact .inr ⟨a,b⟩
structure Us (N:Nat)(P:List Nat)(e:Env)(sl:List AV):Prop where
 len:sl.length=N
 val:∀ t,t < N→t ∉ P→sl[t]? = some (e t).val
 ok:∀ t,Zmg (e t)
theorem Us.mono {N:Nat}{P P':List Nat}{e:Env}{sl:List AV}(h:Us N P e sl)(hp:∀ t,t ∈ P→t ∈ P'):Us N P' e sl:=⟨h.len,fun t ht hn=>h.val t ht fun hm=>hn (hp t hm),h.ok⟩
theorem Us.set {N:Nat}{P:List Nat}{e:Env}{sl:List AV}(h:Us N P e sl)(d:Nat){v:KV}(hv:Zmg v):Us N (rm d P) (e.set d v) (sl.set d v.val):=by
 refine ⟨by rw [List.length_set]; exact h.len,fun t ht hn=>?_,fun t=>?_⟩
 ·rw [List.getElem?_set]
  by_cases e1:d=t
  ·subst e1
   simp [Env.set,h.len,ht]
  ·have:Nat.beq t d=false:=by cases hb:Nat.beq t d with | false=>rfl | true=>exact absurd (Nat.eq_of_beq_eq_true hb).symm e1
   simp [e1,Env.set,this,h.val t ht fun hm=>hn (Znu.2 ⟨hm,fun h=>e1 h.symm⟩)]
 ·show Zmg (Za3 (Nat.beq t d) v (e t))
  cases Nat.beq t d
  ·exact h.ok t
  ·exact hv
theorem Us.put {N:Nat}{P:List Nat}{e:Env}{sl:List AV}(h:Us N P e sl)(d:Option Nat){v:KV}(hv:Zmg v){hp:List Zk}{ef:Eff}{bs:Nat}:Us N (rmO d P) (e.put d v) (Zv.put ⟨sl,hp,ef,bs⟩ d v.val).sl:=by
 cases d with
 | none=>exact h
 | some d=>exact h.set d hv
theorem Us.let_ {N:Nat}{P:List Nat}{e:Env}{sl:List AV}(h:Us N P e sl)(t:Nat):Us N P (e.set t (.cln (e t).rd)) (sl.modify t AV.ro):=by
 refine ⟨by rw [List.length_modify]; exact h.len,fun u hu hn=>?_,fun u=>?_⟩
 ·rw [List.getElem?_modify]
  by_cases e1:t=u
  ·subst e1
   simp only [if_true,h.val t hu hn,Env.set,Nat.beq_refl,KV.val]
   have:=h.ok t
   simp only [Zmg] at this
   simp only [KV.val] at this
   rw [Option.map_eq_map,Option.map_some,← this]
  ·have:Nat.beq u t=false:=by cases hb:Nat.beq u t with | false=>rfl | true=>exact absurd (Nat.eq_of_beq_eq_true hb).symm e1
   simp [e1,Env.set,this,h.val u hu hn]
 ·show Zmg (Za3 (Nat.beq u t) (.cln (e t).rd) (e u))
  cases Nat.beq u t
  ·exact h.ok u
  ·exact ZtK (h.ok t)
section
variable {G:Nat→Option (List AV)}{N:Nat}{P:List Nat}{e:Env}{sl:List AV}
theorem Zlx {t N:Nat}{P:List Nat}(h:(Nat.blt t N && LZ P t)=true):t < N∧t ∉ P:=by
 rw [Bool.and_eq_true] at h
 exact ⟨Nat.le_of_ble_eq_true h.1,DW.1 h.2⟩
theorem Us.get (h:Us N P e sl){t:Nat}(ht:(Nat.blt t N && LZ P t)=true):sl[t]? = some (e t).val:=h.val t (Zlx ht).1 (Zlx ht).2
theorem Us.read (h:Us N P e sl){t:Nat}(ht:(Nat.blt t N && LZ P t)=true):(sl[t]?).map AV.ro=some (e t).rd:=by
 rw [h.get ht,Option.map_some,h.ok t]
theorem Us.opnd (h:Us N P e sl){x:V8}{v:AV}(hx:Kn G N P e x=some v):Abs.opnd G sl x=some v:=by
 cases x with
 | tmp t =>
  obtain ⟨h1,h2⟩:=Rk (show Za3 (Nat.blt t N && LZ P t) (some (e t).rd) none=some v from hx)
  cases h2
  exact h.read h1
 | const v=>exact hx
 | glob g=>exact hx
theorem Us.opnds (h:Us N P e sl):∀ {xs:List V8} {vs:List AV},ZaN G N P e xs=some vs→Abs.opnds G sl xs=some vs
 | [],vs,hx=>hx
 | x :: l,vs,hx=>by
  simp only [ZaN] at hx
  split at hx
  ·rename_i v hv
   split at hx
   ·rename_i us hus
    cases hx
    simp only [Abs.opnds,h.opnd hv,h.opnds hus,Option.map_some]
   ·cases hx
  ·cases hx
theorem Us.optOpnd (h:Us N P e sl){x:Option V8}{v:Option AV}(hx:Zfz G N P e x=some v):Abs.optOpnd G sl x=some v:=by
 cases x with
 | none=>exact hx
 | some x =>
  simp only [Zfz] at hx
  split at hx
  ·rename_i u hu
   cases hx
   simp only [Abs.optOpnd,h.opnd hu,Option.map_some]
  ·cases hx
theorem Us.mvK (h:Us N P e sl){x:V8}{k:KV→KR}{r:AV×List Zk×Eff}(hx:mvK G N P e x k=some r):∃ v,Abs.opnd G sl x=some v.val∧Zmg v∧k v=some r:=by
 cases x with
 | tmp t =>
  obtain ⟨h1,h2⟩:=Rk (show Za3 (Nat.blt t N && LZ P t) (k (KV.cln (e t).rd)) none=some r from hx)
  exact ⟨KV.cln (e t).rd,h.read h1,ZtK (h.ok t),h2⟩
 | const v=>exact ⟨_,rfl,ZaM v,hx⟩
 | glob g =>
  obtain ⟨c,h1,h2⟩:=Vd (show Zc (G g) (fun c=>k (.cln (.ref c)))=some r from hx)
  exact ⟨KV.cln (.ref c),by simp only [Abs.opnd,h1,Option.map_some]; rfl,rfl,h2⟩
theorem Us.args:∀ {as:List (Nat ⊕ V8)} {e e':Env} {sl:List AV} {vs:List AV},Us N P e sl→Zj2 G N P e as=some (vs,e')→∃ sl',Gy G sl as=some (vs,sl')∧Us N P e' sl'
 | [],e,e',sl,vs,h,ha=>by
  cases ha
  exact ⟨sl,rfl,h⟩
 | .inl t :: l,e,e',sl,vs,h,ha=>by
  simp only [Zj2] at ha
  obtain ⟨h1,h2⟩:=Rk ha
  split at h2
  ·rename_i us e1 hus
   cases h2
   obtain ⟨sl',a1,a2⟩:=Us.args (h.let_ t) hus
   refine ⟨sl',?_,a2⟩
   simp only [Gy,h.get h1,a1,Option.map_some]
  ·cases h2
 | .inr x :: l,e,e',sl,vs,h,ha=>by
  simp only [Zj2] at ha
  split at ha
  ·rename_i v hv
   split at ha
   ·rename_i us e1 hus
    cases ha
    obtain ⟨sl',a1,a2⟩:=Us.args h hus
    refine ⟨sl',?_,a2⟩
    simp only [Gy,h.opnd hv,a1,Option.map_some]
   ·cases ha
  ·cases ha
end
theorem Zr7 {op:BinOp}{x y:List UInt8}{v:AV}(h:ZlZ op x y=some v):v.ro=v:=by
 cases op <;> simp only [ZlZ] at h <;> first | (cases h; done) | (cases h; rfl) | (split at h <;> cases h; rfl)
theorem ZpV {op:BinOp}{k:IntKind}{x y:Int}{v:AV}(h:P7 op k x y=some v):v.ro=v:=by
 cases op <;> simp only [P7] at h <;> first | (cases h; done) | (cases h; rfl) | (split at h <;> cases h; rfl)
theorem ZmW {op:BinOp}{k:IntKind}{x y:Int}{v:AV}(h:Zde op k x y=some v):v.ro=v:=by
 simp only [Zde] at h
 split at h
 ·cases h
 ·cases op <;> simp only at h <;> first | (cases h; done) | (cases h; rfl)
theorem ZpU {op:BinOp}{sh:Zqn}{x y v:AV}(h:Zd op sh x y=some v):v.ro=v:=by
 unfold Zd at h
 split at h
 ·split at h
  ·split at h
   ·exact ZmW h
   ·split at h
    ·exact ZpV h
    ·cases h
  ·exact Zr7 h
  ·cases h
 ·split at h
  ·obtain ⟨b,_,rfl⟩:=Option.map_eq_some_iff.1 h; rfl
  ·obtain ⟨b,_,rfl⟩:=Option.map_eq_some_iff.1 h; rfl
  ·cases h
theorem Zr8 {op:UnOp}{x v:AV}(h:JG op x=some v):v.ro=v:=by
 unfold JG at h
 split at h <;> cases h <;> rfl
theorem Zoy {hp:List Zk}{c:Conv}{x v:AV}(h:Dt hp c x=some v):v.ro=v:=by
 unfold Dt at h
 split at h
 ·cases h; rfl
 ·cases h; rfl
 ·cases h; rfl
 ·split at h
  ·obtain ⟨b,_,rfl⟩:=Option.map_eq_some_iff.1 h; rfl
  ·cases h
 ·cases h
theorem Zur {hp:List Zk}{x v:AV}(h:Zf hp x=some v):v.ro=v:=by
 unfold Zf at h
 split at h
 ·cases h; exact ZlT _
 ·split at h
  ·obtain ⟨b,_,rfl⟩:=Option.map_eq_some_iff.1 h; exact ZlT _
  ·cases h
 ·cases h
theorem Zuq {hp:List Zk}{n:Nat}{x v:AV}(h:Z8 hp n x=some v):v.ro=v:=by
 unfold Z8 at h
 split at h
 ·split at h <;> cases h; rfl
 ·split at h
  ·split at h <;> cases h; rfl
  ·cases h
 ·cases h
theorem ZpW {x v:AV}(h:ZjZ x=some v):v.ro=v:=by
 unfold ZjZ at h
 split at h <;> cases h <;> rfl
theorem Zr6 {sh:Shape}{x v:AV}{lo hi:Option AV}(h:Zap sh x lo hi=some v):v.ro=v:=by
 unfold Zap at h
 split at h
 ·split at h
  ·split at h <;> cases h; rfl
  ·cases h
 ·split at h
  ·split at h
   ·split at h <;> cases h; rfl
   ·cases h
  ·cases h
 ·split at h
  ·split at h
   ·split at h
    ·split at h <;> cases h <;> rfl
    ·cases h
   ·cases h
  ·cases h
 ·split at h
  ·split at h
   ·split at h <;> cases h <;> rfl
   ·cases h
  ·cases h
 ·cases h
theorem ZuR {off:Nat}{x v:AV}(h:Zp off x=some v):v.ro=v:=by
 unfold Zp at h
 split at h <;> cases h <;> rfl
theorem Zuo {off n:Nat}{a:Bool}{x v:AV}(h:Zjf off n a x=some v):v.ro=v:=by
 unfold Zjf at h
 split at h
 ·split at h
  ·split at h
   ·cases h; rfl
   ·obtain ⟨b,_,rfl⟩:=Option.map_eq_some_iff.1 h; exact ZlT _
  ·cases h
 ·cases h
theorem ZuS {sh:Shape}{x i v:AV}(h:Qf sh x i=some v):v.ro=v:=by
 unfold Qf at h
 split at h
 ·split at h
  ·obtain ⟨b,_,rfl⟩:=Option.map_eq_some_iff.1 h; rfl
  ·cases h
 all_goals first | (cases h; done) | (split at h <;> cases h; rfl)
theorem Zup {x i v:AV}(h:Sz x i=some v):v.ro=v:=by
 unfold Sz at h
 split at h
 ·split at h
  ·obtain ⟨b,_,rfl⟩:=Option.map_eq_some_iff.1 h; rfl
  ·cases h
 ·cases h
theorem Zoz {x:AV}{i:Nat}{v:AV}(h:Jk x i=some v):v.ro=v:=by
 unfold Jk at h
 split at h
 ·obtain ⟨b,_,rfl⟩:=Option.map_eq_some_iff.1 h; exact ZlT _
 ·cases h
theorem Zus {hp:List Zk}{sh:Zqo}{x v:AV}(h:Yy hp sh x=some v):v.ro=v:=by
 unfold Yy at h
 split at h
 ·cases h; rfl
 ·cases h; rfl
 ·cases h; rfl
 ·cases h; rfl
 ·split at h <;> cases h; rfl
 ·cases h
theorem Zuu {xs:List AV}{v:AV}(h:ZtQ xs=some v):v.ro=v:=by
 unfold ZtQ at h
 split at h
 ·obtain ⟨b,_,rfl⟩:=Option.map_eq_some_iff.1 h; rfl
 ·cases h
theorem Zut {xs:List AV}{v:AV}(h:ZrS xs=some v):v.ro=v:=by
 unfold ZrS at h
 split at h
 ·obtain ⟨b,_,rfl⟩:=Option.map_eq_some_iff.1 h; rfl
 ·cases h
end Go.Proofs.YtlmfmmclnboglaaGreat.Abs
end
section
namespace Go.Proofs.YtlmfmmclnboglaaGreat.Abs
open Go
section
variable {G:Nat→Option (List AV)}{N bs:Nat}{P:List Nat}{K:FuncId→List AV→List Zk→KR}
def ZtC (G:Nat→Option (List AV))(N bs:Nat)(P:List Nat)(K:FuncId→List AV→List Zk→KR)(sl:List AV)(hp:List Zk)(ef:Eff)(op:AOp)(k:KV→Env→List Zk→Eff→KR)(r:AV×List Zk×Eff):Prop :=
 ∃ (v:KV) (e':Env) (sl':List AV) (hp':List Zk) (ef':Eff),Zo G K ⟨sl,hp,ef,bs⟩ op=some (v.val,⟨sl',hp',ef',bs⟩)∧Us N P e' sl'∧Zmg v∧k v e' hp' ef'=some r
theorem Zeo (sl:List AV)(hp:List Zk)(ef:Eff)(bs g v:Nat):Zv.note ⟨sl,hp,ef,bs⟩ g v=SE bs ef g v:=rfl
theorem Zqs (sl:List AV)(hp:List Zk)(ef:Eff)(bs:Nat)(e:Eff):Zv.after ⟨sl,hp,ef,bs⟩ e=Ze bs ef e:=by
 cases e with
 | none=>rfl
 | some p=>rfl
theorem Zue {e:Env}{sl:List AV}(he:Us N P e sl){hp:List Zk}{ef:Eff}{op:AOp}{k:KV→Env→List Zk→Eff→KR}{r:AV×List Zk×Eff}(h:opK G N bs P K e hp ef op k=some r):ZtC G N bs P K sl hp ef op k r:=by
 cases op <;> simp only [opK] at h
 case bad=>cases h
 case mv x =>
  obtain ⟨v,a1,a2,h2⟩:=he.mvK h
  exact ⟨v,e,sl,hp,ef,by simp only [Zo,a1,Option.map_some],he,a2,h2⟩
 case take t =>
  obtain ⟨h1,h2⟩:=Rk h
  refine ⟨e t,_,sl.modify t AV.ro,hp,ef,?_,he.let_ t,he.ok t,h2⟩
  simp only [Zo,he.get h1,Zv.let_]
 case pick c a b =>
  obtain ⟨c',h1,h⟩:=YN h
  obtain ⟨a',h2,h⟩:=YN h
  obtain ⟨b',h3,h⟩:=YN h
  obtain ⟨v,h4,h⟩:=Vd h
  refine ⟨_,e,sl,hp,ef,?_,he,ZaM _,h⟩
  unfold ZiC at h4
  split at h4 <;> cases h4
  ·simp only [Zo,he.opnd h1,he.opnd h2,Option.map_some,KV.val]
  ·simp only [Zo,he.opnd h1,he.opnd h3,Option.map_some,KV.val]
 case mk t cells=>exact ⟨_,e,sl,_,ef,rfl,he,(by rfl),h⟩
 case box t n x =>
  obtain ⟨v,h1,h⟩:=YN h
  obtain ⟨cs,h2,h⟩:=Vd h
  unfold GA at h2
  split at h2 <;> cases h2
  rename_i hc
  refine ⟨_,e,sl,_,ef,?_,he,(by rfl),h⟩
  simp only [Zo,he.opnd h1,hc,and_self,if_true,KV.val]
 case build zero parts =>
  obtain ⟨vs,h1,h⟩:=YN h
  obtain ⟨cs,h2,h⟩:=Vd h
  refine ⟨_,e,sl,hp,ef,?_,he,(by rfl),h⟩
  simp only [Zo,he.opnds h1,h2,Option.map_some,KV.val]
 case lit t n parts =>
  obtain ⟨vs,h1,h⟩:=YN h
  obtain ⟨v,hp',h2,h⟩:=DX h
  refine ⟨_,e,sl,hp',ef,?_,he,ZaM _,h⟩
  unfold Zeb at h2
  split at h2
  ·rename_i hc
   cases h2
   simp only [Zo,he.opnds h1,hc,if_true,KV.val]
  ·rename_i hc
   split at h2
   ·rename_i hc'
    cases h2
    simp only [Zo,he.opnds h1,hc,hc',if_true,KV.val]
    rfl
   ·cases h2
 case lita t n parts =>
  obtain ⟨vs,h1,h⟩:=YN h
  obtain ⟨v,hp',h2,h⟩:=DX h
  refine ⟨_,e,sl,hp',ef,?_,he,ZaM _,h⟩
  unfold ZtO at h2
  split at h2
  ·rename_i hc
   cases h2
   simp only [Zo,he.opnds h1,hc,if_true,KV.val]
  ·cases h2
 case ldc p =>
  obtain ⟨v,h1,h⟩:=YN h
  obtain ⟨u,h2,h⟩:=Vd h
  exact ⟨_,e,sl,hp,ef,by simp only [Zo,he.opnd h1,h2,Option.map_some,KV.val],he,DU (Zur h2),h⟩
 case lda n p =>
  obtain ⟨v,h1,h⟩:=YN h
  obtain ⟨u,h2,h⟩:=Vd h
  exact ⟨_,e,sl,hp,ef,by simp only [Zo,he.opnd h1,h2,Option.map_some,KV.val],he,DU (Zuq h2),h⟩
 case ldt p =>
  obtain ⟨v,h1,h⟩:=YN h
  obtain ⟨u,hp',ef',h2,h⟩:=CU h
  refine ⟨_,e,sl,hp',ef',?_,he,ZaM _,h⟩
  unfold ZqH at h2
  split at h2
  ·split at h2
   ·rename_i hg
    split at h2
    ·rename_i hc
     cases h2
     simp only [Zo,he.opnd h1,hg,hc,Zeo,KV.val]
    ·cases h2
   ·cases h2
  ·cases h2
 case st n p x =>
  obtain ⟨v,h1,h⟩:=YN h
  obtain ⟨u,h2,h⟩:=YN h
  obtain ⟨hp',ef',h3,h⟩:=DX h
  refine ⟨_,e,sl,hp',ef',?_,he,(by rfl),h⟩
  unfold stV at h3
  split at h3
  ·split at h3
   ·rename_i hg
    split at h3
    ·rename_i hc
     cases h3
     simp only [Zo,he.opnd h1,he.opnd h2,hg,hc,Zeo,KV.val,and_self,if_true]
    ·cases h3
   ·cases h3
  ·cases h3
 case stt p t =>
  obtain ⟨v,h1,h⟩:=YN h
  obtain ⟨h2,h⟩:=Rk h
  obtain ⟨hp',ef',h3,h⟩:=DX h
  refine ⟨_,_,sl.modify t AV.ro,hp',ef',?_,he.let_ t,(by rfl),h⟩
  unfold Zfu at h3
  split at h3
  ·split at h3
   ·rename_i hg
    split at h3
    ·rename_i hc
     cases h3
     simp only [Zo,he.opnd h1,he.get h2,hg,Zeo,Zv.let_]
     rw [if_pos hc]
     rfl
    ·cases h3
   ·cases h3
  ·cases h3
 case nilchk x =>
  obtain ⟨v,h1,h⟩:=YN h
  obtain ⟨u,h2,h⟩:=Vd h
  refine ⟨_,e,sl,hp,ef,?_,he,DU (ZpW h2),h⟩
  unfold ZjZ at h2
  split at h2 <;> cases h2 <;> simp only [Zo,he.opnd h1,KV.val]
 case bin op sh x y =>
  obtain ⟨v,h1,h⟩:=YN h
  obtain ⟨u,h2,h⟩:=YN h
  obtain ⟨w,h3,h⟩:=Vd h
  exact ⟨_,e,sl,hp,ef,by simp only [Zo,he.opnd h1,he.opnd h2,h3,Option.map_some,KV.val],he,DU (ZpU h3),h⟩
 case un op x =>
  obtain ⟨v,h1,h⟩:=YN h
  obtain ⟨u,h2,h⟩:=Vd h
  exact ⟨_,e,sl,hp,ef,by simp only [Zo,he.opnd h1,h2,Option.map_some,KV.val],he,DU (Zr8 h2),h⟩
 case conv c x =>
  obtain ⟨v,h1,h⟩:=YN h
  obtain ⟨u,h2,h⟩:=Vd h
  exact ⟨_,e,sl,hp,ef,by simp only [Zo,he.opnd h1,h2,Option.map_some,KV.val],he,DU (Zoy h2),h⟩
 case mkfn f first caps =>
  obtain ⟨v,h1,h⟩:=YN h
  obtain ⟨u,h2,h⟩:=YN h
  exact ⟨_,e,sl,hp,ef,by simp only [Zo,he.opnds h1,he.opnds h2,KV.val],he,(by rfl),h⟩
 case mkmap=>exact ⟨_,e,sl,_,ef,rfl,he,(by rfl),h⟩
 case mksl t zero n =>
  obtain ⟨v,h1,h⟩:=YN h
  obtain ⟨u,hp',h2,h⟩:=DX h
  unfold ZqL at h2
  split at h2
  ·split at h2
   ·rename_i hc
    cases h2
    exact ⟨_,e,sl,_,ef,by simp only [Zo,he.opnd h1,hc,and_self,if_true,KV.val],he,(by rfl),h⟩
   ·cases h2
  ·cases h2
 case slice sh x lo hi =>
  obtain ⟨v,h1,h⟩:=YN h
  obtain ⟨u1,h2,h⟩:=YN h
  obtain ⟨u2,h3,h⟩:=YN h
  obtain ⟨u,h4,h⟩:=Vd h
  exact ⟨_,e,sl,hp,ef,by simp only [Zo,he.opnd h1,he.optOpnd h2,he.optOpnd h3,h4,Option.map_some,KV.val],he,DU (Zr6 h4),h⟩
 case fa off x =>
  obtain ⟨v,h1,h⟩:=YN h
  obtain ⟨u,h2,h⟩:=Vd h
  exact ⟨_,e,sl,hp,ef,by simp only [Zo,he.opnd h1,h2,Option.map_some,KV.val],he,DU (ZuR h2),h⟩
 case fld off n agg x =>
  obtain ⟨v,h1,h⟩:=YN h
  obtain ⟨u,h2,h⟩:=Vd h
  exact ⟨_,e,sl,hp,ef,by simp only [Zo,he.opnd h1,h2,Option.map_some,KV.val],he,DU (Zuo h2),h⟩
 case ia sh x i =>
  obtain ⟨v,h1,h⟩:=YN h
  obtain ⟨u,h2,h⟩:=YN h
  obtain ⟨w,h3,h⟩:=Vd h
  exact ⟨_,e,sl,hp,ef,by simp only [Zo,he.opnd h1,he.opnd h2,h3,Option.map_some,KV.val],he,DU (ZuS h3),h⟩
 case idx x i =>
  obtain ⟨v,h1,h⟩:=YN h
  obtain ⟨u,h2,h⟩:=YN h
  obtain ⟨w,h3,h⟩:=Vd h
  exact ⟨_,e,sl,hp,ef,by simp only [Zo,he.opnd h1,he.opnd h2,h3,Option.map_some,KV.val],he,DU (Zup h3),h⟩
 case look sh zero x i ok =>
  obtain ⟨v,h1,h⟩:=YN h
  obtain ⟨u,h2,h⟩:=YN h
  obtain ⟨w,h3,h⟩:=Vd h
  exact ⟨_,e,sl,hp,ef,by simp only [Zo,he.opnd h1,he.opnd h2,h3,Option.map_some,KV.val],he,ZaM _,h⟩
 case mupd sh m i x =>
  obtain ⟨v,h1,h⟩:=YN h
  obtain ⟨u,h2,h⟩:=YN h
  obtain ⟨w,h3,h⟩:=YN h
  obtain ⟨hp',ef',h4,h⟩:=DX h
  refine ⟨_,e,sl,hp',ef',?_,he,(by rfl),h⟩
  unfold Zly at h4
  split at h4
  ·split at h4
   ·rename_i hg
    split at h4
    ·rename_i hc
     split at h4
     ·rename_i hu
      cases h4
      simp only [Zo,he.opnd h1,he.opnd h2,he.opnd h3,hg,hc,hu,Zeo,KV.val,if_true]
     ·cases h4
    ·cases h4
   ·cases h4
  ·cases h4
 case range x =>
  obtain ⟨v,h1,h⟩:=YN h
  obtain ⟨u,hp',h2,h⟩:=DX h
  unfold Zsa at h2
  split at h2 <;> cases h2
  exact ⟨_,e,sl,_,ef,by simp only [Zo,he.opnd h1,KV.val],he,(by rfl),h⟩
 case next x =>
  obtain ⟨v,h1,h⟩:=YN h
  obtain ⟨u,hp',ef',h2,h⟩:=CU h
  unfold ZtR at h2
  split at h2
  ·split at h2
   ·rename_i hg
    split at h2
    ·rename_i hc
     cases h2
     exact ⟨_,e,sl,_,_,by simp only [Zo,he.opnd h1,hg,hc,if_true,Zeo,KV.val],he,(by rfl),h⟩
    ·rename_i hc
     cases h2
     exact ⟨_,e,sl,_,_,by simp only [Zo,he.opnd h1,hg,hc,if_false,KV.val],he,(by rfl),h⟩
   ·cases h2
  ·cases h2
 case extract x i =>
  obtain ⟨v,h1,h⟩:=YN h
  obtain ⟨u,h2,h⟩:=Vd h
  refine ⟨_,e,sl,hp,ef,?_,he,DU (Zoz h2),h⟩
  unfold Jk at h2
  split at h2
  ·rename_i vs
   obtain ⟨b,hb,rfl⟩:=Option.map_eq_some_iff.1 h2
   simp only [Zo,he.opnd h1,hb,Option.map_some,KV.val]
  ·cases h2
 case len sh x =>
  obtain ⟨v,h1,h⟩:=YN h
  obtain ⟨u,h2,h⟩:=Vd h
  exact ⟨_,e,sl,hp,ef,by simp only [Zo,he.opnd h1,h2,Option.map_some,KV.val],he,DU (Zus h2),h⟩
 case app n bytes t x =>
  obtain ⟨h1,h⟩:=Rk h
  obtain ⟨v,h2,h⟩:=YN h
  obtain ⟨u,h3,h⟩:=Vd h
  refine ⟨_,_,sl.modify t AV.ro,hp,ef,?_,he.let_ t,ZaM _,h⟩
  have hv:=he.get h1
  unfold Zo6 at h3
  split at h3
  ·rename_i k' r0 hs
   split at h3
   ·rename_i k'' r' hr
    split at h3
    ·rename_i hc
     cases h3
     rw [hs] at hv
     simp only [Zo,hv,he.opnd h2,hr,KV.val,Zv.let_]
     rw [if_pos hc]
    ·cases h3
   ·cases h3
  ·cases h3
 case appn n bytes x =>
  obtain ⟨v,h2,h⟩:=YN h
  obtain ⟨u,h3,h⟩:=Vd h
  refine ⟨_,_,sl,hp,ef,?_,he,ZaM _,h⟩
  unfold ZtD at h3
  split at h3
  ·rename_i k'' r' hr
   split at h3
   ·rename_i hc
    cases h3
    simp only [Zo,he.opnd h2,hr,KV.val]
    rw [if_pos hc]
   ·cases h3
  ·cases h3
 case copy n d x =>
  obtain ⟨v,h1,h⟩:=YN h
  obtain ⟨u,h2,h⟩:=YN h
  obtain ⟨w,hp',ef',h3,h⟩:=CU h
  refine ⟨_,e,sl,hp',ef',?_,he,?_,h⟩
  ·unfold copyV at h3
   split at h3
   ·split at h3
    ·rename_i hr hg
     split at h3
     ·rename_i hc
      cases h3
      simp only [Zo,he.opnd h1,he.opnd h2,hr,hg,Zeo,KV.val]
      rw [if_pos hc]
     ·cases h3
    ·cases h3
   ·split at h3
    ·rename_i hr
     split at h3
     ·rename_i hc
      cases h3
      simp only [Zo,he.opnd h1,he.opnd h2,hr,KV.val]
      rw [if_pos hc]
     ·cases h3
    ·cases h3
   ·cases h3
  ·unfold copyV at h3
   split at h3
   ·split at h3
    ·split at h3 <;> cases h3; rfl
    ·cases h3
   ·split at h3
    ·split at h3 <;> cases h3; rfl
    ·cases h3
   ·cases h3
 case min xs =>
  obtain ⟨v,h1,h⟩:=YN h
  obtain ⟨u,h2,h⟩:=Vd h
  refine ⟨_,e,sl,hp,ef,?_,he,DU (Zuu h2),h⟩
  unfold ZtQ at h2
  split at h2
  ·obtain ⟨b,hb,rfl⟩:=Option.map_eq_some_iff.1 h2
   simp only [Zo,he.opnds h1,hb,Option.map_some,KV.val]
  ·cases h2
 case max xs =>
  obtain ⟨v,h1,h⟩:=YN h
  obtain ⟨u,h2,h⟩:=Vd h
  refine ⟨_,e,sl,hp,ef,?_,he,DU (Zut h2),h⟩
  unfold ZrS at h2
  split at h2
  ·obtain ⟨b,hb,rfl⟩:=Option.map_eq_some_iff.1 h2
   simp only [Zo,he.opnds h1,hb,Option.map_some,KV.val]
  ·cases h2
 case call f args =>
  obtain ⟨fv,h1,h⟩:=YN h
  obtain ⟨⟨vs,e'⟩,h2,h⟩:=YN h
  obtain ⟨v,hp',ef',h3,h4⟩:=CU h
  obtain ⟨sl',a1,a2⟩:=he.args h2
  clear h
  unfold Vh at h3
  split at h3
  ·refine ⟨_,e',sl',hp',_,?_,a2,ZaM _,h4⟩
   simp only [Zo,he.opnd h1,a1,h3,Zqs,KV.val]
  ·cases h3
theorem ZgF {want:Bool}{v:AV}{sl:List AV}{t:Nat}{s:Zv}(hs:s.sl=sl)(h:sl[t]? = some v):GX s (some (t,want))=ZaK want v:=by
 simp only [GX,hs,h]
 cases v <;> rfl
def Zqr (N bs:Nat)(P:List Nat)(x:Option Zv)(k:Kj)(r:AV×List Zk×Eff):Prop :=
 ∃ (e':Env) (sl':List AV) (hp':List Zk) (ef':Eff),x=some ⟨sl',hp',ef',bs⟩∧Us N P e' sl'∧k e' hp' ef'=some r
theorem put_eq (sl:List AV)(hp:List Zk)(ef:Eff)(bs:Nat)(d:Option Nat)(v:AV):Zv.put ⟨sl,hp,ef,bs⟩ d v=⟨(Zv.put ⟨sl,hp,ef,bs⟩ d v).sl,hp,ef,bs⟩:=by cases d <;> rfl
theorem ZpD {e:Env}{hp:List Zk}{ef:Eff}{op:AOp}(hq:OC op=false){k:KV→Env→List Zk→Eff→KR} :
  opK G N bs P K e hp ef op k=opK G N bs P K e hp ef op fun v _ hp' ef'=>k v e hp' ef':=by
 cases op <;> first | rfl | (cases hq; done) | skip
 case call f args =>
  have:∀ (as:List (Nat ⊕ V8)) (e:Env) (vs:List AV) (e':Env),(as.any fun | .inl _=>true | .inr _=>false)=false→Zj2 G N P e as=some (vs,e')→e'=e:=by
   intro as
   induction as with
   | nil=>intro e vs e' _ h; cases h; rfl
   | cons a l ih =>
    intro e vs e' hn h
    cases a with
    | inl t=>simp at hn
    | inr x =>
     simp only [Zj2] at h
     split at h
     ·split at h
      ·rename_i us e1 hus
       cases h
       exact ih e us e' (by simpa using hn) hus
      ·cases h
     ·cases h
  simp only [opK]
  congr 1
  funext f
  cases ha:Zj2 G N P e args with
  | none=>rfl
  | some p =>
   obtain ⟨vs,e'⟩:=p
   cases this args e vs e' hq ha
   rfl
theorem ZiM:∀ {as:List (Nat ⊕ V8)} {sl sl':List AV} {vs:List AV},(as.any fun | .inl _=>true | .inr _=>false)=false→Gy G sl as=some (vs,sl')→sl'=sl
 | [],sl,sl',vs,_,h=>by cases h; rfl
 | .inl t :: l,sl,sl',vs,hn,h=>by simp at hn
 | .inr x :: l,sl,sl',vs,hn,h=>by
  simp only [Gy] at h
  split at h
  ·obtain ⟨p,hp,e⟩:=Option.map_eq_some_iff.1 h
   cases e
   exact ZiM (by simpa using hn) hp
  ·cases h
theorem ZtP {α:Type}{s s':Zv}{x:Option α}{f:α→AV}{v:AV}(h:x.map (fun a=>(f a,s))=some (v,s')):s'.sl=s.sl:=by
 obtain ⟨w,_,e⟩:=Option.map_eq_some_iff.1 h
 exact (congrArg (fun p=>p.2.sl) e).symm
theorem Zts {s s':Zv}{v w:AV}(h:some (w,s)=some (v,s')):s'.sl=s.sl:=(congrArg (fun p=>p.2.sl) (Option.some.inj h)).symm
theorem ZrB {s s' s1:Zv}{v w:AV}(h:some (w,s1)=some (v,s'))(h1:s1.sl=s.sl):s'.sl=s.sl:=by
 rw [← h1]; exact (congrArg (fun p=>p.2.sl) (Option.some.inj h)).symm
theorem Zs8 {s s':Zv}{v:AV}(h:(none:Option (AV×Zv))=some (v,s')):s'.sl=s.sl:=nomatch h
theorem Zlm {call:FuncId→List AV→List Zk→KR}{s s':Zv}{op:AOp}{v:AV}(hq:OC op=false)(h:Zo G call s op=some (v,s')):s'.sl=s.sl:=by
 cases op
 case take t=>cases hq
 case stt p t=>cases hq
 case app k b t x=>cases hq
 case call f args =>
  simp only [Zo] at h
  split at h
  ·rename_i hf ha
   split at h
   ·have:=Zts h
    rw [this]
    exact ZiM hq ha
   ·exact absurd h (by simp)
  ·exact absurd h (by simp)
 all_goals
  simp only [Zo] at h
  repeat'
   first
   | exact ZtP h
   | exact Zs8 h
   | exact ZrB h rfl
   | split at h
theorem Zl3 {α:Type}(x:Option α)(f:α→KR)(k:AV→List Zk→Eff→KR):Qg (Zc x f) k=Zc x fun a=>Qg (f a) k:=by cases x <;> rfl
theorem Zrd {α:Type}(x:Option α)(f:α→KR)(k:AV→List Zk→Eff→KR):Qg (rdK x f) k=rdK x fun a=>Qg (f a) k:=by cases x <;> rfl
theorem ZpA {α β:Type}(x:Option (α×β))(f:α→β→KR)(k:AV→List Zk→Eff→KR):Qg (GQ x f) k=GQ x fun a b=>Qg (f a b) k:=by cases x <;> rfl
theorem ZpB {α β γ:Type}(x:Option (α×β×γ))(f:α→β→γ→KR)(k:AV→List Zk→Eff→KR):Qg (Qg x f) k=Qg x fun a b c=>Qg (f a b c) k:=by cases x <;> rfl
theorem Zn6 (b:Bool)(x y:KR)(k:AV→List Zk→Eff→KR):Qg (Za3 b x y) k=Za3 b (Qg x k) (Qg y k):=by cases b <;> rfl
theorem Zjo (v:AV)(hp:List Zk)(ef:Eff)(k:AV→List Zk→Eff→KR):Qg (some (v,hp,ef)) k=k v hp ef:=rfl
theorem Zjn (k:AV→List Zk→Eff→KR):Qg none k=none:=rfl
theorem Zp7 {e:Env}{hp:List Zk}{ef:Eff}{op:AOp}{k:KV→Env→List Zk→Eff→KR} :
  Qg (opK G N bs P K e hp ef op fun v _ hp' ef'=>some (v.val,hp',ef')) (fun v hp' ef'=>k (.raw v) e hp' ef')=opK G N bs P K e hp ef op (fun v _ hp' ef'=>k (.raw v.val) e hp' ef'):=by
 cases op
 case mv x=>cases x <;> simp only [opK,mvK,Zl3,Zn6,Zjo,Zjn]
 all_goals simp only [opK,Zl3,Zrd,ZpA,ZpB,Zn6,Zjo,Zjn]
def Held (A:List (Nat×Bool))(sl:List AV):Prop:=∀ p ∈ A,sl[p.1]? = some (.bool p.2)
def Calm (A:List (Nat×Bool))(ops:List J9):Prop:=A≠[]→∀ o ∈ ops,OC o.op=false∧∀ p ∈ A,o.dst≠some p.1
theorem Zmv:∀ {A:List (Nat×Bool)} {t:Nat} {w:Bool},inA t w A=true→(t,w) ∈ A
 | [],t,w,h=>by cases h
 | (u,v) :: l,t,w,h=>by
  simp only [inA] at h
  cases hb:(Nat.beq u t && (v == w)) with
  | true =>
   rw [Bool.and_eq_true] at hb
   have:=Nat.eq_of_beq_eq_true hb.1
   have hv:v=w:=by simpa using hb.2
   subst this; subst hv
   exact .head _
  | false=>rw [hb] at h; exact .tail _ (Zmv h)
theorem Held.put {A:List (Nat×Bool)}{sl:List AV}(h:Held A sl){hp:List Zk}{ef:Eff}{bs:Nat}{d:Option Nat}(hd:∀ p ∈ A,d≠some p.1)(v:AV):Held A (Zv.put ⟨sl,hp,ef,bs⟩ d v).sl:=by
 cases d with
 | none=>exact h
 | some d =>
  intro p hp
  show (sl.set d v)[p.1]? = _
  rw [List.getElem?_set,if_neg (fun e=>hd p hp (by rw [e]))]
  exact h p hp
theorem Zra {A:List (Nat×Bool)}{o:J9}{e:Env}{sl:List AV}(he:Us N P e sl)(hA:Held A sl)(hc:Calm A [o]){hp:List Zk}{ef:Eff}{k:Kj}{r:AV×List Zk×Eff}(h:ZsS G N bs P K A o e hp ef k=some r) :
  ∃ (e':Env) (sl':List AV) (hp':List Zk) (ef':Eff),QF G K o ⟨sl,hp,ef,bs⟩=some ⟨sl',hp',ef',bs⟩∧Us N (rmO o.dst P) e' sl'∧Held A sl'∧k e' hp' ef'=some r:=by
 unfold ZsS at h
 have run:∀ {k':KV→Env→List Zk→Eff→KR} (hk:∀ v e' hp' ef',k' v e' hp' ef'=some r→∃ v',v'.val=v.val∧(Zmg v→Zmg v')∧k (e'.put o.dst v') hp' ef'=some r) (_:opK G N bs P K e hp ef o.op k'=some r) (_:GX ⟨sl,hp,ef,bs⟩ o.guard=some true),
   ∃ (e':Env) (sl':List AV) (hp':List Zk) (ef':Eff),QF G K o ⟨sl,hp,ef,bs⟩=some ⟨sl',hp',ef',bs⟩∧Us N (rmO o.dst P) e' sl'∧Held A sl'∧k e' hp' ef'=some r:=by
  intro k' hk h hw
  obtain ⟨v,e',sl',hp',ef',h1,h2,h3,h4⟩:=Zue he h
  obtain ⟨v',a1,a2,a3⟩:=hk _ _ _ _ h4
  refine ⟨e'.put o.dst v',(Zv.put ⟨sl',hp',ef',bs⟩ o.dst v'.val).sl,hp',ef',?_,h2.put o.dst (a2 h3),?_,a3⟩
  ·simp only [QF,hw,h1,a1]
   rw [put_eq]
  ·by_cases hn:A=[]
   ·subst hn; intro p hp; cases hp
   ·obtain ⟨c1,c2⟩:=hc hn o (.head _)
    have:sl'=sl:=Zlm (s := ⟨sl,hp,ef,bs⟩) (s':=⟨sl',hp',ef',bs⟩) c1 h1
    subst this
    exact hA.put c2 _
 have skip:∀ (v:KV) (_:Zmg v) (_:v.val=.undef) (_:k (e.put o.dst v) hp ef=some r) (_:GX ⟨sl,hp,ef,bs⟩ o.guard=some false),
   ∃ (e':Env) (sl':List AV) (hp':List Zk) (ef':Eff),QF G K o ⟨sl,hp,ef,bs⟩=some ⟨sl',hp',ef',bs⟩∧Us N (rmO o.dst P) e' sl'∧Held A sl'∧k e' hp' ef'=some r:=by
  intro v hv hu h hw
  refine ⟨e.put o.dst v,(Zv.put ⟨sl,hp,ef,bs⟩ o.dst v.val).sl,hp,ef,?_,he.put o.dst hv,?_,h⟩
  ·simp only [QF,hw,hu]
   rw [put_eq]
  ·by_cases hn:A=[]
   ·subst hn; intro p hp; cases hp
   ·exact hA.put (hc hn o (.head _)).2 _
 split at h
 ·rename_i hg
  exact run (fun v e' hp' ef' hk=>⟨v,rfl,fun a=>a,hk⟩) h (by rw [hg]; rfl)
 ·rename_i t want hg
  cases hi:inA t want A with
  | true =>
   rw [hi,ZbT] at h
   refine run (fun v e' hp' ef' hk=>⟨v,rfl,fun a=>a,hk⟩) h ?_
   rw [hg,ZgF rfl (hA _ (Zmv hi))]
   simp [ZaK]
  | false =>
   rw [hi,Zam] at h
   obtain ⟨h1,h⟩:=Rk h
   have hw:GX ⟨sl,hp,ef,bs⟩ o.guard=ZaK want (e t).val:=by rw [hg]; exact ZgF rfl (he.get h1)
   cases ht:OC o.op with
   | true =>
    rw [ht,ZbT] at h
    unfold ZrP at h
    split at h
    ·rename_i hb
     exact run (fun v e' hp' ef' hk=>⟨v,rfl,fun a=>a,hk⟩) h (hw.trans hb)
    ·rename_i hb
     exact skip (.cln .undef) rfl rfl h (hw.trans hb)
    ·cases h
   | false =>
    rw [ht,Zam] at h
    unfold ZaL at h
    split at h
    ·rename_i hb
     have h':=Zp7 (k := fun v e' hp' ef'=>k (e'.put o.dst v) hp' ef') ▸ h
     rw [← ZpD ht (k := fun v e' hp' ef'=>k (e'.put o.dst (.raw v.val)) hp' ef')] at h'
     exact run (fun v e' hp' ef' hk=>⟨.raw v.val,rfl,fun _=>rfl,hk⟩) h' (hw.trans hb)
    ·rename_i hb
     exact skip (.raw .undef) rfl rfl h (hw.trans hb)
    ·cases h
theorem ZaI {call:FuncId→List AV→List Zk→KR}:∀ (a b:List J9) (s:Zv),XH G call (a ++ b) s=(XH G call a s).bind (XH G call b)
 | [],b,s=>rfl
 | o :: l,b,s=>by
  simp only [List.cons_append,XH]
  cases QF G call o s with
  | none=>rfl
  | some s'=>exact ZaI l b s'
theorem Zlu {call:FuncId→List AV→List Zk→KR}{t:Nat}{want:Bool}{P:List Nat}:∀ (ops:List J9) (ds:List Nat) (sl:List AV) (hp:List Zk) (ef:Eff),sl[t]? = some (.bool (!want))→(∀ d ∈ ds,sl[d]? = some .undef)→sl.length=N →
  ∃ sl',XH G call (ops.take (Hq N t want P ds ops)) ⟨sl,hp,ef,bs⟩=some ⟨sl',hp,ef,bs⟩∧sl'.length=sl.length∧∀ j,j ∉ P→sl'[j]? = sl[j]?
 | [],ds,sl,hp,ef,_,_,_=>⟨sl,rfl,rfl,fun _ _=>rfl⟩
 | o :: l,ds,sl,hp,ef,h1,h2,h3=>by
  have stay:Hq N t want P ds (o :: l)=0→∃ sl',XH G call ((o :: l).take (Hq N t want P ds (o :: l))) ⟨sl,hp,ef,bs⟩=some ⟨sl',hp,ef,bs⟩∧sl'.length=sl.length∧∀ j,j ∉ P→sl'[j]? = sl[j]?:=by
   intro h0
   rw [h0]
   exact ⟨sl,rfl,rfl,fun _ _=>rfl⟩
  cases hg:o.guard with
  | none=>exact stay (by simp only [Hq,hg])
  | some uw =>
   obtain ⟨u,w⟩:=uw
   cases hd:o.dst with
   | none=>exact stay (by simp only [Hq,hg,hd])
   | some d =>
    cases hb:(((Nat.beq u t && (w == want)) || !LZ ds u) && !Nat.beq d t && !LZ P d && !OC o.op && Nat.blt d N) with
    | false=>exact stay (by simp only [Hq,hg,hd,hb])
    | true =>
     have hl:Hq N t want P ds (o :: l)=Hq N t want P (d :: ds) l + 1:=by simp only [Hq,hg,hd,hb]
     rw [hl,List.take_succ_cons]
     simp only [Bool.and_eq_true,Bool.or_eq_true,Bool.not_eq_true'] at hb
     obtain ⟨⟨⟨⟨b1,b2⟩,b3⟩,b4⟩,b5⟩:=hb
     have hdt:d≠t:=fun e=>by subst e; rw [Nat.beq_refl] at b2; cases b2
     have hdP:d ∈ P:=Classical.byContradiction fun hn=>by rw [DW.2 hn] at b3; cases b3
     have hw:GX ⟨sl,hp,ef,bs⟩ (some (u,w))=some false:=by
      rcases b1 with ⟨c1,c2⟩ | c1
      ·have:=Nat.eq_of_beq_eq_true c1
       have hw:w=want:=by simpa using c2
       subst this; subst hw
       simp [GX,h1]
      ·have:u ∈ ds:=Classical.byContradiction fun hn=>by rw [DW.2 hn] at c1; cases c1
       simp [GX,h2 u this]
     obtain ⟨sl',a1,a2,a3⟩:=Zlu l (d :: ds) (sl.set d .undef) hp ef (by rw [List.getElem?_set,if_neg hdt]; exact h1)
      (fun x hx=>by
       rw [List.getElem?_set]
       by_cases e:d=x
       ·subst e; simp [h3,show d < N from Nat.le_of_ble_eq_true b5]
       ·rw [if_neg e]
        rcases List.mem_cons.1 hx with e' | hx
        ·exact absurd e'.symm e
        ·exact h2 x hx)
      (by rw [List.length_set]; exact h3)
     refine ⟨sl',?_,by rw [a2,List.length_set],fun j hj=>?_⟩
     ·simp only [XH,QF,hg,hw,hd]
      exact a1
     ·rw [a3 j hj,List.getElem?_set,if_neg (fun (e:d=j)=>hj (e ▸ hdP))]
theorem Zji {t:Nat}{want:Bool}{P:List Nat}:∀ (ops:List J9) (ds:List Nat),∀ o ∈ ops.take (Hq N t want P ds ops),OC o.op=false∧o.dst≠some t∧∀ d,o.dst=some d→d ∈ P
 | [],ds,o,ho=>by cases ho
 | o :: l,ds,o',ho=>by
  cases hg:o.guard with
  | none=>rw [show Hq N t want P ds (o :: l)=0 by simp only [Hq,hg]] at ho; cases ho
  | some uw =>
   obtain ⟨u,w⟩:=uw
   cases hd:o.dst with
   | none=>rw [show Hq N t want P ds (o :: l)=0 by simp only [Hq,hg,hd]] at ho; cases ho
   | some d =>
    cases hb:(((Nat.beq u t && (w == want)) || !LZ ds u) && !Nat.beq d t && !LZ P d && !OC o.op && Nat.blt d N) with
    | false=>rw [show Hq N t want P ds (o :: l)=0 by simp only [Hq,hg,hd,hb]] at ho; cases ho
    | true =>
     rw [show Hq N t want P ds (o :: l)=Hq N t want P (d :: ds) l + 1 by simp only [Hq,hg,hd,hb],List.take_succ_cons] at ho
     simp only [Bool.and_eq_true,Bool.or_eq_true,Bool.not_eq_true'] at hb
     obtain ⟨⟨⟨⟨b1,b2⟩,b3⟩,b4⟩,b5⟩:=hb
     rcases List.mem_cons.1 ho with e | ho
     ·subst e
      refine ⟨b4,fun e=>?_,fun x hx=>?_⟩
      ·rw [hd] at e; cases e; rw [Nat.beq_refl] at b2; cases b2
      ·rw [hd] at hx; cases hx
       exact Classical.byContradiction fun hn=>by rw [DW.2 hn] at b3; cases b3
     ·exact Zji l (d :: ds) o' ho
theorem ZmB {call:FuncId→List AV→List Zk→KR}{P:List Nat}:∀ (ops:List J9) (s s':Zv),(∀ o ∈ ops,OC o.op=false∧∀ d,o.dst=some d→d ∈ P)→XH G call ops s=some s'→s'.sl.length=s.sl.length∧∀ j,j ∉ P→s'.sl[j]? = s.sl[j]?
 | [],s,s',_,h=>by cases h; exact ⟨rfl,fun _ _=>rfl⟩
 | o :: l,s,s',hc,h=>by
  simp only [XH] at h
  split at h
  ·rename_i s1 h1
   obtain ⟨a1,a2⟩:=ZmB l s1 s' (fun o ho=>hc o (.tail _ ho)) h
   have one:s1.sl.length=s.sl.length∧∀ j,j ∉ P→s1.sl[j]? = s.sl[j]?:=by
    obtain ⟨c1,c2⟩:=hc o (.head _)
    have putOff:∀ (s2:Zv) (v:AV),s2.sl=s.sl→(s2.put o.dst v).sl.length=s.sl.length∧∀ j,j ∉ P→(s2.put o.dst v).sl[j]? = s.sl[j]?:=by
     intro s2 v h2
     cases hd:o.dst with
     | none=>exact ⟨congrArg _ h2,fun _ _=>by show s2.sl[_]? = _; rw [h2]⟩
     | some d=>exact ⟨by show (s2.sl.set d v).length=_; rw [List.length_set,h2],fun j hj=>by show (s2.sl.set d v)[j]? = _; rw [List.getElem?_set,if_neg (fun (e:d=j)=>hj (e ▸ c2 d hd)),h2]⟩
    unfold QF at h1
    split at h1
    ·split at h1
     ·rename_i hev
      have e1:=Zlm c1 hev
      cases h1
      exact putOff _ _ e1
     ·cases h1
    ·cases h1
     exact putOff s _ rfl
    ·cases h1
   exact ⟨a1.trans one.1,fun j hj=>(a2 j hj).trans (one.2 j hj)⟩
  ·cases h
theorem ZqB {A:List (Nat×Bool)}{P:List Nat}{ops:List J9}{t:Nat}{want:Bool}{m:Nat}{d:Option Nat}{a b:V8}{rest:List J9}(h:Zpj N A P ops=some (t,want,m,d,a,b,rest)) :
  m=Hq N t want P [] ops∧t < N∧t ∉ P∧∃ g,ops.drop m=⟨d,.pick (.tmp t) a b,g⟩ :: rest∧(g=none∨∃ p ∈ A,g=some p):=by
 unfold Zpj at h
 split at h
 ·cases h
 ·rename_i o l
  split at h
  ·cases h
  ·rename_i t' want' hg
   cases hi:inA t' want' A with
   | true=>rw [hi,ZbT] at h; cases h
   | false =>
    rw [hi,Zam] at h
    split at h
    ·rename_i d' u a' b' rest' hd
     obtain ⟨h1,h2⟩:=Rk h
     simp only [Bool.and_eq_true] at h1
     obtain ⟨⟨⟨c1,c2⟩,c3⟩,c4⟩:=h1
     cases h2
     have:=Nat.eq_of_beq_eq_true c1
     subst this
     exact ⟨rfl,Nat.le_of_ble_eq_true c2,DW.1 c3,none,hd,.inl rfl⟩
    ·rename_i d' u a' b' gt gw rest' hd
     obtain ⟨h1,h2⟩:=Rk h
     simp only [Bool.and_eq_true] at h1
     obtain ⟨⟨⟨⟨c0,c1⟩,c2⟩,c3⟩,c4⟩:=h1
     cases h2
     have:=Nat.eq_of_beq_eq_true c1
     subst this
     exact ⟨rfl,Nat.le_of_ble_eq_true c2,DW.1 c3,some (gt,gw),hd,.inr ⟨_,Zmv c0,rfl⟩⟩
    ·cases h
theorem Zsj:∀ (c w:Bool),(c == w)=false→c=!w:=by decide
theorem Zkf:∀ (n:Nat) {A:List (Nat×Bool)} {P:List Nat} {ops:List J9} {e:Env} {sl:List AV} (_:Us N P e sl) (_:Held A sl) (_:Calm A ops) {hp:List Zk} {ef:Eff} {k:Kj} {r:AV×List Zk×Eff},Zoh G N bs K n A P ops k e hp ef=some r →
  ∃ (e':Env) (sl':List AV) (hp':List Zk) (ef':Eff),XH G K ops ⟨sl,hp,ef,bs⟩=some ⟨sl',hp',ef',bs⟩∧Us N (Zpd N n A P ops) e' sl'∧Held A sl'∧k e' hp' ef'=some r
 | 0,A,P,[],e,sl,he,hA,_,hp,ef,k,r,h=>⟨e,sl,hp,ef,rfl,he,hA,by simpa [Zoh] using h⟩
 | n + 1,A,P,[],e,sl,he,hA,_,hp,ef,k,r,h=>⟨e,sl,hp,ef,rfl,he,hA,by simpa [Zoh] using h⟩
 | 0,A,P,o :: l,e,sl,he,hA,_,hp,ef,k,r,h=>by simp [Zoh] at h
 | n + 1,A,P,o :: l,e,sl,he,hA,hc,hp,ef,k,r,h=>by
  cases hg:Zpj N A P (o :: l) with
  | some gg =>
   obtain ⟨t,want,m,d,a,b,rest⟩:=gg
   simp only [Zoh,hg] at h
   simp only [Zpd,hg]
   obtain ⟨hm,htN,htP,g,hdrop,hgd⟩:=ZqB hg
   have hsplit:o :: l=(o :: l).take m ++ ⟨d,.pick (.tmp t) a b,g⟩ :: rest:=by rw [← hdrop,List.take_append_drop]
   have hcalm:∀ o' ∈ (o :: l).take m,OC o'.op=false∧o'.dst≠some t∧∀ x,o'.dst=some x→x ∈ P:=by rw [hm]; exact Zji _ _
   have hcA:A≠[]→∀ p ∈ A,d≠some p.1:=fun hne p hp=>(hc hne ⟨d,.pick (.tmp t) a b,g⟩ (by rw [hsplit]; exact List.mem_append_right _ (.head _))).2 p hp
   have ht:sl[t]? = some (e t).val:=he.val t htN htP
   have behind:∀ (sl1:List AV) (hp1:List Zk) (ef1:Eff) (c:Bool) (v:AV),XH G K ((o :: l).take m) ⟨sl,hp,ef,bs⟩=some ⟨sl1,hp1,ef1,bs⟩→sl1.length=sl.length→(∀ j,j ∉ P→sl1[j]? = sl[j]?)→Held A sl1→sl1[t]? = some (.bool c) →
     opnd G sl1 (if c then a else b)=some v→Zoh G N bs K n A (rmO d P) rest k (e.put d (.raw v)) hp1 ef1=some r →
     ∃ (e':Env) (sl':List AV) (hp':List Zk) (ef':Eff),XH G K (o :: l) ⟨sl,hp,ef,bs⟩=some ⟨sl',hp',ef',bs⟩∧Us N (Zpd N n A (rmO d P) rest) e' sl'∧Held A sl'∧k e' hp' ef'=some r:=by
    intro sl1 hp1 ef1 c v h1 hlen hoff hA1 hc1 hv hk
    have he1:Us N P e sl1:=⟨hlen.trans he.len,fun j hj hn=>(hoff j hn).trans (he.val j hj hn),he.ok⟩
    have hput:=he1.put d (v := .raw v) (ZaM v) (hp := hp1) (ef := ef1) (bs := bs)
    have hA2:Held A (Zv.put ⟨sl1,hp1,ef1,bs⟩ d v).sl:=by
     by_cases hne:A=[]
     ·subst hne; intro p hp; cases hp
     ·exact hA1.put (hcA hne) v
    obtain ⟨e',sl',hp',ef',b1,b2,b3,b4⟩:=Zkf n hput hA2 (fun hne o' ho'=>hc hne o' (by rw [hsplit]; exact List.mem_append_right _ (.tail _ ho'))) hk
    refine ⟨e',sl',hp',ef',?_,b2,b3,b4⟩
    rw [hsplit,ZaI,h1]
    show XH G K (⟨d,.pick (.tmp t) a b,g⟩ :: rest) ⟨sl1,hp1,ef1,bs⟩=_
    have hw:GX ⟨sl1,hp1,ef1,bs⟩ g=some true:=by
     rcases hgd with e0 | ⟨p,hp,e0⟩
     ·subst e0; rfl
     ·subst e0
      obtain ⟨p1,p2⟩:=p
      rw [ZgF rfl (hA1 _ hp)]
      simp [ZaK]
    have hop:Zo G K ⟨sl1,hp1,ef1,bs⟩ (.pick (.tmp t) a b)=some (v,⟨sl1,hp1,ef1,bs⟩):=by
     have:opnd G sl1 (.tmp t)=some (.bool c):=by simp only [Abs.opnd,hc1,Option.map_some]; rfl
     cases c with
     | true=>simp only [if_true] at hv; simp only [Zo,this,hv,Option.map_some]
     | false=>simp only [Bool.false_eq_true,if_false] at hv; simp only [Zo,this,hv,Option.map_some]
    simp only [XH,QF,hw,hop]
    rw [put_eq]
    exact b1
   unfold Uq at h
   split at h
   ·rename_i c hcv
    rw [hcv] at ht
    split at h
    ·rename_i hcw
     have hcw:c=want:=by simpa using hcw
     subst hcw
     obtain ⟨v,hp1,ef1,h1,h2⟩:=CU h
     have hA':Held ((t,c) :: A) sl:=by
      intro p hp
      rcases List.mem_cons.1 hp with e0 | hp
      ·subst e0; exact ht
      ·exact hA p hp
     have hc':Calm ((t,c) :: A) ((o :: l).take m):=by
      intro _ o' ho'
      obtain ⟨q1,q2,q3⟩:=hcalm o' ho'
      refine ⟨q1,fun p hp=>?_⟩
      rcases List.mem_cons.1 hp with e0 | hp
      ·subst e0; exact q2
      ·exact (hc (by intro h0; subst h0; cases hp) o' (by rw [hsplit]; exact List.mem_append_left _ ho')).2 p hp
     obtain ⟨e1,sl1,hp2,ef2,b1,b2,b3,b4⟩:=Zkf n he hA' hc' h1
     obtain ⟨v',g1,g2⟩:=YN b4
     cases g2
     obtain ⟨o1,o2⟩:=ZmB (P := P) _ _ _ (fun o' ho'=>⟨(hcalm o' ho').1,(hcalm o' ho').2.2⟩) b1
     refine behind sl1 _ _ c _ b1 o1 o2 (fun p hp=>b3 p (.tail _ hp)) (b3 _ (.head _)) ?_ h2
     have:=b2.opnd g1
     cases c <;> exact this
    ·rename_i hcw
     have hcw:c=!want:=Zsj _ _ hcw
     subst hcw
     obtain ⟨v,h1,h2⟩:=Vd h
     obtain ⟨sl1,b1,b2,b3⟩:=Zlu (G := G) (N := N) (bs := bs) (call := K) (P := P) (t := t) (want := want) (o :: l) [] sl hp ef ht (fun _ hx=>by cases hx) he.len
     rw [← hm] at b1
     have he1:Us N P e sl1:=⟨b2.trans he.len,fun j hj hn=>(b3 j hn).trans (he.val j hj hn),he.ok⟩
     have hA1:Held A sl1:=by
      by_cases hne:A=[]
      ·subst hne; intro p hp; cases hp
      ·have hall:∀ o' ∈ (o :: l).take m,∀ p ∈ A,o'.dst≠some p.1:=fun o' ho' p hp=>(hc hne o' (by rw [hsplit]; exact List.mem_append_left _ ho')).2 p hp
       intro p hp
       have:=ZmB (G := G) (call := K) (P := ((o :: l).take m).filterMap (·.dst)) _ _ _ (fun o' ho'=>⟨(hcalm o' ho').1,fun x hx=>List.mem_filterMap.2 ⟨o',ho',hx⟩⟩) b1
       rw [this.2 p.1 (fun hmem=>by obtain ⟨o',ho',hx⟩:=List.mem_filterMap.1 hmem; exact hall o' ho' p hp hx)]
       exact hA p hp
     refine behind sl1 _ _ (!want) _ b1 b2 b3 hA1 (by rw [b3 t htP]; exact ht) ?_ h2
     have:=he1.opnd h1
     cases want <;> exact this
   ·cases h
  | none =>
   simp only [Zoh,hg] at h
   simp only [Zpd,hg]
   obtain ⟨e1,sl1,hp1,ef1,h1,h2,h3,h4⟩:=Zra he hA (fun hne o' ho'=>hc hne o' (by rcases List.mem_cons.1 ho' with e0 | e0; (subst e0; exact .head _); cases e0)) h
   obtain ⟨e2,sl2,hp2,ef2,g1,g2,g3,g4⟩:=Zkf n h2 h3 (fun hne o' ho'=>hc hne o' (.tail _ ho')) h4
   exact ⟨e2,sl2,hp2,ef2,by simp only [XH,h1,g1],g2,g3,g4⟩
theorem Zpu {P:List Nat}{d:Option Nat}{t:Nat}(h:t ∈ rmO d P):t ∈ P:=by
 cases d with
 | none=>exact h
 | some d=>exact (Znu.1 h).1
theorem ZjW:∀ (n:Nat) {A:List (Nat×Bool)} {P:List Nat} {ops:List J9} {t:Nat},t ∈ Zpd N n A P ops→t ∈ P
 | 0,A,P,ops,t,h=>by simpa [Zpd] using h
 | n + 1,A,P,[],t,h=>by simpa [Zpd] using h
 | n + 1,A,P,o :: l,t,h=>by
  unfold Zpd at h
  split at h
  ·exact Zpu (ZjW n h)
  ·exact Zpu (ZjW n h)
theorem Zn4 {P:List Nat}{ops:List J9}{e:Env}{sl:List AV}(he:Us N P e sl){hp:List Zk}{ef:Eff}{k:Kj}{r:AV×List Zk×Eff}(h:Zoh G N bs K ops.length [] P ops k e hp ef=some r) :
  Zqr N bs P (XH G K ops ⟨sl,hp,ef,bs⟩) k r:=by
 obtain ⟨e',sl',hp',ef',h1,h2,_,h4⟩:=Zkf ops.length he (fun p hp=>by cases hp) (fun hne=>absurd rfl hne) h
 exact ⟨e',sl',hp',ef',h1,h2.mono fun t ht=>ZjW _ ht,h4⟩
def Goes (N bs:Nat)(P:List Nat)(x:Option (AQ×Zv))(n rt:Kj)(xs:List (Nat×Kj))(r:AV×List Zk×Eff):Prop :=
 ∃ (ex:AQ) (e':Env) (sl':List AV) (hp':List Zk) (ef':Eff),x=some (ex,⟨sl',hp',ef',bs⟩)∧Us N P e' sl'∧match ex with
  | .normal=>n e' hp' ef'=some r
  | .ret=>rt e' hp' ef'=some r
  | .exit i=>ZqK i xs e' hp' ef'=some r
variable {L:Nat}
theorem Yh (a b:Zn)(n r:Kj)(xs:List (Nat×Kj)):Z9 G N bs K P L (.seq a b) n r xs=Z9 G N bs K P L a (Z9 G N bs K P L b n r xs) r xs:=rfl
theorem ZB (id:Nat)(c:Zn)(n r:Kj)(xs:List (Nat×Kj)):Z9 G N bs K P L (.block id c) n r xs=Z9 G N bs K P L c n r ((id,n) :: xs):=rfl
theorem ZC (c:Zn)(n r:Kj)(xs:List (Nat×Kj)):Z9 G N bs K P L (.scope c) n r xs=Z9 G N bs K P L c n r xs:=rfl
theorem ZX (c:V8)(a b:Zn)(n r:Kj)(xs:List (Nat×Kj)):Z9 G N bs K P L (.cond c a b) n r xs=fun e hp ef=>rdK (Kn G N P e c) fun v=>ifK v (Z9 G N bs K P L a n r xs e hp ef) (Z9 G N bs K P L b n r xs e hp ef):=rfl
theorem Pw:∀ (c:Zn) {n rt:Kj} {xs:List (Nat×Kj)} {e:Env} {sl:List AV} (_:Us N P e sl) {hp:List Zk} {ef:Eff} {r:AV×List Zk×Eff},Z9 G N bs K P L c n rt xs e hp ef=some r →
  Goes N bs P (Q3 G K L c ⟨sl,hp,ef,bs⟩) n rt xs r
 | .skip,n,rt,xs,e,sl,he,hp,ef,r,h=>⟨.normal,e,sl,hp,ef,rfl,he,h⟩
 | .region false ops,n,rt,xs,e,sl,he,hp,ef,r,h=>by
  obtain ⟨e',sl',hp',ef',h1,h2,h3⟩:=Zn4 he h
  exact ⟨.normal,e',sl',hp',ef',by simp only [Q3,h1,Option.map_some],h2,h3⟩
 | .region true ops,n,rt,xs,e,sl,he,hp,ef,r,h=>by
  obtain ⟨e',sl',hp',ef',h1,h2,h3⟩:=Zn4 he h
  exact ⟨.normal,e',sl',hp',ef',by simp only [Q3,h1,Option.map_some],h2,h3⟩
 | .seq a b,n,rt,xs,e,sl,he,hp,ef,r,h=>by
  obtain ⟨ex,e',sl',hp',ef',h1,h2,h3⟩:=Pw a he h
  cases ex with
  | normal =>
   obtain ⟨ex,e2,sl2,hp2,ef2,g1,g2,g3⟩:=Pw b h2 h3
   exact ⟨ex,e2,sl2,hp2,ef2,by simp only [Q3,h1,g1],g2,g3⟩
  | ret=>exact ⟨.ret,e',sl',hp',ef',by simp only [Q3,h1],h2,h3⟩
  | exit i=>exact ⟨.exit i,e',sl',hp',ef',by simp only [Q3,h1],h2,h3⟩
 | .cond c a b,n,rt,xs,e,sl,he,hp,ef,r,h=>by
  obtain ⟨v,h1,h2⟩:=YN (show rdK (Kn G N P e c) (fun v=>ifK v (Z9 G N bs K P L a n rt xs e hp ef) (Z9 G N bs K P L b n rt xs e hp ef))=some r from h)
  unfold ifK at h2
  split at h2
  ·obtain ⟨ex,e',sl',hp',ef',g1,g2,g3⟩:=Pw a he h2
   exact ⟨ex,e',sl',hp',ef',by simp only [Q3,he.opnd h1,g1],g2,g3⟩
  ·obtain ⟨ex,e',sl',hp',ef',g1,g2,g3⟩:=Pw b he h2
   exact ⟨ex,e',sl',hp',ef',by simp only [Q3,he.opnd h1,g1],g2,g3⟩
  ·cases h2
 | .block id c,n,rt,xs,e,sl,he,hp,ef,r,h=>by
  obtain ⟨ex,e',sl',hp',ef',h1,h2,h3⟩:=Pw c he h
  cases ex with
  | normal=>exact ⟨.normal,e',sl',hp',ef',by simp only [Q3,h1],h2,h3⟩
  | ret=>exact ⟨.ret,e',sl',hp',ef',by simp only [Q3,h1],h2,h3⟩
  | exit i =>
   simp only [ZqK] at h3
   by_cases hi:i=id
   ·subst hi
    rw [Nat.beq_refl,ZbT] at h3
    exact ⟨.normal,e',sl',hp',ef',by simp only [Q3,h1,if_true],h2,h3⟩
   ·have:Nat.beq id i=false:=by cases hb:Nat.beq id i with | false=>rfl | true=>exact absurd (Nat.eq_of_beq_eq_true hb).symm hi
    rw [this,Zam] at h3
    exact ⟨.exit i,e',sl',hp',ef',by simp only [Q3,h1,if_neg hi],h2,h3⟩
 | .loop c,n,rt,xs,e,sl,he,hp,ef,r,h=>by
  have go:∀ (m:Nat) {e:Env} {sl:List AV} (_:Us N P e sl) {hp:List Zk} {ef:Eff},VW (fun n'=>Z9 G N bs K P L c n' rt xs) m e hp ef=some r →
    Goes N bs P (iter (Q3 G K L c) m ⟨sl,hp,ef,bs⟩) n rt xs r:=by
   intro m
   induction m with
   | zero=>intro e sl he hp ef h; cases h
   | succ m ih =>
    intro e sl he hp ef h
    obtain ⟨ex,e',sl',hp',ef',h1,h2,h3⟩:=Pw c he (show Z9 G N bs K P L c (VW (fun n'=>Z9 G N bs K P L c n' rt xs) m) rt xs e hp ef=some r from h)
    cases ex with
    | normal =>
     obtain ⟨ex,e2,sl2,hp2,ef2,g1,g2,g3⟩:=ih h2 h3
     exact ⟨ex,e2,sl2,hp2,ef2,by simp only [iter,h1,g1],g2,g3⟩
    | ret=>exact ⟨.ret,e',sl',hp',ef',by simp only [iter,h1],h2,h3⟩
    | exit i=>exact ⟨.exit i,e',sl',hp',ef',by simp only [iter,h1],h2,h3⟩
  exact go L he h
 | .scope c,n,rt,xs,e,sl,he,hp,ef,r,h=>Pw c he h
 | .exit id,n,rt,xs,e,sl,he,hp,ef,r,h=>⟨.exit id,e,sl,hp,ef,rfl,he,h⟩
 | .ret,n,rt,xs,e,sl,he,hp,ef,r,h=>⟨.ret,e,sl,hp,ef,rfl,he,h⟩
 | .bad,n,rt,xs,e,sl,he,hp,ef,r,h=>by cases h
end
theorem ZpR {e:Env}{N:Nat}{P:List Nat}{sl:List AV}(he:Us N P e sl){hp:List Zk}{ef:Eff}{bs:Nat}{r:Zmf}{v:AV}(h:Zu6 e N P hp r=some v):Ze5 ⟨sl,hp,ef,bs⟩ r=some v:=by
 cases r <;> simp only [Zu6] at h <;> obtain ⟨h1,h2⟩:=Rk h
 ·cases h2; exact he.get h1
 ·simp only [Ze5,he.get h1,h2]
 ·simp only [Ze5,he.get h1,h2]
theorem ZnF {e:Env}{N:Nat}{P:List Nat}{sl:List AV}(he:Us N P e sl){hp:List Zk}{ef:Eff}{bs:Nat}:∀ {rs:List Zmf} {k:List AV→KR} {q:AV×List Zk×Eff},Zr5 e N P hp rs k=some q→∃ vs,Zac ⟨sl,hp,ef,bs⟩ rs=some vs∧k vs=some q
 | [],k,q,h=>⟨[],rfl,h⟩
 | r :: l,k,q,h=>by
  simp only [Zr5] at h
  obtain ⟨v,hv,h⟩:=YN h
  obtain ⟨vs,hvs,h⟩:=ZnF (ef := ef) (bs := bs) he h
  exact ⟨v.nm :: vs,by simp only [Zac,ZpR he hv,hvs],h⟩
theorem Zox {e:Env}{N:Nat}{P:List Nat}{sl:List AV}(he:Us N P e sl){hp:List Zk}{ef:Eff}{bs:Nat}{rs:List Zmf}{k:AV→KR}{q:AV×List Zk×Eff}(h:ZmV e N P hp rs k=some q):∃ v,BC ⟨sl,hp,ef,bs⟩ rs=some v∧k v=some q:=by
 unfold ZmV at h
 split at h
 ·obtain ⟨v,hv,h⟩:=YN h
  exact ⟨v,ZpR he hv,h⟩
 ·rename_i hne
  obtain ⟨vs,hvs,h⟩:=ZnF (ef := ef) (bs := bs) he h
  refine ⟨_,?_,h⟩
  unfold BC
  split
  ·exact absurd rfl (hne _)
  ·rw [hvs]; rfl
theorem Zj1:∀ (args:List AV) (t:Nat),Df args t=.raw (args.getD t .undef)
 | [],t=>by simp [Df]
 | v :: l,0=>rfl
 | v :: l,t + 1=>by
  show Df l t=_
  rw [Zj1 l t]
  rfl
theorem Zsh {args:List AV}{N:Nat}{P:List Nat}(h:args.length≤N):Us N P (Df args) (args ++ List.replicate (N - args.length) .undef):=by
 refine ⟨by simp; omega,fun t ht _=>?_,fun t=>by rw [Zj1]; rfl⟩
 rw [Zj1,List.getD_eq_getElem?_getD]
 by_cases h1:t < args.length
 ·rw [List.getElem?_append_left h1]; simp [h1,KV.val]
 ·rw [List.getElem?_append_right (by omega),List.getElem?_replicate]
  simp [show t - args.length < N - args.length by omega,show args[t]? = none from List.getElem?_eq_none (by omega),KV.val]
theorem ZtH {C:Cfg}{P:List Nat}{f:FuncId}{fn:AFn}(hT:C.T f=some fn){n:Nat}{args:List AV}{hp:List Zk}{r:AV×List Zk×Eff}(hl:args.length≤fn.ntmps)(h:fnK C.G (Za C n) P C.L fn args hp=some r) :
  Za C (n + 1) f args hp=some r:=by
 obtain ⟨ex,e',sl',hp',ef',h1,h2,h3⟩:=Pw fn.code (Zsh hl) h
 have hret:∀ (_:Y5 P fn hp e' hp' ef'=some r),∃ v,BC ⟨sl',hp',ef',hp.length⟩ fn.results=some v∧(if fn.keep then (v.nm,hp',ef') else finish v ⟨sl',hp',ef',hp.length⟩ hp)=r:=by
  intro h
  obtain ⟨v,a1,a2⟩:=Zox h2 h
  refine ⟨v,a1,?_⟩
  cases a2
  unfold Z6
  cases fn.keep <;> rfl
 rw [Za]
 simp only [hT,h1]
 cases ex with
 | normal =>
  obtain ⟨v,a1,a2⟩:=hret h3
  simp only [a1,a2]
 | ret =>
  obtain ⟨v,a1,a2⟩:=hret h3
  simp only [a1,a2]
 | exit i=>cases h3
end Go.Proofs.YtlmfmmclnboglaaGreat.Abs
end
section
namespace Go.Proofs.YtlmfmmclnboglaaGreat.Abs
open Go
theorem Wm {α:Type}(v:α)(k:α→KR):Zc (some v) k=k v:=rfl
theorem Wj {α β:Type}(a:α)(b:β)(k:α→β→KR):GQ (some (a,b)) k=k a b:=rfl
theorem Wl {α β γ:Type}(a:α)(b:β)(c:γ)(k:α→β→γ→KR):Qg (some (a,b,c)) k=k a b c:=rfl
theorem Xo (b:Bool)(x y:KR):ifK (.bool b) x y=if b=true then x else y:=by cases b <;> rfl
theorem ZN (x:KR)(hp:List Zk)(ef:Eff)(k:AV→List Zk→Eff→KR):ZaL (some true) x hp ef k=Qg x k:=rfl
theorem ZM (x:KR)(hp:List Zk)(ef:Eff)(k:AV→List Zk→Eff→KR):ZaL (some false) x hp ef k=k .undef hp ef:=rfl
theorem Zz (b:Bool):ZaK true (.bool b)=some b:=by cases b <;> rfl
theorem Zy (b:Bool):ZaK false (.bool b)=some (!b):=by cases b <;> rfl
theorem Yq (a b:AV):ZiC (.bool true) a b=some a:=rfl
theorem Yp (a b:AV):ZiC (.bool false) a b=some b:=rfl
theorem YX {α:Type}(x:α)(k:α→KR):JE x k=k x:=rfl
theorem Yr (b:Bool):AV.ro (.bool b)=.bool b:=rfl
theorem Ws (k:IntKind)(n:Int):AV.ro (.int k n)=.int k n:=rfl
theorem Wy (s:List UInt8):AV.ro (.str s)=.str s:=rfl
theorem Wt (k:Nat)(r:List (List AV)):AV.ro (.lst k r)=.lst k r:=rfl
theorem Wv (k:Nat)(r:List (List AV)):AV.ro (.own k r)=.lst k r:=rfl
theorem Wp (c:List AV):AV.ro (.agg c)=.agg c:=rfl
theorem Wz (c:List AV):AV.ro (.tup c)=.tup c:=rfl
theorem Ww (g o:Nat):AV.ro (.ptr g o)=.ptr g o:=rfl
theorem Wu (g:Nat):AV.ro (.map g)=.map g:=rfl
theorem Wx (c:List AV):AV.ro (.ref c)=.ref c:=rfl
theorem Xw (f:FuncId)(a c:List AV):AV.ro (.fn f a c)=.fn f a c:=rfl
theorem ZR:AV.ro .undef=.undef:=rfl
theorem Yo (b:Bool):AV.nm (.bool b)=.bool b:=rfl
theorem YY (k:IntKind)(n:Int):AV.nm (.int k n)=.int k n:=rfl
theorem Wi (s:List UInt8):AV.nm (.str s)=.str s:=rfl
theorem YZ (k:Nat)(r:List (List AV)):AV.nm (.lst k r)=.lst k r:=rfl
theorem We (k:Nat)(r:List (List AV)):AV.nm (.own k r)=.lst k r:=rfl
theorem Y4 (c:List AV):AV.nm (.agg c)=.agg (c.map AV.ro):=rfl
theorem Wh (g o:Nat):AV.nm (.ptr g o)=.ptr g o:=rfl
theorem Wd (g:Nat):AV.nm (.map g)=.map g:=rfl
theorem Xr (f:FuncId)(a c:List AV):AV.nm (.fn f a c)=.fn f a c:=rfl
theorem ZoR (c:List AV):AV.cells (.agg c)=c:=rfl
theorem ZtE (op:BinOp)(a b:List UInt8):Zd op .prim (.str a) (.str b)=ZlZ op a b:=rfl
theorem Xe (k:IntKind)(a b:Int):Zd .add .prim (.int k a) (.int k b)=some (.int k (k.wrap (a + b))):=by simp [Zd,DR,P7]
theorem Xk (k:IntKind)(a b:Int):Zd .sub .prim (.int k a) (.int k b)=some (.int k (k.wrap (a - b))):=by simp [Zd,DR,P7]
theorem Xh (k:IntKind)(a b:Int):Zd .mul .prim (.int k a) (.int k b)=some (.int k (k.wrap (a * b))):=by simp [Zd,DR,P7]
theorem Gz (k:IntKind)(a b:Int):Zd .eql .prim (.int k a) (.int k b)=some (.bool (decide (a=b))):=by
 simp only [Zd,DR,P7,Bool.false_eq_true,if_false,if_true]; congr 2
theorem G9 (k:IntKind)(a b:Int):Zd .neq .prim (.int k a) (.int k b)=some (.bool (decide (a≠b))):=by
 simp only [Zd,DR,P7,Bool.false_eq_true,if_false,if_true]
 by_cases h:a=b <;> simp [h]
theorem G8 (k:IntKind)(a b:Int):Zd .lss .prim (.int k a) (.int k b)=some (.bool (decide (a < b))):=by simp [Zd,DR,P7]
theorem G7 (k:IntKind)(a b:Int):Zd .leq .prim (.int k a) (.int k b)=some (.bool (decide (a≤b))):=by simp [Zd,DR,P7]
theorem G6 (k:IntKind)(a b:Int):Zd .gtr .prim (.int k a) (.int k b)=some (.bool (decide (b < a))):=by simp [Zd,DR,P7]
theorem G5 (k:IntKind)(a b:Int):Zd .geq .prim (.int k a) (.int k b)=some (.bool (decide (b≤a))):=by simp [Zd,DR,P7]
theorem GU (a b:List UInt8):Zd .eql .prim (.str a) (.str b)=some (.bool (decide (a=b))):=by
 rw [ZtE,ZlZ]; congr 2
 by_cases h:a=b <;> simp [h]
theorem GV (a b:List UInt8):Zd .neq .prim (.str a) (.str b)=some (.bool (decide (a≠b))):=by
 rw [ZtE,ZlZ]; congr 2
 by_cases h:a=b <;> simp [h]
theorem Xy (b:Bool):JG .not (.bool b)=some (.bool (!b)):=rfl
theorem Xx (k:IntKind)(n:Int):JG .neg (.int k n)=some (.int k (k.wrap (0 - n))):=rfl
theorem Xq (hp:List Zk)(s:List UInt8):Yy hp .str (.str s)=some (.int .i64 s.length):=rfl
theorem Xp (hp:List Zk)(k:Nat)(r:List (List AV)):Yy hp .slice (.lst k r)=some (.int .i64 r.length):=rfl
theorem Xl (hp:List Zk)(k k':IntKind)(n:Int):Dt hp (.int k) (.int k' n)=some (.int k (k.wrap n)):=rfl
theorem Xz (l:List AV)(i:Nat):Jk (.tup l) i=(l[i]?).map AV.ro:=rfl
theorem Zm (bs:Nat)(ef:Eff):Ze bs ef none=ef:=rfl
theorem ZI (hp0:List Zk)(b:Bool)(hp:List Zk):Z6 false hp0 (.bool b) hp none=(.bool b,hp0,none):=rfl
theorem Yi (hp0:List Zk)(k:IntKind)(n:Int)(hp:List Zk):Z6 false hp0 (.int k n) hp none=(.int k n,hp0,none):=rfl
theorem Yl (hp0:List Zk)(s:List UInt8)(hp:List Zk):Z6 false hp0 (.str s) hp none=(.str s,hp0,none):=rfl
theorem Yj (hp0:List Zk)(k:Nat)(r:List (List AV))(hp:List Zk):Z6 false hp0 (.lst k r) hp none=(.lst k r,hp0,none):=rfl
theorem Yk (hp0:List Zk)(k:Nat)(r:List (List AV))(hp:List Zk):Z6 false hp0 (.own k r) hp none=(.own k r,hp0,none):=rfl
theorem Zs1 {hp0:List Zk}{v v':AV}{hp:List Zk}(h:frz hp0.length hp v=some v'):Z6 false hp0 v hp none=(v',hp0,none):=by
 show finish v ⟨[],hp,none,hp0.length⟩ hp0=_
 simp only [finish,h]
theorem Zs2 (bs:Nat)(hp:List Zk)(l:List AV):frz bs hp (.tup l)=(l.mapM (ZdW bs hp)).map .tup:=by rw [frz]
theorem ZJ (bs:Nat)(hp:List Zk)(k:IntKind)(n:Int):ZdW bs hp (.int k n)=some (.int k n):=rfl
theorem ZL (bs:Nat)(hp:List Zk)(s:List UInt8):ZdW bs hp (.str s)=some (.str s):=rfl
theorem Zx (bs:Nat)(hp:List Zk)(b:Bool):ZdW bs hp (.bool b)=some (.bool b):=rfl
theorem ZK (bs:Nat)(hp:List Zk)(k:Nat)(r:List (List AV)):ZdW bs hp (.lst k r)=some (.lst k r):=rfl
theorem Yg (hp0:List Zk)(l:List AV)(hp:List Zk):Z6 false hp0 (.tup l) hp none=match l.mapM (ZdW hp0.length hp) with
  | some l'=>(.tup l',hp0,none)
  | none=>(.tup l,hp,none):=by
 show finish (.tup l) ⟨[],hp,none,hp0.length⟩ hp0=_
 simp only [finish,Zs2]
 cases l.mapM (ZdW hp0.length hp) <;> rfl
theorem ZY (h:List Zk)(x:Zk):(h ++ [x])[h.length]? = some x:=by simp
theorem Zfx (h:List Zk)(x y:Zk):(h ++ [x]).set h.length y=h ++ [y]:=by simp
theorem Zmu (s:List UInt8)(i:Nat)(h:i < s.length):Sz (.str s) (.int .i64 i)=some (.int .u8 s[i].toNat):=by
 simp [Sz,h]
theorem Xt (ks:List CK)(k:IntKind)(x y:Int)(l m:List AV):VK (.int :: ks) (.int k x :: l) (.int k y :: m)=if x=y then VK ks l m else some false:=by
 by_cases h:x=y
 ·subst h; simp [VK,Uo]
 ·have:(x == y)=false:=by simpa using h
  simp [VK,Uo,h,this]
theorem Xv (ks:List CK)(x y:List UInt8)(l m:List AV):VK (.str :: ks) (.str x :: l) (.str y :: m)=if x=y then VK ks l m else some false:=by
 by_cases h:x=y
 ·subst h; simp [VK,Uo]
 ·have:(x == y)=false:=by simpa using h
  simp [VK,Uo,h,this]
theorem Wo (ks:List CK)(x y:Bool)(l m:List AV):VK (.bool :: ks) (.bool x :: l) (.bool y :: m)=if x=y then VK ks l m else some false:=by
 cases x <;> cases y <;> simp [VK,Uo]
theorem Xu:VK [] [] []=some true:=rfl
theorem GR (p:Prop)[Decidable p](b:Bool):(if p then some b else some false)=some (decide p && b):=by by_cases h:p <;> simp [h]
theorem Xg (ks:List CK)(a b:List AV):Zd .eql (.struct ks) (.agg a) (.agg b)=(VK ks a b).map .bool:=rfl
theorem Xj (ks:List CK)(a b:List AV):Zd .neq (.struct ks) (.agg a) (.agg b)=(VK ks a b).map fun b=>.bool (!b):=rfl
theorem Xf (a b:Bool):Zd .eql .bool (.bool a) (.bool b)=some (.bool (a == b)):=rfl
theorem Xi (a b:Bool):Zd .neq .bool (.bool a) (.bool b)=some (.bool (!(a == b))):=rfl
def gif (b:Bool)(v:AV):AV:=if b=true then v else .undef
theorem Xn (v:AV):gif true v=v:=rfl
theorem Zg (b:Bool)(v:AV)(hp:List Zk)(ef:Eff)(k:AV→List Zk→Eff→KR):ZaL (some b) (some (v,hp,ef)) hp ef k=k (gif b v) hp ef:=by cases b <;> rfl
theorem Wq (b:Bool)(v:AV):AV.ro (gif b v)=gif b (AV.ro v):=by cases b <;> rfl
theorem ZP (b c:Bool):ZiC (.bool b) (gif b (.bool c)) (.bool false)=some (.bool (b && c)):=by cases b <;> rfl
theorem ZQ (b c:Bool):ZiC (.bool b) (.bool true) (gif (!b) (.bool c))=some (.bool (b || c)):=by cases b <;> rfl
theorem Ym (b c:Bool)(hp:List Zk)(ef:Eff)(k:AV→List Zk→Eff→KR):Uq (.bool b) true (some (.bool c,hp,ef)) (some (.bool false)) hp ef k=k (.bool (b && c)) hp ef:=by cases b <;> rfl
theorem YU (b c:Bool)(hp:List Zk)(ef:Eff)(k:AV→List Zk→Eff→KR):Uq (.bool b) false (some (.bool c,hp,ef)) (some (.bool true)) hp ef k=k (.bool (b || c)) hp ef:=by cases b <;> rfl
theorem YW (x:KR)(o:Option AV)(hp:List Zk)(ef:Eff)(k:AV→List Zk→Eff→KR):Uq (.bool true) true x o hp ef k=Qg x k:=rfl
theorem YT (x:KR)(v:AV)(hp:List Zk)(ef:Eff)(k:AV→List Zk→Eff→KR):Uq (.bool false) true x (some v) hp ef k=k v hp ef:=rfl
theorem YV (x:KR)(v:AV)(hp:List Zk)(ef:Eff)(k:AV→List Zk→Eff→KR):Uq (.bool true) false x (some v) hp ef k=k v hp ef:=rfl
theorem YS (x:KR)(o:Option AV)(hp:List Zk)(ef:Eff)(k:AV→List Zk→Eff→KR):Uq (.bool false) false x o hp ef k=Qg x k:=rfl
@[congr] theorem Zt1 {c c':AV}{w:Bool}{x x':KR}{o:Option AV}{hp:List Zk}{ef:Eff}{k:AV→List Zk→Eff→KR}(hc:c=c')(hx:x=x'):Uq c w x o hp ef k=Uq c' w x' o hp ef k:=by rw [hc,hx]
@[congr] theorem ZrO {b b':Bool}{x x':KR}{hp:List Zk}{ef:Eff}{k:AV→List Zk→Eff→KR}(hb:b=b')(hx:b'=true→x=x'):ZaL (some b) x hp ef k=ZaL (some b') x' hp ef k:=by
 subst hb
 cases b with
 | false=>rfl
 | true=>rw [hx rfl]
@[congr] theorem Zt8 {α:Type}{x x':Option α}{k:α→KR}(h:x=x'):Zc x k=Zc x' k:=by rw [h]
@[congr] theorem Zt6 {α β:Type}{x x':Option (α×β)}{k:α→β→KR}(h:x=x'):GQ x k=GQ x' k:=by rw [h]
@[congr] theorem Zt7 {α β γ:Type}{x x':Option (α×β×γ)}{k:α→β→γ→KR}(h:x=x'):Qg x k=Qg x' k:=by rw [h]
@[congr] theorem Zt2 {α:Type}{x x':α}{k:α→KR}(h:x=x'):JE x k=JE x' k:=by rw [h]
@[congr] theorem ZtJ {x x':AV}{a b:KR}(h:x=x'):ifK x a b=ifK x' a b:=by rw [h]
theorem ZrC (bs n:Nat)(h:List Zk)(cs:List AV)(t:TypeId)(o:Nat)(v:AV)(ef:Eff)(h1:v.cells.length=n)(h2:o + n≤cs.length)(h3:v.laid=true)(h4:bs≤h.length) :
  stV bs n (.ptr h.length o) v (h ++ [.cells cs t]) ef=some (h ++ [.cells (splice cs o v.cells) t],ef):=by
 simp only [stV,ZY,h1,h2,h3,and_self,if_true,Zfx,SE]
 rw [if_neg (by omega)]
theorem Znq (n:Nat)(h:List Zk)(cs:List AV)(t:TypeId)(o:Nat)(h1:o + n≤cs.length):Z8 (h ++ [.cells cs t]) n (.ptr h.length o)=some (.agg (((cs.drop o).take n).map AV.ro)):=by
 simp only [Z8,ZY,h1,if_true]
theorem EF (h:List Zk)(cs:List AV)(t:TypeId)(o:Nat):Zf (h ++ [.cells cs t]) (.ptr h.length o)=(cs[o]?).map AV.ro:=by
 simp only [Zf,ZY]
theorem XF {hp:List Zk}{g:Nat}{cs:List AV}{t:TypeId}(h:hp[g]? = some (.cells cs t))(o:Nat):Zf hp (.ptr g o)=(cs[o]?).map AV.ro:=by
 simp only [Zf,h]
theorem CR {hp:List Zk}{g:Nat}{cs:List AV}{t:TypeId}(h:hp[g]? = some (.cells cs t))(n o:Nat)(h1:o + n≤cs.length):Z8 hp n (.ptr g o)=some (.agg (((cs.drop o).take n).map AV.ro)):=by
 simp only [Z8,h,h1,if_true]
theorem i64_in {x:Int}(h1:-9223372036854775808≤x)(h2:x≤9223372036854775807):IntKind.i64.wrap x=x:=IntWalk.i64_in x ⟨h1,h2⟩
theorem U6 (n:Nat)(h:n < 4611686018427387904):IntKind.i64.wrap ((n:Int) + 1)=((n + 1:Nat):Int):=by rw [i64_in (by omega) (by omega)]; omega
theorem Qd (k:Nat)(r:List (List AV))(i:Nat):Qf (.slice k) (.lst k r) (.int .i64 i)=(r[i]?).map .ref:=by simp [Qf]
theorem EE (hp:List Zk)(n:Nat)(c:List AV)(h:n≤c.length):Z8 hp n (.ref c)=some (.agg ((c.take n).map AV.ro)):=by simp [Z8,h]
theorem Yn (hp:List Zk)(c:AV)(l:List AV):Zf hp (.ref (c :: l))=some c.ro:=rfl
theorem YR (o:Nat)(c:List AV):Zp o (.ref c)=some (.ref (c.drop o)):=rfl
theorem YQ (o g p:Nat):Zp o (.ptr g p)=some (.ptr g (p + o)):=rfl
theorem GD (n:Nat)(c:List AV)(h:c.length=n):GA n (.agg c)=some c:=by simp [GA,AV.cells,AV.laid,h]
end Go.Proofs.YtlmfmmclnboglaaGreat.Abs
end
end
