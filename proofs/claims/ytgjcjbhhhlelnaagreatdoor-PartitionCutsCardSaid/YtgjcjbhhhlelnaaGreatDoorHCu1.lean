import Derived.Deep.Quiet
import Derived.Orders
import Derived.LoopN
import Derived.Scope
import Derived.IntWalk
import Derived.Test.YtgjcjbhhhlelnaaGreatDoorHCu0
set_option linter.all false
section
section
namespace Go.Proofs.YtgjcjbhhhlelnaaGreatDoor.Abs
open Go Go.RowKit
section
variable {P:Program}{w:World}
def Zfo (e:AV×AV)(m:MapEntry):Prop:=e.1.flat=true∧e.2.flat1=true∧m.key=e.1.conc∧m.val=e.2.conc1
theorem Tn {c:CK}{a b:AV}(h:WH c a b=some true):a.conc1=b.conc1:=by
 cases c <;> cases a <;> cases b <;> simp only [WH] at h <;> first | (cases h; done) | skip
 ·split at h
  ·rename_i e
   subst e
   simp only [Option.some.injEq,beq_iff_eq] at h
   rw [h]
  ·cases h
 ·simp only [Option.some.injEq,beq_iff_eq] at h
  rw [h]
 ·simp only [Option.some.injEq,beq_iff_eq] at h
  rw [h]
theorem NL {c:CK}{a b:AV}{q:Bool}(h:WH c a b=some q):a.flat1=true∧b.flat1=true:=by
 cases c <;> cases a <;> cases b <;> simp only [WH] at h <;> first | (cases h; done) | exact ⟨rfl,rfl⟩
theorem Gx {a:AV}(h:a.flat1=true):a.conc=a.conc1:=by cases a <;> first | rfl | (cases h)
theorem EZ {kt:TypeId}{c:CK}(hk:EY P kt=some (.one c)):N9 P kt=some c:=by
 unfold EY at hk
 split at hk
 ·split at hk
  ·split at hk <;> cases hk
  ·cases hk
 ·obtain ⟨c',h1,h2⟩:=Option.map_eq_some_iff.1 hk
  cases h2; exact h1
theorem CQ {kt:TypeId}{c:CK}(hk:EY P kt=some (.pair c)):∃ e,P.underlying kt=some (.array 2 e)∧N9 P e=some c∧P.cellsOf e=1:=by
 unfold EY at hk
 split at hk
 ·rename_i n e hu
  split at hk
  ·rename_i c' hc
   split at hk
   ·rename_i h2
    cases hk
    obtain ⟨hsz,rfl⟩:=h2
    exact ⟨e,hu,hc,hsz⟩
   ·cases hk
  ·cases hk
 ·obtain ⟨_,_,e⟩:=Option.map_eq_some_iff.1 hk; cases e
theorem Zqv {kt:TypeId}{sh:KSh}{a b:AV}{q:Bool}(hk:EY P kt=some sh)(h:Zb4 sh a b=some q)(w:World):(Op.equal kt a.conc b.conc).run P w=.ok q w∧(q=true→a.conc=b.conc):=by
 cases sh with
 | one c =>
  have hc:=EZ hk
  obtain ⟨f1,f2⟩:=NL h
  rw [Gx f1,Gx f2]
  exact ⟨Dt (Γ := fun _=>.imm) (w := w) hc (Jm f1 _ w) (Jm f2 _ w) h 9999 w,fun e=>by subst e; exact Tn h⟩
 | pair c =>
  obtain ⟨e,hu,hc,hsz⟩:=CQ hk
  unfold Zb4 at h
  split at h <;> first | (cases h; done) | skip
  ·rename_i e; cases e
  rename_i c' x0 x1 y0 y1 e'
  cases e'
  obtain ⟨g1,g2⟩:=RJ hc
  obtain ⟨ie,hie⟩:=info_of_underlying g2
  have hp:∀ (z0 z1:Value) (W:World),(part e #[z0,z1] 0).run P W=.ok z0 W∧(part e #[z0,z1] 1).run P W=.ok z1 W:=fun z0 z1 W=>⟨Jp g1 g2 rfl W,Jp g1 g2 rfl W⟩
  have he:∀ {x y:AV} {r:Bool},WH c x y=some r→∀ W,(Op.equalIn 9999 e x.conc1 y.conc1).run P W=.ok r W:=fun hr W=>by
   obtain ⟨f1,f2⟩:=NL hr
   exact Dt (Γ := fun _=>.imm) (w := W) hc (Jm f1 _ W) (Jm f2 _ W) hr 9998 W
  have hrun:∀ {q0:Bool},WH c x0 y0=some q0→∀ q1,(q0=true→WH c x1 y1=some q1)→(Op.equal kt (AV.agg [x0,x1]).conc (AV.agg [y0,y1]).conc).run P w=.ok (q0 && q1) w:=by
   intro q0 h0 q1 h1
   have e0:=he h0 w
   have:=run_equalIn_array (P := P) w 9999 (AV.conc1 x0 :: [AV.conc1 x1]).toArray (AV.conc1 y0 :: [AV.conc1 y1]).toArray hu hie
   show (Op.equalIn (9999 + 1) kt (.agg (AV.conc1 x0 :: [AV.conc1 x1]).toArray) (.agg (AV.conc1 y0 :: [AV.conc1 y1]).toArray)).run P w=_
   rw [this,hsz]
   show (Op.eqItems 9999 e 1 #[x0.conc1,x1.conc1] #[y0.conc1,y1.conc1] [0,1]).run P w=_
   simp only [Op.eqItems,Sem.run_bind,Nat.mul_one,(hp _ _ w).1,Result.andThen_ok,e0]
   cases q0 with
   | false=>simp
   | true =>
    have e1:=he (h1 rfl) w
    simp only [Bool.not_true,Bool.false_eq_true,if_false,Sem.run_bind,(hp _ _ w).2,Result.andThen_ok,e1]
    cases q1 <;> simp
  cases h0:WH c x0 y0 with
  | none=>rw [h0] at h; cases h
  | some q0 =>
   rw [h0] at h
   cases q0 with
   | false =>
    obtain rfl:=Option.some.inj h
    exact ⟨by simpa using hrun h0 false (fun h=>by cases h),fun h=>by cases h⟩
   | true =>
    have h1:WH c x1 y1=some q:=h
    refine ⟨by simpa using hrun h0 q (fun _=>h1),fun e=>?_⟩
    subst e
    simp only [AV.conc,List.map_cons,List.map_nil,Tn h0,Tn h1]
structure Found (sh:KSh)(k:AV)(es:List (AV×AV))(st:Nat)(r:Option AV)(q:Option (Nat×Value)):Prop where
 no:r=none→q=none∧∀ v,update sh k v es=some (es ++ [(k,v)])
 yes:∀ v,r=some v→∃ i k',q=some (st + i,v.conc1)∧v.flat1=true∧es[i]? = some (k',v)∧k.conc=k'.conc∧∀ v2,update sh k v2 es=some (es.set i (k',v2))
theorem Found.here {sh:KSh}{k k' v:AV}{es:List (AV×AV)}{st:Nat}(hq:Zb4 sh k k'=some true)(hc:k.conc=k'.conc)(hf:v.flat1=true):Found sh k ((k',v) :: es) st (some v) (some (st,v.conc1)) :=
 ⟨fun e=>(by cases e),fun u e=>by cases e; exact ⟨0,k',rfl,hf,rfl,hc,fun v2=>by simp [update,hq]⟩⟩
theorem Found.later {sh:KSh}{k k' v:AV}{es:List (AV×AV)}{st:Nat}{r:Option AV}{q:Option (Nat×Value)}(hq:Zb4 sh k k'=some false)(h:Found sh k es (st + 1) r q):Found sh k ((k',v) :: es) st r q:=by
 refine ⟨fun e=>⟨(h.no e).1,fun v2=>by simp [update,hq,(h.no e).2 v2]⟩,fun u e=>?_⟩
 obtain ⟨i,k2,h1,h2,h3,h4,h5⟩:=h.yes u e
 exact ⟨i + 1,k2,by rw [h1,Nat.add_assoc,Nat.add_comm 1 i],h2,by simpa using h3,h4,fun v2=>by simp [update,hq,h5 v2]⟩
theorem Found.none_ {sh:KSh}{k:AV}{st:Nat}:Found sh k [] st none none:=⟨fun _=>⟨rfl,fun _=>rfl⟩,fun _ e=>by cases e⟩
theorem ZmI {kt:TypeId}{sh:KSh}{k:AV}(hk:EY P kt=some sh)(w:World):∀ {es:List (AV×AV)} {ms:List MapEntry} {r:Option AV} (st:Nat),Zif Zfo es ms→find sh k es=some r →
  ∃ q,(Instr.findAsking kt k.conc ms st).run P w=.ok q w∧Found sh k es st r q
 | _,_,r,st,.nil,h=>by
  obtain rfl:=Option.some.inj h
  exact ⟨none,rfl,.none_⟩
 | _,_,r,st,.cons (x := e) (y := m) (l := es) (m := ms) he hes,h=>by
  obtain ⟨k',v⟩:=e
  simp only [find] at h
  cases hq:Zb4 sh k k' with
  | none=>rw [hq] at h; cases h
  | some q =>
   rw [hq] at h
   obtain ⟨e1,e2⟩:=Zqv hk hq w
   obtain ⟨r1,r2,r3,r4⟩:=he
   cases q with
   | true =>
    obtain rfl:=Option.some.inj h
    refine ⟨some (st,v.conc1),?_,.here hq (e2 rfl) r2⟩
    simp only [Instr.findAsking,Sem.run_bind,r3,e1,Result.andThen_ok,r4]
    rfl
   | false =>
    obtain ⟨q,h1,h2⟩:=ZmI hk w (st + 1) hes h
    refine ⟨q,?_,.later hq h2⟩
    simp only [Instr.findAsking,Sem.run_bind,r3,e1,Result.andThen_ok]
    exact h1
theorem Zml {kt:TypeId}{c:CK}{a b:AV}{q:Bool}{d:TypeDesc}(hc:N9 P kt=some c)(hd:P.underlying kt=some d)(h:WH c a b=some q):Instr.sameNow d a.conc1 b.conc1=some q:=by
 unfold N9 at hc
 rw [hd] at hc
 cases d <;> simp only at hc <;> first | (cases hc; done) | skip
 all_goals
  cases hc
  cases a <;> cases b <;> simp only [WH] at h <;> first | (cases h; done) | skip
 all_goals first
  | exact h
  | (simp only [AV.conc1,Instr.sameNow]; rw [← h]; congr 1; rw [Bool.eq_iff_iff,beq_toListBytes]; simp)
theorem Zdb {kt:TypeId}{c:CK}{k:AV}{d:TypeDesc}(hk:EY P kt=some (.one c))(hd:P.underlying kt=some d):∀ {es:List (AV×AV)} {ms:List MapEntry} {r:Option AV} (st:Nat),Zif Zfo es ms→find (.one c) k es=some r →
  ∃ q,Instr.findNow d k.conc ms st=some q∧Found (.one c) k es st r q
 | _,_,r,st,.nil,h=>by
  obtain rfl:=Option.some.inj h
  exact ⟨none,rfl,.none_⟩
 | _,_,r,st,.cons (x := e) (y := m) (l := es) (m := ms) he hes,h=>by
  obtain ⟨k',v⟩:=e
  simp only [find] at h
  cases hq:Zb4 (.one c) k k' with
  | none=>rw [hq] at h; cases h
  | some q =>
   rw [hq] at h
   obtain ⟨r1,r2,r3,r4⟩:=he
   obtain ⟨f1,f2⟩:=NL hq
   have hs:=Zml (EZ hk) hd hq
   rw [← Gx f1,← Gx f2] at hs
   cases q with
   | true =>
    obtain rfl:=Option.some.inj h
    refine ⟨some (st,v.conc1),?_,.here hq (by rw [Gx f1,Gx f2]; exact Tn hq) r2⟩
    simp only [Instr.findNow,r3,hs,r4]
   | false =>
    obtain ⟨q,h1,h2⟩:=Zdb hk hd (st + 1) hes h
    refine ⟨q,?_,.later hq h2⟩
    simp only [Instr.findNow,r3,hs]
    exact h1
theorem NM {kt:TypeId}{sh:KSh}{k:AV}(hk:EY P kt=some sh)(w:World){es:List (AV×AV)}{ms:List MapEntry}{r:Option AV}(he:Zif Zfo es ms)(h:find sh k es=some r) :
  ∃ q,(Instr.findKey kt k.conc ms).run P w=.ok q w∧Found sh k es 0 r q:=by
 cases sh with
 | one c =>
  have hc:=EZ hk
  obtain ⟨d,hd⟩:=Option.isSome_iff_exists.1 (RJ hc).2
  obtain ⟨q,h1,h2⟩:=Zdb hk hd 0 he h
  exact ⟨q,Go.MapKept.run_findKey hd h1,h2⟩
 | pair c =>
  obtain ⟨e,hu,_,_⟩:=CQ hk
  obtain ⟨q,h1,h2⟩:=ZmI hk w 0 he h
  exact ⟨q,(run_findKey_eq w (by rw [hu]) _ _).trans h1,h2⟩
theorem NQ {sh:KSh}{k:AV}(h:Iq sh k=true):k.flat=true:=by
 unfold Iq at h
 split at h <;> first | rfl | (cases h; done)
theorem ZaL {kt:TypeId}{sh:KSh}{k:AV}(hk:EY P kt=some sh)(h:Iq sh k=true)(e:Bool)(w:World):(Instr.checkKey e 10000 kt k.conc).run P w=.ok () w:=by
 have plain:∀ {t:TypeId} {c:CK} (n:Nat) (v:Value),N9 P t=some c→(Instr.checkKey e (n + 1) t v).run P w=.ok () w:=fun {t c} n v hc=>by
  unfold N9 at hc
  cases hd:P.underlying t with
  | none=>rw [hd] at hc; cases hc
  | some d =>
   rw [hd] at hc
   cases d <;> simp only at hc <;> first | (cases hc; done) | skip
   all_goals simp [Instr.checkKey,run_underlying hd]
 cases sh with
 | one c=>exact plain 9999 _ (EZ hk)
 | pair c =>
  obtain ⟨el,hu,hc,hsz⟩:=CQ hk
  obtain ⟨g1,g2⟩:=RJ hc
  obtain ⟨ie,hie⟩:=info_of_underlying g2
  have hp:∀ (z0 z1:Value),(part el #[z0,z1] 0).run P w=.ok z0 w∧(part el #[z0,z1] 1).run P w=.ok z1 w:=fun z0 z1=>⟨Jp g1 g2 rfl w,Jp g1 g2 rfl w⟩
  have hs:=ZY hie w
  rw [hsz] at hs
  have key:∀ x0 x1:AV,(Instr.checkKey e (9999 + 1) kt (AV.agg [x0,x1]).conc).run P w=.ok () w:=fun x0 x1=>by
   have p1:=plain 9998 x0.conc1 hc
   have p2:=plain 9998 x1.conc1 hc
   simp only [AV.conc,List.map_cons,List.map_nil]
   unfold Instr.checkKey
   simp only [Sem.run_bind,run_underlying hu,Result.andThen_ok]
   simp only [Std.Legacy.Range.forIn_eq_forIn_range',Std.Legacy.Range.size,Nat.sub_zero,Nat.add_one_sub_one,Nat.div_one]
   simp only [List.range'_succ,List.range'_zero,List.forIn_cons,List.forIn_nil,Sem.run_bind,hs,Result.andThen_ok,Nat.zero_mul,Nat.zero_add,Nat.mul_one,(hp _ _).1,(hp _ _).2,p1,p2,Sem.run_pure]
  unfold Iq at h
  split at h <;> first | (cases h; done) | skip
  all_goals first | exact key _ _ | (rename_i e; cases e; done) | (rename_i e _; cases e; done) | (rename_i e _ _; cases e; done) | (rename_i e _ _ _; cases e; done)
end
end Go.Proofs.YtgjcjbhhhlelnaaGreatDoor.Abs
end
section
namespace Go.Proofs.YtgjcjbhhhlelnaaGreatDoor.Abs
open Go Go.RowKit
section
variable {P:Program}{G:Nat→Option (List AV)}{E:Entry}{s:Zd}{Γ:ZB}{a:Act}{w:World}{o:Oper}
theorem NG {v:AV}{cv:Value}(h:Rep Γ w v cv)(hf:v.flat=true):cv=v.conc:=by
 cases h with
 | agg cells cv hs h1 hn hr =>
  simp only [AV.flat,List.all_eq_true] at hf
  simp only [AV.conc,Value.agg.injEq]
  apply Array.ext'
  apply List.ext_getElem?
  intro j
  simp only [List.getElem?_map,Array.getElem?_toList]
  by_cases hj:j < cells.length
  ·have hc:=List.getElem?_eq_getElem hj
   have:=(hr j _ hc).conc1 (hf _ (List.getElem_mem hj))
   rw [hc,Option.map_some,← this]
   exact Wx (by omega)
  ·rw [List.getElem?_eq_none (by omega),Array.getElem?_eq_none (by omega)]; rfl
 | tup vs cv hs hr =>
  simp only [AV.flat,List.all_eq_true] at hf
  simp only [AV.conc,Value.tuple.injEq]
  apply Array.ext'
  apply List.ext_getElem?
  intro j
  simp only [List.getElem?_map,Array.getElem?_toList]
  by_cases hj:j < vs.length
  ·have hc:=List.getElem?_eq_getElem hj
   have:=(hr j _ hc).conc1 (hf _ (List.getElem_mem hj))
   rw [hc,Option.map_some,← this]
   exact Wx (by omega)
  ·rw [List.getElem?_eq_none (by omega),Array.getElem?_eq_none (by omega)]; rfl
 | fn f fst caps fv cv hs1 hr1 hs hr =>
  exact (Rep.fn f fst caps fv cv hs1 hr1 hs hr).conc1 hf
 | _=>first | rfl | (cases hf; done)
theorem ZcC {es:List (AV×AV)}{ms:Array MapEntry}(hs:ms.size=es.length)(h:∀ (i:Nat) (e:AV×AV),es[i]? = some e→∃ m,ms[i]? = some m∧e.1.flat=true∧e.2.flat1=true∧m.key=e.1.conc∧m.val=e.2.conc1):Zif Zfo es ms.toList:=by
 refine Zif.of_get (by simpa using hs.symm) fun j e m he hm=>?_
 obtain ⟨m',h1,h2⟩:=h j e he
 rw [Array.getElem?_toList,h1] at hm
 cases hm
 exact h2
theorem ZrV {t:TypeId}{z:AV}(hz:zeroOf P t=some z)(hf:z.flat1=true)(w:World):(zeroValue t).run P w=.ok z.conc1 w:=by
 obtain ⟨i,zv,hi,hzv,hrep⟩:=VP hz
 rw [← (hrep (fun _=>.imm) w).1.conc1 hf]
 simp [zeroValue,typeInfo,hi,hzv]
def Zq8 (ok:Bool)(z:AV):Option AV→Value
 | some v=>if ok then .tuple #[v.conc1,.bool true] else v.conc1
 | none=>if ok then .tuple #[z.conc1,.bool false] else z.conc1
def Zu4 (ok:Bool)(z:AV):Option AV→AV
 | some v=>if ok then AV.tup [v,.bool true] else v
 | none=>if ok then AV.tup [z,.bool false] else z
theorem Zol {t kt et:TypeId}{sh:KSh}{k z:AV}{ok:Bool}{b:Nat}{ms:Array MapEntry}{clk:Nat}{es:List (AV×AV)}{r:Option AV}(ht:P.underlying t=some (.map kt et))(hk:EY P kt=some sh)(hb:w.heap[b]? = some (.map ms clk))(he:Zif Zfo es ms.toList)(hf:find sh k es=some r)
  (hck:∀ emp,(Instr.checkKey emp 10000 kt k.conc).run P w=.ok () w) (hz:(zeroValue et).run P w=.ok z.conc1 w):(Instr.lookup t (.map (some b)) k.conc ok).run P w=.ok (Zq8 ok z r) w∧∀ v,r=some v→v.flat1=true:=by
 obtain ⟨q,e1,e2⟩:=NM hk w he hf
 cases r with
 | none =>
  obtain ⟨rfl,_⟩:=e2.no rfl
  refine ⟨?_,fun v e=>by cases e⟩
  simp only [Instr.lookup,Sem.run_bind,run_underlying ht,MapKept.run_getObj_map hb,hck,Result.andThen_ok,e1,hz,Sem.run_pure]
  rfl
 | some v =>
  obtain ⟨j,k',rfl,hv,_⟩:=e2.yes v rfl
  refine ⟨?_,fun v' e=>by cases e; exact hv⟩
  simp only [Instr.lookup,Sem.run_bind,run_underlying ht,MapKept.run_getObj_map hb,hck,Result.andThen_ok,e1,Sem.run_pure]
  rfl
theorem Zwg (hG:GOk G E.W0)(hI:Inv E s Γ a w){t kt et:TypeId}{sh:KSh}{z:AV}{x i:Operand}{x' i':Ym}{u k v:AV}{ok:Bool}(ho:o.op=.lookup t x i ok)(ht:P.underlying t=some (.map kt et))(hk:EY P kt=some sh)(hz:zeroOf P et=some z)(hzf:z.flat1=true)
  (hcx:ZT P t x=some x') (hci:ZT P kt i=some i') (hx:opnd G s.sl x'=some u) (hi:opnd G s.sl i'=some k) (h:Zdn s.hp sh z u k ok=some v):LK P E s v a w o:=by
 have k1:=(Zr hG hI hcx hx).1
 have k2:=(Zr hG hI hci hi).1
 unfold Zdn at h
 split at h
 ·cases h
 rename_i hfit
 have hfit:Iq sh k=true:=by simpa using hfit
 have hkc:=NG k2 (NQ hfit)
 have hzr:=ZrV hz hzf w
 have hck:∀ emp,(Instr.checkKey emp 10000 kt k.conc).run P w=.ok () w:=fun emp=>ZaL hk hfit emp w
 have fin:∀ (r:Option AV),(∀ v,r=some v→v.flat1=true)→(execOp a.eval o).run P w=.ok (.value (Zq8 ok z r)) w →
   Zu4 ok z r=v→LK P E s v a w o:=by
  intro r hr hrun hv
  have two:∀ (y:AV) (b:Bool),y.flat1=true→Rep Γ w (if ok then AV.tup [y,.bool b] else y) (if ok then Value.tuple #[y.conc1,.bool b] else y.conc1):=fun y b hy=>by
   cases ok with
   | false=>exact Jm hy Γ w
   | true =>
    refine .tup _ #[y.conc1,.bool b] rfl fun j c hj=>?_
    match j with
    | 0=>cases hj; exact Jm hy Γ w
    | 1=>cases hj; exact .bool b
    | j + 2=>simp at hj
  have nown:∀ (y:AV) (b:Bool),y.flat1=true→∀ k r,(if ok then AV.tup [y,.bool b] else y)≠.own k r:=fun y b hy=>by
   cases ok with
   | false=>exact ZiF hy
   | true=>intro k r e; cases e
  cases r with
  | some y =>
   subst hv
   exact .pure hI hrun (two y true (hr y rfl)) fun k r e=>absurd e (nown y true (hr y rfl) k r)
  | none =>
   subst hv
   exact .pure hI hrun (two z false hzf) fun k r e=>absurd e (nown z false hzf k r)
 generalize hq:a.eval x=q at k1
 have hexec:∀ r,(Instr.lookup t q k.conc ok).run P w=.ok r w→(execOp a.eval o).run P w=.ok (.value r) w:=fun r hr=>by
  simp only [execOp,ho,hq,hkc]
  rw [Sem.run_bind,hr]; rfl
 have some_:∀ {g:Nat} {es:List (AV×AV)} {r:Option AV},s.hp[g]? = some (.map es)→find sh k es=some r→Rep Γ w (.map g) q→Zu4 ok z r=v→LK P E s v a w o:=by
  intro g es r hg hf hm hv
  cases hm with
  | map _ b hb =>
   obtain ⟨b',ms,clk,h1,h2,h3,h4⟩:=hI.rw.objs g _ hg
   obtain rfl:=hI.rw.inj b b' g hb h1
   obtain ⟨m1,m2⟩:=Zol (ok := ok) ht hk h2 (ZcC h3 h4) hf hck hzr
   exact fin r m2 (hexec _ m1) hv
 split at h
 ·rename_i y hy
  split at hy <;> first | (cases hy; done) | skip
  split at hy <;> first | (cases hy; done) | skip
  rename_i hg
  exact some_ hg hy k1 (Option.some.inj h)
 ·rename_i hy
  split at hy <;> first | (cases hy; done) | skip
  ·cases k1
   refine fin none (fun v e=>by cases e) (hexec _ ?_) (Option.some.inj h)
   simp only [Instr.lookup,Sem.run_bind,run_underlying ht,Result.andThen_ok,Sem.run_pure,hck]
   have:(Instr.findKey kt k.conc []).run P w=.ok none w:=by
    obtain ⟨q,e1,e2⟩:=NM (k := k) (r := none) hk w (.nil:Zif Zfo [] []) rfl
    obtain ⟨rfl,_⟩:=e2.no rfl
    exact e1
   simp only [this,Result.andThen_ok,Sem.run_bind,hzr,Sem.run_pure]
   rfl
  ·split at hy <;> first | (cases hy; done) | skip
   rename_i hg
   exact some_ hg hy k1 (Option.some.inj h)
 ·cases h
theorem TK {c:CK}{x y:AV}(n:Nat)(h:WH c x y=some true):Instr.sameBits n y.conc1 x.conc1=true:=by
 cases c <;> cases x <;> cases y <;> simp only [WH] at h <;> first | (cases h; done) | skip
 ·split at h
  ·rename_i e
   subst e
   simp only [Option.some.injEq,beq_iff_eq] at h
   subst h
   simp [AV.conc1,Instr.sameBits]
  ·cases h
 ·simp only [Option.some.injEq,beq_iff_eq] at h
  subst h
  simp [AV.conc1,Instr.sameBits]
 ·simp only [Option.some.injEq,beq_iff_eq] at h
  subst h
  simp [AV.conc1,Instr.sameBits,beq_toListBytes]
theorem ZhR {sh:KSh}{k:AV}(h:Iq sh k=true):Instr.sameBits 10000 k.conc k.conc=true:=by
 have one:∀ (x:AV),(∃ k n,x=.int k n)∨(∃ b,x=.bool b)∨(∃ s,x=.str s)→∀ n,Instr.sameBits n x.conc1 x.conc1=true:=fun x hx n=>by
  rcases hx with ⟨k,m,rfl⟩ | ⟨b,rfl⟩ | ⟨s,rfl⟩
  ·exact TK (c := .int) n (by simp [WH])
  ·exact TK (c := .bool) n (by simp [WH])
  ·exact TK (c := .str) n (by simp [WH])
 have two:∀ x y:AV,((∃ k n,x=.int k n)∨(∃ b,x=.bool b)∨(∃ s,x=.str s))→((∃ k n,y=.int k n)∨(∃ b,y=.bool b)∨(∃ s,y=.str s))→Instr.sameBits (9999 + 1) (AV.agg [x,y]).conc (AV.agg [x,y]).conc=true:=fun x y hx hy=>by
  simp only [AV.conc,List.map_cons,List.map_nil,Instr.sameBits,List.zip_cons_cons,List.zip_nil_right,List.all_cons,List.all_nil,one x hx 9999,one y hy 9999,beq_self_eq_true,Bool.and_self]
 unfold Iq at h
 split at h <;> first | (cases h; done) | skip
 ·exact one _ (.inl ⟨_,_,rfl⟩) _
 ·exact one _ (.inr (.inl ⟨_,rfl⟩)) _
 ·exact one _ (.inr (.inr ⟨_,rfl⟩)) _
 ·exact two _ _ (.inl ⟨_,_,rfl⟩) (.inl ⟨_,_,rfl⟩)
 ·exact two _ _ (.inr (.inr ⟨_,rfl⟩)) (.inr (.inr ⟨_,rfl⟩))
theorem Zwj (hG:GOk G E.W0)(hI:Inv E s Γ a w){t kt et:TypeId}{sh:KSh}{m k v:Operand}{m' k' v':Ym}{g:Nat}{ka va:AV}{es es':List (AV×AV)}(ho:o.op=.mapUpdate t m k v)(ht:P.underlying t=some (.map kt et))(hk:EY P kt=some sh)
  (hcm:ZT P t m=some m') (hck:ZT P kt k=some k') (hcv:ZT P et v=some v') (hm:opnd G s.sl m'=some (.map g)) (hka:opnd G s.sl k'=some ka) (hva:opnd G s.sl v'=some va) (hg:s.hp[g]? = some (.map es)) (hfit:Iq sh ka=true) (hvf:va.flat1=true)
  (hf:∃ r,find sh ka es=some r) (hu:update sh ka va es=some es'):LK P E { s with hp:=s.hp.set g (.map es'),ef := s.note g 0 } .undef a w o:=by
 obtain ⟨r,hf⟩:=hf
 have k1:=(Zr hG hI hcm hm).1
 have hkc:=NG (Zr hG hI hck hka).1 (NQ hfit)
 have hvc:=(Zr hG hI hcv hva).1.conc1 hvf
 generalize hq:a.eval m=q at k1
 cases k1 with
 | map _ b hb =>
  obtain ⟨b',ms,clk,h1,h2,h3,h4⟩:=hI.rw.objs g _ hg
  obtain rfl:=hI.rw.inj b b' g hb h1
  obtain ⟨q,e1,e2⟩:=NM hk w (ZcC h3 h4) hf
  have hlt:=lt_of_some h2
  have step:∀ (ms':Array MapEntry) (clk':Nat),(ms'.size=es'.length∧∀ (i:Nat) (e:AV×AV),es'[i]? = some e→∃ m,ms'[i]? = some m∧e.1.flat=true∧e.2.flat1=true∧m.key=e.1.conc∧m.val=e.2.conc1) →
    Inv E { s with hp:=s.hp.set g (.map es'),ef := s.note g 0 } Γ a { w with heap:=w.heap.setIfInBounds b (.map ms' clk') }:=fun ms' clk' hrel=>by
   have same:∀ b',b'≠b→({ w with heap:=w.heap.setIfInBounds b (.map ms' clk') }:World).heap[b']? = w.heap[b']?:=fun b' hne=>by simp [Ne.symm hne]
   refine hI.update hb ⟨rfl,rfl,rfl,by simp,fun b' _ hne=>⟨rfl,same b' hne⟩,fun b' q y k1 k2=>⟨k1,?_⟩,.refl _⟩ (Gy s g 0) (by simp) ⟨b,ms',clk',hb,by simp [hlt],hrel.1,hrel.2⟩
   have:b'≠b:=by
    rintro rfl
    unfold LJ at k1
    rw [hb] at k1
    exact k1
   exact (Oy (same b' this)).trans k2
  have hexec:∀ w',(Instr.mapUpdate t (.map (some b)) ka.conc va.conc1).run P w=.ok () w'→(execOp a.eval o).run P w=.ok .skip w':=fun w' hr=>by
   simp only [execOp,ho,hq,hkc,hvc]
   rw [Sem.run_bind,hr]; rfl
  have hchk:=ZaL hk hfit false w
  cases r with
  | none =>
   obtain ⟨rfl,hup⟩:=e2.no rfl
   have:=(hup va).symm.trans hu
   obtain rfl:=Option.some.inj this
   refine ⟨Γ,Go.undef,_,.inr ⟨hexec { w with heap:=w.heap.setIfInBounds b (.map (ms.push { key := ka.conc,val := va.conc1,born := clk }) (clk + 1)) } ?_,rfl⟩,step _ _ ⟨by simp [h3],fun i e he=>?_⟩,.undef,.of_ne (by simp)⟩
   ·simp only [Instr.mapUpdate,Sem.run_bind,run_underlying ht,Result.andThen_ok,MapKept.run_getObj_map h2,hchk,e1,MapKept.run_setObj_map _ h2]
   ·rw [List.getElem?_append] at he
    split at he
    ·rename_i hi
     obtain ⟨m,a1,a2⟩:=h4 i e he
     exact ⟨m,by rw [Array.getElem?_push,if_neg (by omega)]; exact a1,a2⟩
    ·rename_i hi
     have hi':i=es.length:=by
      rcases Nat.lt_or_ge (i - es.length) 1 with h' | h'
      ·omega
      ·rw [List.getElem?_eq_none (by simpa using h')] at he; cases he
     subst hi'
     simp only [Nat.sub_self,List.getElem?_cons_zero,Option.some.injEq] at he
     subst he
     exact ⟨_,by rw [Array.getElem?_push,if_pos h3.symm],NQ hfit,hvf,rfl,rfl⟩
  | some u =>
   obtain ⟨i,k2,rfl,_,hei,hkk,hup⟩:=e2.yes u rfl
   have:=(hup va).symm.trans hu
   obtain rfl:=Option.some.inj this
   obtain ⟨mi,a1,a2,a3,a4,a5⟩:=h4 i _ hei
   have hkeep:(Instr.keyThatStays (((ms[0 + i]?).map (·.key)).getD ka.conc) ka.conc).run P w=.ok ka.conc w:=by
    rw [Nat.zero_add,a1]
    simp only [Option.map_some,Option.getD_some,a4]
    unfold Instr.keyThatStays
    rw [← hkk,if_pos (ZhR hfit)]
    rfl
   refine ⟨Γ,Go.undef,_,.inr ⟨hexec { w with heap:=w.heap.setIfInBounds b (.map (ms.modify (0 + i) fun e=>{ e with key:=ka.conc,val := va.conc1 }) clk) } ?_,rfl⟩,step _ _ ⟨by simp [h3],fun j e he=>?_⟩,.undef,.of_ne (by simp)⟩
   ·simp only [Instr.mapUpdate,Sem.run_bind,run_underlying ht,Result.andThen_ok,MapKept.run_getObj_map h2,hchk,e1,hkeep,MapKept.run_setObj_map _ h2]
   ·rw [Nat.zero_add,Array.getElem?_modify]
    rw [List.getElem?_set] at he
    split at he
    ·rename_i hij
     subst hij
     split at he
     ·obtain rfl:=Option.some.inj he
      refine ⟨{ mi with key:=ka.conc,val := va.conc1 },by rw [if_pos rfl,a1]; rfl,a2,hvf,hkk,rfl⟩
     ·cases he
    ·rename_i hij
     obtain ⟨m,b1,b2⟩:=h4 j e he
     exact ⟨m,by rw [if_neg hij]; exact b1,b2⟩
end
end Go.Proofs.YtgjcjbhhhlelnaaGreatDoor.Abs
end
section
namespace Go.Proofs.YtgjcjbhhhlelnaaGreatDoor.Abs
open Go Go.RowKit
theorem Ze7 {sh:KSh}{k v:AV}:∀ {es es':List (AV×AV)},update sh k v es=some es'→∃ r,find sh k es=some r
 | [],_,_=>⟨none,rfl⟩
 | (k',v') :: l,es',h=>by
  simp only [update] at h
  simp only [find]
  split at h
  ·exact ⟨_,rfl⟩
  ·obtain ⟨l',h',_⟩:=Option.map_eq_some_iff.1 h
   exact Ze7 h'
  ·cases h
theorem YS {α β:Type}{x:Option α}{s s':β}{v:α}(h:x.map (·,s)=some (v,s')):x=some v∧s'=s:=by
 obtain ⟨y,h1,h2⟩:=Option.map_eq_some_iff.1 h
 cases h2
 exact ⟨h1,rfl⟩
section
variable {P:Program}{G:Nat→Option (List AV)}{call:FuncId→List AV→List Zn→Option (AV×List Zn×Eff)}{E:Entry}{s s':Zd}{Γ:ZB}{a:Act}{w:World}{o:Oper}{hand:Nat→Bool}{draw:Bool}{ao:AOp}{v:AV}
theorem Zwo (hG:GOk G E.W0)(hI:Inv E s Γ a w){x:Operand}(hop:o.op=.move x)(hc:cOp P hand draw o=some ao)(h:Zf G call s ao=some (v,s')):IR P E Γ s s' v a w o ao:=by
 simp only [cOp,hop] at hc
 split at hc
 ·rename_i t
  split at hc
  ·obtain rfl:=Option.some.inj hc
   simp only [Zf] at h
   split at h <;> first | (cases h; done) | skip
   rename_i u hu
   cases h
   exact (ZqT hI (.inl hop) hu).fit
  ·obtain rfl:=Option.some.inj hc
   replace h:=YS h; obtain ⟨h,hss⟩:=h
   subst hss
   exact (Ztw (t := 0) hG hI (.inl hop) rfl h).fit hI
 ·obtain ⟨y,hy,rfl⟩:=Option.map_eq_some_iff.1 hc
  replace h:=YS h; obtain ⟨h,hss⟩:=h
  subst hss
  exact (Ztw hG hI (.inl hop) hy h).fit hI
theorem ZqV (hG:GOk G E.W0)(hI:Inv E s Γ a w){x:Operand}(hop:o.op=.assign x)(hc:cOp P hand draw o=some ao)(h:Zf G call s ao=some (v,s')):IR P E Γ s s' v a w o ao:=by
 simp only [cOp,hop] at hc
 split at hc
 ·rename_i t
  split at hc
  ·obtain rfl:=Option.some.inj hc
   replace h:=YS h; obtain ⟨h,hss⟩:=h
   subst hss
   exact (Ztw (t := 0) hG hI (.inr hop) rfl h).fit hI
  ·obtain rfl:=Option.some.inj hc
   simp only [Zf] at h
   split at h <;> first | (cases h; done) | skip
   rename_i u hu
   cases h
   exact (ZqT hI (.inr hop) hu).fit
 ·obtain ⟨y,hy,rfl⟩:=Option.map_eq_some_iff.1 hc
  replace h:=YS h; obtain ⟨h,hss⟩:=h
  subst hss
  exact (Ztw hG hI (.inr hop) hy h).fit hI
theorem Zwp (hG:GOk G E.W0)(hI:Inv E s Γ a w){c x y:Operand}(hop:o.op=.pick c x y)(hc:cOp P hand draw o=some ao)(h:Zf G call s ao=some (v,s')):IR P E Γ s s' v a w o ao:=by
 simp only [cOp,hop] at hc
 split at hc <;> first | (cases hc; done) | skip
 rename_i c' x' y' h1 h2 h3
 obtain rfl:=Option.some.inj hc
 simp only [Zf] at h
 split at h <;> first | (cases h; done) | skip
 ·rename_i hb
  replace h:=YS h; obtain ⟨h,hss⟩:=h
  subst hss
  exact (ZqR (b := true) hG hI hop h1 h2 h3 hb h).fit hI
 ·rename_i hb
  replace h:=YS h; obtain ⟨h,hss⟩:=h
  subst hss
  exact (ZqR (b := false) hG hI hop h1 h2 h3 hb h).fit hI
theorem ZuA (hG:GOk G E.W0)(hI:Inv E s Γ a w)(hop:(∃ e,o.op=.alloc e)∨(∃ e x,o.op=.box e x))(hc:cOp P hand draw o=some ao)(h:Zf G call s ao=some (v,s')):IR P E Γ s s' v a w o ao:=by
 rcases hop with ⟨e,hop⟩ | ⟨e,x,hop⟩
 ·simp only [cOp,hop] at hc
  split at hc <;> first | (cases hc; done) | skip
  rename_i z hz
  split at hc <;> first | (cases hc; done) | skip
  rename_i h1
  obtain rfl:=Option.some.inj hc
  simp only [Zf] at h
  cases h
  exact (Z0D hI hop hz h1).fit
 ·simp only [cOp,hop] at hc
  obtain ⟨y,hy,rfl⟩:=Option.map_eq_some_iff.1 hc
  simp only [Zf] at h
  split at h <;> first | (cases h; done) | skip
  rename_i u hu
  split at h <;> first | (cases h; done) | skip
  rename_i hl
  cases h
  exact (Zy5 hG hI hop hy hu hl.2).fit
theorem Zty (hG:GOk G E.W0)(hI:Inv E s Γ a w){t:TypeId}{parts:Array (Nat×Operand)}(hop:o.op=.build t parts)(hc:cOp P hand draw o=some ao)(h:Zf G call s ao=some (v,s')):IR P E Γ s s' v a w o ao:=by
 simp only [cOp,hop] at hc
 split at hc <;> first | (cases hc; done) | skip
 rename_i hs
 split at hc <;> first | (cases hc; done) | skip
 rename_i z ps hz hp
 obtain rfl:=Option.some.inj hc
 simp only [Zf] at h
 split at h <;> first | (cases h; done) | skip
 rename_i vs hv
 obtain ⟨cs,h1,h2⟩:=Option.map_eq_some_iff.1 h
 cases h2
 exact (Ztt hG hI hop hs hz hp hv h1).fit
theorem ZyF (hG:GOk G E.W0)(hI:Inv E s Γ a w){t:TypeId}{len:Nat}{parts:Array (Nat×Operand)}(hop:o.op=.buildSlice t len parts)(hc:cOp P hand draw o=some ao)(h:Zf G call s ao=some (v,s')):IR P E Γ s s' v a w o ao:=by
 simp only [cOp,hop] at hc
 split at hc <;> first | (cases hc; done) | skip
 rename_i e ht
 split at hc <;> first | (cases hc; done) | skip
 rename_i hx
 obtain ⟨h1,h2,h3,h4⟩:=hx
 obtain ⟨ps,hp,rfl⟩:=Option.map_eq_some_iff.1 hc
 by_cases hm:(hand RP || hand (RP + 1 + e))=true
 ·simp only [hm,if_true,Zf] at h ⊢
  split at h <;> first | (cases h; done) | skip
  rename_i vs hv
  split at h <;> first | (cases h; done) | skip
  rename_i hall
  cases h
  exact (ZqQ hG hI hop ht h1 h2 h4 hp hv hall).fit
 ·simp only [if_neg hm,Zf] at h ⊢
  split at h <;> first | (cases h; done) | skip
  rename_i vs hv
  split at h
  ·rename_i hall
   cases h
   exact (ZyB hG hI hop ht h1 h2 h3 h4 hp hv hall).fit
  ·split at h <;> first | (cases h; done) | skip
   rename_i hall
   cases h
   exact (ZqQ hG hI hop ht h1 h2 h4 hp hv hall).fit
theorem Zwn (hG:GOk G E.W0)(hI:Inv E s Γ a w){t:TypeId}{p:Operand}(hop:o.op=.load t p)(hc:cOp P hand draw o=some ao)(h:Zf G call s ao=some (v,s')):IR P E Γ s s' v a w o ao:=by
 simp only [cOp,hop] at hc
 split at hc <;> first | (cases hc; done) | skip
 rename_i p' hp
 split at hc
 ·rename_i ht
  obtain rfl:=Option.some.inj hc
  simp only [Zf] at h
  split at h <;> first | (cases h; done) | skip
  rename_i x hx
  replace h:=YS h; obtain ⟨h,hss⟩:=h
  subst hss
  exact (Zy8 hG hI hop ht hp hx h).fit hI
 ·rename_i ht
  have ht:U5 P t=false:=by simpa using ht
  split at hc <;> first | (cases hc; done) | skip
  rename_i hu
  split at hc
  ·obtain rfl:=Option.some.inj hc
   simp only [Zf] at h
   split at h <;> first | (cases h; done) | skip
   rename_i g q hx
   split at h <;> first | (cases h; done) | skip
   rename_i cs t' hg
   split at h <;> first | (cases h; done) | skip
   rename_i u hv
   cases h
   exact (ZyA hG hI hop ht hu hp hx hg hv).fit
  ·obtain rfl:=Option.some.inj hc
   simp only [Zf] at h
   split at h <;> first | (cases h; done) | skip
   rename_i x hx
   replace h:=YS h; obtain ⟨h,hss⟩:=h
   subst hss
   exact (Zy9 hG hI hop ht hu hp hx h).fit hI
theorem Zt0 (hG:GOk G E.W0)(hI:Inv E s Γ a w){t:TypeId}{p x:Operand}(hop:o.op=.store t p x)(hc:cOp P hand draw o=some ao)(h:Zf G call s ao=some (v,s')):IR P E Γ s s' v a w o ao:=by
 simp only [cOp,hop] at hc
 split at hc
 ·cases hc
 rename_i hti
 have hi:∃ i,P.info? t=some i:=by
  cases hq:P.info? t with
  | none=>rw [hq] at hti; exact absurd rfl hti
  | some i=>exact ⟨i,rfl⟩
 obtain ⟨i,hi⟩:=hi
 split at hc <;> first | (cases hc; done) | skip
 rename_i p' hp
 have st:∀ {y},ZT P t x=some y→Zf G call s (.st (P.cellsOf t) p' y)=some (v,s')→IR P E Γ s s' v a w o (.st (P.cellsOf t) p' y):=by
  intro y hy h
  simp only [Zf] at h
  split at h <;> first | (cases h; done) | skip
  rename_i g q u hpp hx
  split at h <;> first | (cases h; done) | skip
  rename_i cs t' hg
  split at h <;> first | (cases h; done) | skip
  rename_i hn
  cases h
  exact (Z0E hG hI hi hop hp hy hpp hx hg hn).fit
 split at hc
 ·rename_i hag
  simp only [Bool.and_eq_true,Bool.not_eq_true',beq_iff_eq] at hag
  split at hc
  ·rename_i sl hsl
   have hx:x=.tmp sl:=by
    cases x <;> simp only [ZsY] at hsl <;> first | (cases hsl; done) | (cases hsl; rfl)
   subst hx
   obtain rfl:=Option.some.inj hc
   simp only [Zf] at h
   split at h <;> first | (cases h; done) | skip
   rename_i g q u hpp hx
   split at h <;> first | (cases h; done) | skip
   rename_i cs t' hg
   split at h <;> first | (cases h; done) | skip
   rename_i hn
   cases h
   exact (ZyC hG hI hi hag.2 hop hp hpp hx hg hn).fit
  ·obtain ⟨y,hy,rfl⟩:=Option.map_eq_some_iff.1 hc
   exact st hy h
 ·obtain ⟨y,hy,rfl⟩:=Option.map_eq_some_iff.1 hc
  exact st hy h
theorem Zd0 (hG:GOk G E.W0)(hI:Inv E s Γ a w)(hop:(∃ x,o.op=.nilCheck x)∨(∃ op t x y t',o.op=.binOp op t x y t')∨(∃ op t x,o.op=.unOp op t x))(hc:cOp P hand draw o=some ao)(h:Zf G call s ao=some (v,s')):IR P E Γ s s' v a w o ao:=by
 rcases hop with ⟨x,hop⟩ | ⟨op,t,x,y,t',hop⟩ | ⟨op,t,x,hop⟩
 ·simp only [cOp,hop] at hc
  obtain ⟨y,hy,rfl⟩:=Option.map_eq_some_iff.1 hc
  simp only [Zf] at h
  split at h <;> first | (cases h; done) | skip
  ·rename_i hx; cases h; exact (Zdz hG hI hop hy hx (.inl ⟨_,rfl⟩)).fit hI
  ·rename_i hx; cases h; exact (Zdz hG hI hop hy hx (.inr (.inl ⟨_,_,rfl⟩))).fit hI
  ·rename_i hx; cases h; exact (Zdz hG hI hop hy hx (.inr (.inr ⟨_,_,_,rfl⟩))).fit hI
 ·simp only [cOp,hop] at hc
  split at hc <;> first | (cases hc; done) | skip
  rename_i sh x' y' h1 h2 h3
  obtain rfl:=Option.some.inj hc
  simp only [Zf] at h
  split at h <;> first | (cases h; done) | skip
  rename_i u u' hx hy
  replace h:=YS h; obtain ⟨h,hss⟩:=h
  subst hss
  exact (Zy4 hG hI hop h1 h2 h3 hx hy h).fit hI
 ·simp only [cOp,hop] at hc
  obtain ⟨y,hy,rfl⟩:=Option.map_eq_some_iff.1 hc
  simp only [Zf] at h
  split at h <;> first | (cases h; done) | skip
  rename_i u hx
  replace h:=YS h; obtain ⟨h,hss⟩:=h
  subst hss
  exact (Z0F hG hI hop hy hx h).fit hI
theorem Zor (hG:GOk G E.W0)(hI:Inv E s Γ a w){src dst:TypeId}{x:Operand}(hop:o.op=.convert src dst x)(hc:cOp P hand draw o=some ao)(h:Zf G call s ao=some (v,s')):IR P E Γ s s' v a w o ao:=by
 simp only [cOp,hop] at hc
 split at hc <;> first | (cases hc; done) | skip
 ·rename_i x' k k' hx' hs hd
  obtain rfl:=Option.some.inj hc
  simp only [Zf] at h
  split at h <;> first | (cases h; done) | skip
  rename_i u hu
  replace h:=YS h; obtain ⟨h,hss⟩:=h
  subst hss
  cases u <;> simp only [Vl] at h <;> first | (cases h; done) | skip
  obtain rfl:=Option.some.inj h
  exact (ZkQ hG hI hop hs hd hx' hu).fit
 ·rename_i x' hx' hs hd
  obtain rfl:=Option.some.inj hc
  simp only [Zf] at h
  split at h <;> first | (cases h; done) | skip
  rename_i u hu
  replace h:=YS h; obtain ⟨h,hss⟩:=h
  subst hss
  cases u <;> simp only [Vl] at h <;> first | (cases h; done) | skip
  obtain rfl:=Option.some.inj h
  exact (ZkR hG hI hop hs hd hx' hu).fit
 ·rename_i x' e hx' hs hd
  split at hc <;> first | (cases hc; done) | skip
  rename_i he
  obtain rfl:=Option.some.inj hc
  simp only [Zf] at h
  split at h <;> first | (cases h; done) | skip
  rename_i u hu
  replace h:=YS h; obtain ⟨h,hss⟩:=h
  subst hss
  cases u <;> simp only [Vl] at h <;> first | (cases h; done) | skip
  obtain rfl:=Option.some.inj h
  exact (Zhg hG hI hop hs hd he hx' hu).fit
 ·rename_i x' e hx' hs hd
  split at hc <;> first | (cases hc; done) | skip
  rename_i he
  obtain rfl:=Option.some.inj hc
  simp only [Zf] at h
  split at h <;> first | (cases h; done) | skip
  rename_i u hu
  replace h:=YS h; obtain ⟨h,hss⟩:=h
  subst hss
  simp only [Vl] at h
  split at h <;> first | (cases h; done) | skip
  rename_i r hr
  obtain ⟨l,hl,rfl⟩:=Option.map_eq_some_iff.1 h
  exact (Zdy hG hI hop hs hd he hx' hu hr hl).fit
theorem ZkU (hG:GOk G E.W0)(hI:Inv E s Γ a w)(hop:(∃ fn x y,o.op=.makeFunc fn x y)∨(∃ t r,o.op=.makeMap t r)∨(∃ t l c,o.op=.makeSlice t l c))(hc:cOp P hand draw o=some ao)(h:Zf G call s ao=some (v,s')):IR P E Γ s s' v a w o ao:=by
 rcases hop with ⟨fn,x,y,hop⟩ | ⟨t,r,hop⟩ | ⟨t,l,c,hop⟩
 ·cases fn with
  | func f =>
   simp only [cOp,hop] at hc
   split at hc <;> first | (cases hc; done) | skip
   rename_i us vs h1 h2
   obtain rfl:=Option.some.inj hc
   simp only [Zf] at h
   split at h <;> first | (cases h; done) | skip
   rename_i u1 u2 h3 h4
   cases h
   exact (Zwh hG hI hop h1 h2 h3 h4).fit
  | _=>simp only [cOp,hop] at hc; cases hc
 ·cases r with
  | none =>
   simp only [cOp,hop] at hc
   obtain rfl:=Option.some.inj hc
   simp only [Zf] at h
   cases h
   exact (Ztv hI hop).fit
  | some r=>simp only [cOp,hop] at hc; cases hc
 ·have fin:∀ {e:TypeId} {z:AV} {i:TypeInfo} {n:Ym},P.underlying t=some (.slice e)→zeroOf P e=some z→P.info? e=some i→(z.cells.all AV.one=true∧z.cells.length=i.size∧i.bytes≤16384∧0 < i.size) →
    (∀ kd m,opnd G s.sl n=some (.int kd m)→a.eval l=.int kd m∧a.eval c=.int kd m)→Zf G call s (.mksl e z.cells n)=some (v,s')→IR P E Γ s s' v a w o (.mksl e z.cells n):=by
   intro e z i n ht hz hi hx hev h
   simp only [Zf] at h
   split at h <;> first | (cases h; done) | skip
   rename_i kd m hm
   split at h <;> first | (cases h; done) | skip
   rename_i hb
   cases h
   exact (Zwi hI ⟨l,c,hop,(hev kd m hm).1,(hev kd m hm).2⟩ ht hi hz hx.1 hx.2.1 hx.2.2.2 hx.2.2.1 hb.1 hb.2).fit
  have slot:∀ {q:Nat} {kd:IntKind} {m:Int},opnd G s.sl (.tmp q)=some (.int kd m)→a.eval (.tmp q)=.int kd m:=fun {q kd m} hm=>by
   have:=(Zr (P := P) (t := 0) (x := .tmp q) (y := .tmp q) hG hI rfl hm).1
   generalize a.eval (.tmp q)=u at this
   cases this; rfl
  cases l <;> cases c <;> simp only [cOp,hop] at hc <;> first | (cases hc; done) | skip
  ·split at hc <;> first | (cases hc; done) | skip
   rename_i hlc
   subst hlc
   split at hc <;> first | (cases hc; done) | skip
   rename_i e ht
   split at hc <;> first | (cases hc; done) | skip
   rename_i z i hz hi
   split at hc <;> first | (cases hc; done) | skip
   rename_i hx
   obtain rfl:=Option.some.inj hc
   exact fin ht hz hi hx (fun kd m hm=>⟨slot hm,slot hm⟩) h
  ·rename_i x y
   cases x <;> cases y <;> simp only at hc <;> first | (cases hc; done) | skip
   split at hc <;> first | (cases hc; done) | skip
   rename_i hlc
   obtain ⟨rfl,rfl⟩:=hlc
   split at hc <;> first | (cases hc; done) | skip
   rename_i e ht
   split at hc <;> first | (cases hc; done) | skip
   rename_i z i hz hi
   split at hc <;> first | (cases hc; done) | skip
   rename_i hx
   obtain rfl:=Option.some.inj hc
   exact fin ht hz hi hx (fun kd m hm=>by cases hm; exact ⟨rfl,rfl⟩) h
theorem Ztz (hG:GOk G E.W0)(hI:Inv E s Γ a w){t:TypeId}{x:Operand}{lo hi mx:Option Operand}(hop:o.op=.slice t x lo hi mx)(hc:cOp P hand draw o=some ao)(h:Zf G call s ao=some (v,s')):IR P E Γ s s' v a w o ao:=by
 cases mx with
 | some m =>
  cases lo with
  | some l=>simp only [cOp,hop] at hc; cases hc
  | none =>
   cases hi with
   | none=>simp only [cOp,hop] at hc; cases hc
   | some hi =>
    simp only [cOp,hop] at hc
    split at hc <;> first | (cases hc; done) | skip
    rename_i sh x' hi' mx' h1 h2 h3 h4
    obtain rfl:=Option.some.inj hc
    simp only [Zf] at h
    split at h <;> first | (cases h; done) | skip
    rename_i u vh vm k1 k2 k3
    replace h:=YS h; obtain ⟨h,hss⟩:=h
    subst hss
    exact (ZqS hG hI hop h1 h2 h3 h4 k1 k2 k3 h).fit hI
 | none =>
  simp only [cOp,hop] at hc
  split at hc <;> first | (cases hc; done) | skip
  rename_i sh x' lo' hi' h1 h2 h3 h4
  obtain rfl:=Option.some.inj hc
  simp only [Zf] at h
  split at h <;> first | (cases h; done) | skip
  rename_i u vl vh k1 k2 k3
  replace h:=YS h; obtain ⟨h,hss⟩:=h
  subst hss
  exact (ok_slice hG hI hop h1 h2 h3 h4 k1 k2 k3 h).fit hI
theorem Zhh (hG:GOk G E.W0)(hI:Inv E s Γ a w)(hop:(∃ t x f,o.op=.fieldAddr t x f)∨(∃ t x f,o.op=.field t x f)∨(∃ t x i,o.op=.indexAddr t x i)∨(∃ t x i,o.op=.index t x i))(hc:cOp P hand draw o=some ao)(h:Zf G call s ao=some (v,s')):IR P E Γ s s' v a w o ao:=by
 rcases hop with ⟨t,x,f,hop⟩ | ⟨t,x,f,hop⟩ | ⟨t,x,i,hop⟩ | ⟨t,x,i,hop⟩
 ·simp only [cOp,hop] at hc
  split at hc <;> first | (cases hc; done) | skip
  rename_i off n agg x' h1 h2
  obtain rfl:=Option.some.inj hc
  simp only [Zf] at h
  split at h <;> first | (cases h; done) | skip
  rename_i u hx
  replace h:=YS h; obtain ⟨h,hss⟩:=h
  subst hss
  exact (Z0B hG hI hop h1 h2 hx h).fit hI
 ·simp only [cOp,hop] at hc
  split at hc <;> first | (cases hc; done) | skip
  rename_i off n agg x' h1 h2
  obtain rfl:=Option.some.inj hc
  simp only [Zf] at h
  split at h <;> first | (cases h; done) | skip
  rename_i u hx
  replace h:=YS h; obtain ⟨h,hss⟩:=h
  subst hss
  exact (Zy6 hG hI hop h1 h2 hx h).fit hI
 ·simp only [cOp,hop] at hc
  split at hc <;> first | (cases hc; done) | skip
  all_goals
   rename_i x' i' h1 h2 h3
   obtain rfl:=Option.some.inj hc
   simp only [Zf] at h
   split at h <;> first | (cases h; done) | skip
   rename_i u n hx hi
   replace h:=YS h; obtain ⟨h,hss⟩:=h
   subst hss
   exact (Z0C hG hI hop h1 h2 h3 hx hi h).fit hI
 ·simp only [cOp,hop] at hc
  split at hc <;> first | (cases hc; done) | skip
  rename_i x' i' h1 h2 h3
  obtain rfl:=Option.some.inj hc
  simp only [Zf] at h
  split at h <;> first | (cases h; done) | skip
  rename_i u n hx hi
  replace h:=YS h; obtain ⟨h,hss⟩:=h
  subst hss
  exact (Zy7 hG hI hop h1 h2 h3 hx hi h).fit hI
theorem Zu9 (hG:GOk G E.W0)(hI:Inv E s Γ a w)(hop:(∃ t x i ok,o.op=.lookup t x i ok)∨(∃ t m k x,o.op=.mapUpdate t m k x))(hc:cOp P hand draw o=some ao)(h:Zf G call s ao=some (v,s')):IR P E Γ s s' v a w o ao:=by
 rcases hop with ⟨t,x,i,ok,hop⟩ | ⟨t,m,k,x,hop⟩
 ·simp only [cOp,hop] at hc
  split at hc <;> first | (cases hc; done) | skip
  rename_i kt et ht
  split at hc <;> first | (cases hc; done) | skip
  rename_i sh z x' i' h1 h2 h3 h4
  split at hc <;> first | (cases hc; done) | skip
  rename_i hz
  obtain rfl:=Option.some.inj hc
  simp only [Zf] at h
  split at h <;> first | (cases h; done) | skip
  rename_i u n hx hi
  replace h:=YS h; obtain ⟨h,hss⟩:=h
  subst hss
  exact (Zwg hG hI hop ht h1 h2 hz h3 h4 hx hi h).fit
 ·simp only [cOp,hop] at hc
  split at hc <;> first | (cases hc; done) | skip
  rename_i kt et ht
  split at hc <;> first | (cases hc; done) | skip
  rename_i sh m' k' x' h1 h2 h3 h4
  obtain rfl:=Option.some.inj hc
  simp only [Zf] at h
  split at h <;> first | (cases h; done) | skip
  rename_i g ka va hm hk hv
  split at h <;> first | (cases h; done) | skip
  rename_i es hg
  split at h <;> first | (cases h; done) | skip
  rename_i hf
  simp only [Bool.and_eq_true] at hf
  split at h <;> first | (cases h; done) | skip
  rename_i es' hu
  cases h
  exact (Zwj hG hI hop ht h1 h2 h3 h4 hm hk hv hg hf.1 hf.2 (Ze7 hu) hu).fit
theorem ZkT (hG:GOk G E.W0)(hI:Inv E s Γ a w)(hop:(∃ t x,o.op=.range t x)∨(∃ x b,o.op=.next x b)∨(∃ x i,o.op=.extract x i))(hc:cOp P hand draw o=some ao)(h:Zf G call s ao=some (v,s')):IR P E Γ s s' v a w o ao:=by
 rcases hop with ⟨t,x,hop⟩ | ⟨x,b,hop⟩ | ⟨x,i,hop⟩
 ·simp only [cOp,hop] at hc
  split at hc <;> first | (cases hc; done) | skip
  rename_i ht
  obtain ⟨x',hx',rfl⟩:=Option.map_eq_some_iff.1 hc
  simp only [Zf] at h
  split at h <;> first | (cases h; done) | skip
  rename_i l hx
  cases h
  exact (Ztx hG hI hop ht hx' hx).fit
 ·cases b with
  | false=>simp only [cOp,hop] at hc; cases hc
  | true =>
   simp only [cOp,hop] at hc
   obtain ⟨x',hx',rfl⟩:=Option.map_eq_some_iff.1 hc
   simp only [Zf] at h
   split at h <;> first | (cases h; done) | skip
   rename_i g hx
   split at h <;> first | (cases h; done) | skip
   rename_i l pos hg
   split at h
   ·rename_i hlt
    cases h
    exact (Zwk hG hI hop hx' hx hg hlt).fit
   ·rename_i hlt
    cases h
    exact (ZkS hG hI hop hx' hx hg hlt).fit
 ·simp only [cOp,hop] at hc
  obtain ⟨x',hx',rfl⟩:=Option.map_eq_some_iff.1 hc
  simp only [Zf] at h
  split at h <;> first | (cases h; done) | skip
  rename_i vs hx
  obtain ⟨u,h1,h2⟩:=Option.map_eq_some_iff.1 h
  cases h2
  exact (Zoo hG hI hop hx' hx h1).fit hI
end
end Go.Proofs.YtgjcjbhhhlelnaaGreatDoor.Abs
end
section
namespace Go.Proofs.YtgjcjbhhhlelnaaGreatDoor.Abs
open Go Go.RowKit
def ZuV (P:Program)(f:FuncId)(xs:Array Value)(w:World)(R:Value→World→Prop):Prop :=
 (callFunc f xs).run P w=.ok (.enter f xs) w∧Calls P f xs w fun e w''=>∃ v,e=.returned v∧R v w''
theorem ZuV.mono {P:Program}{f:FuncId}{xs:Array Value}{w:World}{R R':Value→World→Prop}(h:ZuV P f xs w R)(hr:∀ v w',R v w'→R' v w'):ZuV P f xs w R' :=
 ⟨h.1,h.2.mono fun _ w'' ⟨v,hv,h⟩=>⟨v,hv,hr v w'' h⟩⟩
structure Tidy (Γ:ZB)(n:Nat):Prop where
 res:∀ b m,Γ b≠.list m .res
 arg:∀ b m j,Γ b≠.list m (.arg j)
 cell:∀ b m g i,Γ b=.list m (.cell g i)→g < n
def Yd (P:Program)(W0:World)(F:FuncId→List AV→List Zn→Option (AV×List Zn×Eff)):Prop :=
 ∀ f args hp v hp' e,F f args hp=some (v,hp',e)→∀ (Γ:ZB) (w:World) (xs:Array Value),RW W0 Γ w hp→Tidy Γ hp.length→xs.size=args.length →
  (∀ j x,args[j]? = some x→Rep Γ w x (xs.getD j Go.undef)∧OwnAt Γ w (.slot j) x (xs.getD j Go.undef)) →
  ZuV P f xs w fun cv w'=>∃ Γ',RW W0 Γ' w' hp'∧Rep Γ' w' v cv∧OwnAt Γ' w' .res v cv∧Frame Γ w Γ' w' e∧hp.length≤hp'.length∧∀ b g,Γ' b=.own g→g < hp.length→Γ b=.own g
theorem QU.own {o g:Nat}:¬ QU o (.own g):=fun h=>h
theorem RW.alike {W0 w:World}{Γ Γ':ZB}{hp:List Zn}(h:RW W0 Γ w hp)(hf:Yo Γ w Γ' w)(ho:∀ b g,Γ b=.own g↔Γ' b=.own g)
  (hc:∀ b n g i,g < hp.length→Γ b=.list n (.cell g i)→Γ' b=.list n (.cell g i)) (hi:∀ b,Γ b=.imm→Γ' b=.imm):RW W0 Γ' w hp:=by
 have hom:YJ Γ Γ':=fun b g hb=>(ho b g).1 hb
 refine ⟨fun g o hg=>?_,fun b b' g h1 h2=>h.inj b b' g ((ho b g).2 h1) ((ho b' g).2 h2),fun b hb=>hi b (h.fresh b hb),fun b g hb=>h.lt b g ((ho b g).2 hb),h.old,fun b hb=>hi b (h.oldImm b hb),fun g hg b hb=>h.dead g hg b ((ho b g).2 hb)⟩
 have hlt:=Zt hg
 have:=h.objs g o hg
 cases o with
 | dead=>trivial
 | cells cs t =>
  obtain ⟨b,C,h1,h2,h3,h4⟩:=this
  refine ⟨b,C,hom b g h1,h2,h3,fun i c hc'=>?_⟩
  obtain ⟨a1,a2,a3⟩:=h4 i c hc'
  exact ⟨a1,a2.mono hf hom,a3.mono hf hom fun b n hb=>⟨hc b n g i hlt hb,rfl⟩⟩
 | map es =>
  obtain ⟨b,ms,clk,h1,h2,h3,h4⟩:=this
  exact ⟨b,ms,clk,hom b g h1,h2,h3,h4⟩
 | iter s pos =>
  obtain ⟨b,h1,h2⟩:=this
  exact ⟨b,hom b g h1,h2⟩
 | buf _ _ _ =>
  obtain ⟨b,C,h1,h2,h3⟩:=this
  exact ⟨b,C,hom b g h1,h2,h3.mono fun b n i hb=>⟨hc b n g i hlt hb,rfl⟩⟩
def XY (n:Nat):Kind→Kind
 | .list m (.slot _)=>.list m .outer
 | .list m .res=>.list m .outer
 | .list m (.arg j)=>.list m (.slot j)
 | .list m (.cell g i)=>if g < n then .list m (.cell g i) else .imm
 | k=>k
def Zby:Kind→Kind→Kind
 | .list m (.slot t),_=>.list m (.slot t)
 | _,.list _ (.slot _)=>.imm
 | _,.list _ (.arg _)=>.imm
 | _,k=>k
theorem Zeb {n o:Nat}{k:Kind}(h:QU o k):QU o (XY n k):=by
 cases k with
 | imm=>trivial
 | own g=>exact h.elim
 | list m l =>
  cases l <;> simp only [XY] <;> first | exact h | skip
  split
  ·exact h
  ·trivial
theorem AQ {n g:Nat}{k:Kind}:k=.own g↔XY n k=.own g:=by
 cases k with
 | imm=>simp [XY]
 | own g=>simp [XY]
 | list m l =>
  cases l <;> simp only [XY] <;> try simp
  split <;> simp
theorem ZrJ {n:Nat}{k:Kind}(h:k=.imm):XY n k=.imm:=by subst h; rfl
theorem ZrK (Γ:ZB)(n:Nat):Tidy (fun b=>XY n (Γ b)) n:=by
 refine ⟨fun b m h=>?_,fun b m j h=>?_,fun b m g i h=>?_⟩ <;> revert h <;> cases Γ b with
 | imm=>simp [XY]
 | own g=>simp [XY]
 | list m l =>
  cases l <;> simp only [XY] <;> try simp
  try (split <;> simp <;> try omega)
theorem RW.seen {W0 w:World}{Γ:ZB}{hp:List Zn}(h:RW W0 Γ w hp):RW W0 (fun b=>XY hp.length (Γ b)) w hp :=
 h.alike (fun _ _ _ h1 h2=>⟨Zeb h1,h2⟩) (fun _ _=>AQ) (fun b n g i hl hb=>by simp [hb,XY,hl]) (fun _=>ZrJ)
end Go.Proofs.YtgjcjbhhhlelnaaGreatDoor.Abs
end
section
namespace Go.Proofs.YtgjcjbhhhlelnaaGreatDoor.Abs
open Go Go.RowKit
section
variable {P:Program}{G:Nat→Option (List AV)}{E:Entry}{s:Zd}{Γ:ZB}{a:Act}{w:World}
theorem Inv.hand (h:Inv E s Γ a w)(m:Loc)(t:Nat){v:AV}(hv:s.sl[t]? = some v) :
  ∃ Γ',Inv E (s.let_ t) Γ' a w∧Rep Γ' w v (a.tmps.getD t Go.undef)∧OwnAt Γ' w m v (a.tmps.getD t Go.undef)∧Yo Γ w Γ' w∧YJ Γ Γ'∧∀ b n j,Γ b=.list n (.arg j)→Γ' b=.list n (.arg j):=by
 have f1:=Xq (Γ := Γ) (w := w) (l := .slot t) (WM (l := m))
 have o1:YJ Γ (relab Γ (.slot t) (LV m)):=WV
 refine ⟨relab Γ (.slot t) (LV m),⟨h.defers,⟨by simpa [Zd.let_] using h.slots.size,fun u x hx=>?_,fun u x hx=>?_⟩,h.rw.relab WM W9 (by simp),h.fr.relab (l := .slot t) WM trivial,h.base,h.base2,h.le,fun b g hb=>h.back b g (Yw W9 hb)⟩,?_,?_,f1,o1,fun b n j hb=>QE hb (by simp)⟩
 ·simp only [Zd.let_,List.getElem?_modify] at hx
  obtain ⟨y,hy,e⟩:=Option.map_eq_some_iff.1 hx
  have:=(h.slots.rep u y hy).mono f1 o1
  split at e
  ·subst e; exact this.ro
  ·subst e; exact this
 ·simp only [Zd.let_,List.getElem?_modify] at hx
  obtain ⟨y,hy,e⟩:=Option.map_eq_some_iff.1 hx
  split at e
  ·subst e; exact .of_ro _ _ _ _ _
  ·rename_i ne
   subst e
   exact (h.slots.own u y hy).mono f1 o1 fun b n hb=>⟨QE hb (by simp; omega),rfl⟩
 ·exact (h.slots.rep t v hv).mono f1 o1
 ·exact (h.slots.own t v hv).mono f1 o1 fun b n hb=>⟨A7 hb,rfl⟩
theorem ZuX (hG:GOk G E.W0):∀ {args:List (Nat ⊕ Ym)} {ts:List TypeId} {xs:List Operand} {hand:Nat→Bool} {vs sl:List AV} (k:Nat) {s:Zd} {Γ:ZB},Inv E s Γ a w→ER P hand ts xs=some args→Qe G s.sl args=some (vs,sl) →
  ∃ Γ',Inv E { s with sl:=sl } Γ' a w∧Yo Γ w Γ' w∧YJ Γ Γ'∧(∀ b n j,j < k→Γ b=.list n (.arg j)→Γ' b=.list n (.arg j))∧vs.length=xs.length ∧
   ∀ j v,vs[j]? = some v→∃ x,xs[j]? = some x∧Rep Γ' w v (a.eval x)∧OwnAt Γ' w (.arg (k + j)) v (a.eval x):=by
 intro args
 induction args with
 | nil =>
  intro ts xs hand vs sl k s Γ hI hc h
  simp only [Qe,Option.some.injEq,Prod.mk.injEq] at h
  obtain ⟨rfl,rfl⟩:=h
  have:xs=[]:=by
   cases xs with
   | nil=>rfl
   | cons x xs =>
    cases ts with
    | nil=>simp [ER] at hc
    | cons t ts =>
     simp only [ER] at hc
     split at hc <;> simp at hc
  subst this
  exact ⟨Γ,hI,.refl _ _,.refl _,fun _ _ _ _ h=>h,rfl,fun j v hv=>by simp at hv⟩
 | cons p args ih =>
  intro ts xs hand vs sl k s Γ hI hc h
  cases xs with
  | nil=>cases ts <;> simp [ER] at hc
  | cons x xs =>
   cases ts with
   | nil=>simp [ER] at hc
   | cons t ts =>
    simp only [ER] at hc
    split at hc
    case h_2=>cases hc
    rename_i y l hy hl
    obtain ⟨rfl,rfl⟩:=List.cons.inj (Option.some.inj hc)
    have step:∀ (v:AV) (s1:Zd) (Γ1:ZB) (vs1:List AV),Inv E s1 Γ1 a w→s1.hp=s.hp→s1.ef=s.ef→s1.bs=s.bs→Yo Γ w Γ1 w→YJ Γ Γ1→(∀ b n j,j < k→Γ b=.list n (.arg j)→Γ1 b=.list n (.arg j)) →
      Rep Γ1 w v (a.eval x)→OwnAt Γ1 w (.arg k) v (a.eval x)→Qe G s1.sl l=some (vs1,sl)→vs=v :: vs1 →
      ∃ Γ',Inv E { s with sl:=sl } Γ' a w∧Yo Γ w Γ' w∧YJ Γ Γ'∧(∀ b n j,j < k→Γ b=.list n (.arg j)→Γ' b=.list n (.arg j))∧vs.length=(x :: xs).length ∧
       ∀ j v,vs[j]? = some v→∃ x',(x :: xs)[j]? = some x'∧Rep Γ' w v (a.eval x')∧OwnAt Γ' w (.arg (k + j)) v (a.eval x'):=by
     intro v s1 Γ1 vs1 i1 e1 e2 e3 f1 o1 k1 r1 w1 h1 hvs
     obtain ⟨Γ2,i2,f2,o2,k2,hlen,hall⟩:=ih (k + 1) i1 hl h1
     subst hvs
     refine ⟨Γ2,by rw [← e1,← e2,← e3]; exact i2,f1.trans f2,o1.trans o2,fun b n j hj hb=>k2 b n j (by omega) (k1 b n j hj hb),by simp [hlen],fun j u hu=>?_⟩
     cases j with
     | zero =>
      obtain rfl:=Option.some.inj hu
      exact ⟨x,rfl,r1.mono f2 o2,w1.mono f2 o2 fun b n hb=>⟨k2 b n k (by omega) hb,rfl⟩⟩
     | succ j =>
      obtain ⟨x',hx',hr,ho⟩:=hall j u (by simpa using hu)
      exact ⟨x',by simpa using hx',hr,by rw [show k + (j + 1)=k + 1 + j by omega]; exact ho⟩
    have plain:∀ (q:Ym),ZT P t x=some q∨(∃ i,x=.tmp i∧q=.tmp i)→y=.inr q →
      ∃ Γ',Inv E { s with sl:=sl } Γ' a w∧Yo Γ w Γ' w∧YJ Γ Γ'∧(∀ b n j,j < k→Γ b=.list n (.arg j)→Γ' b=.list n (.arg j))∧vs.length=(x :: xs).length ∧
       ∀ j v,vs[j]? = some v→∃ x',(x :: xs)[j]? = some x'∧Rep Γ' w v (a.eval x')∧OwnAt Γ' w (.arg (k + j)) v (a.eval x'):=by
     intro q hq hp
     subst hp
     have hq:ZT P t x=some q:=by
      rcases hq with h | ⟨i,rfl,rfl⟩
      ·exact h
      ·rfl
     simp only [Qe] at h
     split at h
     case h_2=>cases h
     rename_i v hv
     obtain ⟨p1,h1,h2⟩:=Option.map_eq_some_iff.1 h
     obtain ⟨rfl,rfl⟩:=Prod.mk.inj h2
     exact step v s Γ p1.1 hI rfl rfl rfl (.refl _ _) (.refl _) (fun _ _ _ _ h=>h) (Zr hG hI hq hv).1 (ZpA hG hI _ hq hv) h1 rfl
    split at hy
    ·rename_i i
     split at hy
     ·obtain rfl:=Option.some.inj hy
      simp only [Qe] at h
      split at h
      case h_2=>cases h
      rename_i v hv
      obtain ⟨p1,h1,h2⟩:=Option.map_eq_some_iff.1 h
      obtain ⟨rfl,rfl⟩:=Prod.mk.inj h2
      obtain ⟨Γ1,i1,r1,w1,f1,o1,k1⟩:=hI.hand (.arg k) i hv
      exact step v (s.let_ i) Γ1 p1.1 i1 rfl rfl rfl f1 o1 (fun b n j _ hb=>k1 b n j hb) r1 w1 h1 rfl
     ·exact plain _ (.inr ⟨i,rfl,rfl⟩) (Option.some.inj hy).symm
    ·obtain ⟨q,hq,rfl⟩:=Option.map_eq_some_iff.1 hy
     exact plain q (.inl hq) rfl
theorem Zbe {s:Zd}{e:Eff}{g:Nat}(hg:g < s.bs)(h:La (s.after e) g):La s.ef g∧La e g:=by
 cases e with
 | none=>exact ⟨h,fun _ _ e=>by cases e⟩
 | some p =>
  obtain ⟨x,y⟩:=p
  simp only [Zd.after] at h
  split at h
  ·obtain ⟨h1,h2⟩:=Zkc h
   exact ⟨h1,fun _ _ e=>by cases e; exact h2⟩
  ·exact ⟨h,fun _ _ e=>by cases e; omega⟩
theorem Inv.called (hI:Inv E s Γ a w){Γ':ZB}{w':World}{hp:List Zn}{e:Eff}{v:AV}{cv:Value}(hr:RW E.W0 Γ' w' hp)(hv:Rep Γ' w' v cv)(ho:OwnAt Γ' w' .res v cv)
  (hf:Frame (fun b=>XY s.hp.length (Γ b)) w Γ' w' e) (hle:s.hp.length≤hp.length∧∀ b g,Γ' b=.own g→g < s.hp.length→XY s.hp.length (Γ b)=.own g) :
  ∃ Γ'',Inv E { sl := s.sl,hp := hp,ef := s.after e,bs := s.bs } Γ'' a w'∧Rep Γ'' w' v cv∧OwnAt Γ'' w' .res v cv:=by
 have lt:∀ b,Γ b≠.imm→b < w.heap.size:=fun b hb=>by
  rcases Nat.lt_or_ge b w.heap.size with h' | h'
  ·exact h'
  ·exact absurd (hI.rw.fresh b h') hb
 have slot:∀ b m t,Γ b=.list m (.slot t)→Γ' b=.list m .outer∧w'.heap[b]? = w.heap[b]?:=fun b m t hb=>by
  obtain ⟨e1,e2⟩:=hf.keep b (lt b (by rw [hb]; simp)) (by simp only [hb,XY,Kept])
  exact ⟨by rw [e1]; simp [hb,XY],e2⟩
 have back:∀ b,(∃ m t,Γ b=.list m (.slot t)∧Γ' b=.list m .outer∧Zby (Γ b) (Γ' b)=.list m (.slot t))∨((∀ m t,Γ b≠.list m (.slot t))∧∀ k,(∀ m t,k≠.list m (.slot t))→(∀ m t,k≠.list m (.arg t))→Γ' b=k→Zby (Γ b) (Γ' b)=k):=by
  intro b
  cases hb:Γ b with
  | imm=>refine .inr ⟨by simp,fun k h1 h2 h3=>?_⟩; subst h3; cases hg:Γ' b with
   | list m l=>rw [hg] at h1 h2; cases l <;> first | rfl | exact absurd rfl (h1 _ _) | exact absurd rfl (h2 _ _)
   | _=>rfl
  | own g=>refine .inr ⟨by simp,fun k h1 h2 h3=>?_⟩; subst h3; cases hg:Γ' b with
   | list m l=>rw [hg] at h1 h2; cases l <;> first | rfl | exact absurd rfl (h1 _ _) | exact absurd rfl (h2 _ _)
   | _=>rfl
  | list n q =>
   cases q with
   | slot t=>exact .inl ⟨n,t,rfl,(slot b n t hb).1,rfl⟩
   | _ =>
    refine .inr ⟨by simp,fun k h1 h2 h3=>?_⟩; subst h3; cases hg:Γ' b with
    | list m l=>rw [hg] at h1 h2; cases l <;> first | rfl | exact absurd rfl (h1 _ _) | exact absurd rfl (h2 _ _)
    | _=>rfl
 have imm':∀ b,(∀ m t,Γ b≠.list m (.slot t))→(∃ m t,Γ' b=.list m (.slot t))∨(∃ m t,Γ' b=.list m (.arg t))→Zby (Γ b) (Γ' b)=.imm:=by
  intro b h h2
  cases hb:Γ b with
  | imm=>rcases h2 with ⟨m,t,e⟩ | ⟨m,t,e⟩ <;> rw [e] <;> rfl
  | own g=>rcases h2 with ⟨m,t,e⟩ | ⟨m,t,e⟩ <;> rw [e] <;> rfl
  | list n q=>cases q with
   | slot t=>exact absurd hb (h n t)
   | _=>rcases h2 with ⟨m,t,e⟩ | ⟨m,t,e⟩ <;> rw [e] <;> rfl
 have f3:Yo Γ' w' (fun b=>Zby (Γ b) (Γ' b)) w':=by
  intro b o v h1 h2
  refine ⟨?_,h2⟩
  unfold LJ at h1 ⊢
  rcases back b with ⟨m,t,e1,e2,e3⟩ | ⟨h,h'⟩
  ·show QU o (Zby (Γ b) (Γ' b))
   rw [e3]
   rw [e2] at h1
   exact h1
  ·show QU o (Zby (Γ b) (Γ' b))
   by_cases hs:(∃ m t,Γ' b=.list m (.slot t))∨(∃ m t,Γ' b=.list m (.arg t))
   ·rw [imm' b h hs]; trivial
   ·rw [h' (Γ' b) (fun m t e=>hs (.inl ⟨m,t,e⟩)) (fun m t e=>hs (.inr ⟨m,t,e⟩)) rfl]; exact h1
 have own':∀ b g,Γ' b=.own g↔Zby (Γ b) (Γ' b)=.own g:=by
  intro b g
  rcases back b with ⟨m,t,e1,e2,e3⟩ | ⟨h,h'⟩
  ·rw [e3,e2]; simp
  ·by_cases hs:(∃ m t,Γ' b=.list m (.slot t))∨(∃ m t,Γ' b=.list m (.arg t))
   ·rw [imm' b h hs]
    rcases hs with ⟨m,t,e⟩ | ⟨m,t,e⟩ <;> rw [e] <;> simp
   ·rw [h' (Γ' b) (fun m t e=>hs (.inl ⟨m,t,e⟩)) (fun m t e=>hs (.inr ⟨m,t,e⟩)) rfl]
 have keepL:∀ b k,(∀ m,k≠.list m .outer)→(∀ m t,k≠.list m (.slot t))→(∀ m t,k≠.list m (.arg t))→Γ' b=k→Zby (Γ b) (Γ' b)=k:=by
  intro b k h0 h1 h2 hb
  rcases back b with ⟨m,t,e1,e2,e3⟩ | ⟨h,h'⟩
  ·rw [e2] at hb; exact absurd hb.symm (h0 m)
  ·exact h' k h1 h2 hb
 have o3:YJ Γ' (fun b=>Zby (Γ b) (Γ' b)):=fun b g hb=>(own' b g).1 hb
 have f1:Yo Γ w (fun b=>XY s.hp.length (Γ b)) w:=fun _ _ _ h1 h2=>⟨Zeb h1,h2⟩
 have o1:YJ Γ (fun b=>XY s.hp.length (Γ b)):=fun b g hb=>AQ.1 hb
 have fAll:=(f1.trans hf.fix).trans f3
 have oAll:=(o1.trans hf.own).trans o3
 refine ⟨fun b=>Zby (Γ b) (Γ' b),⟨hI.defers,⟨hI.slots.size,fun t x hx=>(hI.slots.rep t x hx).mono fAll oAll,fun t x hx=>(hI.slots.own t x hx).mono fAll oAll fun b n hb=>?_⟩,?_,?_,hI.base,hI.base2,Nat.le_trans hI.le hle.1,fun b g hb hl=>hI.back b g (AQ.2 (hle.2 b g ((own' b g).2 hb) (Nat.lt_of_lt_of_le hl hI.le))) hl⟩,hv.mono f3 o3,ho.mono f3 o3 fun b n hb=>⟨keepL b _ (by simp) (by simp) (by simp) hb,rfl⟩⟩
 ·refine ⟨?_,(slot b n t hb).2⟩
  show Zby (Γ b) (Γ' b)=_
  rw [hb]; rfl
 ·exact hr.alike f3 own' (fun b n g i _ hb=>keepL b _ (by simp) (by simp) (by simp) hb) (fun b hb=>keepL b _ (by simp) (by simp) (by simp) hb)
 ·refine ⟨hf.os.trans hI.fr.os,hf.tape.trans hI.fr.tape,hf.output.trans hI.fr.output,Nat.le_trans hI.fr.size hf.size,hI.fr.fix.trans fAll,hI.fr.own.trans oAll,fun b hb hk=>?_⟩
  have hb':=Nat.lt_of_lt_of_le hb hI.fr.size
  cases hg:E.Γ0 b with
  | imm =>
   obtain ⟨e1,e2⟩:=hI.fr.keep b hb (by rw [hg]; trivial)
   rw [hg] at e1
   obtain ⟨e3,e4⟩:=hf.keep b hb' (by simp only [e1,XY,Kept])
   simp only [e1,XY] at e3
   exact ⟨keepL b _ (by simp) (by simp) (by simp) e3,e4.trans e2⟩
  | own g =>
   rw [hg] at hk
   obtain ⟨s1,s2⟩:=Zbe (hI.base b g hg) hk
   obtain ⟨e1,e2⟩:=hI.fr.keep b hb (by rw [hg]; exact s1)
   rw [hg] at e1
   obtain ⟨e3,e4⟩:=hf.keep b hb' (by simp only [e1,XY,Kept]; exact s2)
   simp only [e1,XY] at e3
   exact ⟨keepL b _ (by simp) (by simp) (by simp) e3,e4.trans e2⟩
  | list n m =>
   rw [hg] at hk
   cases m with
   | outer =>
    obtain ⟨e1,e2⟩:=hI.fr.keep b hb (by rw [hg]; trivial)
    rw [hg] at e1
    obtain ⟨e3,e4⟩:=hf.keep b hb' (by simp only [e1,XY,Kept])
    simp only [e1,XY] at e3
    refine ⟨?_,e4.trans e2⟩
    show Zby (Γ b) (Γ' b)=_
    rw [e1,e3]; rfl
   | cell g i =>
    have hgb:=hI.base2 b n g i hg
    obtain ⟨s1,s2⟩:=Zbe hgb hk
    obtain ⟨e1,e2⟩:=hI.fr.keep b hb (by rw [hg]; exact s1)
    rw [hg] at e1
    have hlt:g < s.hp.length:=Nat.lt_of_lt_of_le hgb hI.le
    obtain ⟨e3,e4⟩:=hf.keep b hb' (by simp only [e1,XY,if_pos hlt,Kept]; exact s2)
    simp only [e1,XY,if_pos hlt] at e3
    exact ⟨keepL b _ (by simp) (by simp) (by simp) e3,e4.trans e2⟩
   | slot t=>exact hk.elim
   | res=>exact hk.elim
   | arg j=>exact hk.elim
end
end Go.Proofs.YtgjcjbhhhlelnaaGreatDoor.Abs
end
section
namespace Go.Proofs.YtgjcjbhhhlelnaaGreatDoor.Abs
open Go Go.RowKit
section
variable {P:Program}{G:Nat→Option (List AV)}{call:FuncId→List AV→List Zn→Option (AV×List Zn×Eff)}{E:Entry}{s s':Zd}{Γ:ZB}{a:Act}{w:World}{o:Oper}{hand:Nat→Bool}{draw:Bool}{ao:AOp}{v:AV}
theorem Zky {c:Call}{b:Callee}{xs:List Operand}{ts:List TypeId}(h0:c.callee=b)(h1:c.args.toList=xs)(h2:c.argTypes.toList=ts):c={ callee := b,args := xs.toArray,argTypes := ts.toArray }:=by
 cases c with
 | mk q xs' ts'=>subst h0 h1 h2; simp
theorem Zoq (hG:GOk G E.W0)(hI:Inv E s Γ a w){c:Call}(hop:o.op=.call c)(hnv:∀ f,c.callee≠.value f)(hc:cOp P hand draw o=some ao)(h:Zf G call s ao=some (v,s')):IR P E Γ s s' v a w o ao:=by
 simp only [cOp,hop] at hc
 split at hc
 ·rename_i f hf; exact absurd hf (hnv f)
 ·rename_i hf
  split at hc <;> first | (cases hc; done) | skip
  rename_i x t hx ht
  rw [Zky hf hx ht] at hop
  split at hc <;> first | (cases hc; done) | skip
  all_goals
   rename_i hu
   obtain ⟨x',hx',rfl⟩:=Option.map_eq_some_iff.1 hc
   simp only [Zf] at h
   split at h <;> first | (cases h; done) | skip
   rename_i u hu'
   replace h:=YS h
   obtain ⟨h,hss⟩:=h
   subst hss
  ·exact (ZqP (sh := .str) hG hI hop hu hx' hu' h).fit hI
  ·exact (ZqP (sh := .slice) hG hI hop ⟨_,hu⟩ hx' hu' h).fit hI
  ·exact (ZqP (sh := .map) hG hI hop ⟨_,_,hu⟩ hx' hu' h).fit hI
 ·rename_i hf
  split at hc <;> first | (cases hc; done) | skip
  rename_i q x t u hx ht
  rw [Zky hf hx ht] at hop
  split at hc <;> first | (cases hc; done) | skip
  rename_i e hu
  split at hc <;> first | (cases hc; done) | skip
  rename_i i z hi hz
  split at hc
  case isFalse =>
   split at hc <;> first | (cases hc; done) | skip
   rename_i hk
   obtain ⟨hk1,hk2,hk3,hk4⟩:=hk
   split at hc <;> first | (cases hc; done) | skip
   rename_i sl x' hx'
   obtain rfl:=Option.some.inj hc
   simp only [Zf] at h
   split at h <;> first | (cases h; done) | skip
   rename_i k' r l hsl hy
   split at h <;> first | (cases h; done) | skip
   rename_i hh
   obtain ⟨rfl,hb⟩:=hh
   cases h
   exact (Zwe hG hI hop hu (ZsW hk4) hi hz (by rw [hk2,hk1]) hk1 hk3 hx' hsl hy hb).fit
  rename_i hk
  obtain ⟨rfl,hk1,hk2,hk3⟩:=hk
  split at hc <;> first | (cases hc; done) | skip
  ·rename_i sl x' hx'
   obtain rfl:=Option.some.inj hc
   simp only [Zf] at h
   split at h <;> first | (cases h; done) | skip
   rename_i k' r y hsl hy
   split at h <;> first | (cases h; done) | skip
   rename_i k'' r' hr
   split at h <;> first | (cases h; done) | skip
   rename_i hh
   obtain ⟨rfl,rfl,hid,hb⟩:=hh
   cases h
   exact (Zy3 hG hI hop hu hi hz hk2 hk1 hk3 hx' hsl hy hr hid hb).fit
  ·rename_i x' hx'
   obtain rfl:=Option.some.inj hc
   simp only [Zf] at h
   split at h <;> first | (cases h; done) | skip
   rename_i y hy
   split at h <;> first | (cases h; done) | skip
   rename_i k'' r' hr
   split at h <;> first | (cases h; done) | skip
   rename_i hh
   obtain ⟨rfl,hid,hb⟩:=hh
   cases h
   exact (Zwd hG hI hop hu hi hz hk2 hk1 hk3 hx' hy hr hid hb).fit
 ·rename_i hf
  split at hc <;> first | (cases hc; done) | skip
  rename_i q x t u hx ht
  rw [Zky hf hx ht] at hop
  split at hc <;> first | (cases hc; done) | skip
  rename_i e hu
  split at hc <;> first | (cases hc; done) | skip
  rename_i i hi
  split at hc <;> first | (cases hc; done) | skip
  rename_i hk
  obtain ⟨rfl,hk1⟩:=hk
  split at hc <;> first | (cases hc; done) | skip
  rename_i d' x' hd' hx'
  obtain rfl:=Option.some.inj hc
  simp only [Zf] at h
  split at h <;> first | (cases h; done) | skip
  ·rename_i g off len k'' y hd hy
   split at h <;> first | (cases h; done) | skip
   rename_i k' r cs t' hr hg
   split at h <;> first | (cases h; done) | skip
   rename_i hh
   obtain ⟨rfl,rfl,hfit,hone⟩:=hh
   cases h
   exact (Zwf hG hI hop hu hi hk1 hd' hx' hd hy hr hg hfit hone).fit
  ·rename_i k'' y hd hy
   split at h <;> first | (cases h; done) | skip
   rename_i k' r hr
   split at h <;> first | (cases h; done) | skip
   rename_i hh
   subst hh
   cases h
   exact (Ztu hG hI hop hu hi hd' hx' hd hy hr).fit
 ·rename_i hf
  split at hc <;> first | (cases hc; done) | skip
  rename_i t l ht
  split at hc <;> first | (cases hc; done) | skip
  obtain ⟨ps,hps,rfl⟩:=Option.map_eq_some_iff.1 hc
  simp only [Zf] at h
  split at h <;> first | (cases h; done) | skip
  rename_i n vs hv
  obtain ⟨r,hr,e⟩:=Option.map_eq_some_iff.1 h
  cases e
  exact (ZiZ (isMax := false) hG hI (by rw [hop]; cases c; simp only at hf; subst hf; rfl) hps hv hr).fit
 ·rename_i hf
  split at hc <;> first | (cases hc; done) | skip
  rename_i t l ht
  split at hc <;> first | (cases hc; done) | skip
  obtain ⟨ps,hps,rfl⟩:=Option.map_eq_some_iff.1 hc
  simp only [Zf] at h
  split at h <;> first | (cases h; done) | skip
  rename_i n vs hv
  obtain ⟨r,hr,e⟩:=Option.map_eq_some_iff.1 h
  cases e
  exact (ZiZ (isMax := true) hG hI (by rw [hop]; cases c; simp only at hf; subst hf; rfl) hps hv hr).fit
 ·cases hc
theorem Zu8 (hG:GOk G E.W0)(hI:Inv E s Γ a w)(hnv:∀ c f,o.op=.call c→c.callee≠.value f)(hc:cOp P hand draw o=some ao)(h:Zf G call s ao=some (v,s')):IR P E Γ s s' v a w o ao:=by
 cases hop:o.op with
 | move x=>exact Zwo hG hI hop hc h
 | assign x=>exact ZqV hG hI hop hc h
 | pick c x y=>exact Zwp hG hI hop hc h
 | alloc e=>exact ZuA hG hI (.inl ⟨_,hop⟩) hc h
 | box e x=>exact ZuA hG hI (.inr ⟨_,_,hop⟩) hc h
 | build t ps=>exact Zty hG hI hop hc h
 | buildSlice t n ps=>exact ZyF hG hI hop hc h
 | load t p=>exact Zwn hG hI hop hc h
 | store t p x=>exact Zt0 hG hI hop hc h
 | nilCheck x=>exact Zd0 hG hI (.inl ⟨_,hop⟩) hc h
 | binOp op t x y t'=>exact Zd0 hG hI (.inr (.inl ⟨_,_,_,_,_,hop⟩)) hc h
 | unOp op t x=>exact Zd0 hG hI (.inr (.inr ⟨_,_,_,hop⟩)) hc h
 | convert src dst x=>exact Zor hG hI hop hc h
 | makeFunc fn x y=>exact ZkU hG hI (.inl ⟨_,_,_,hop⟩) hc h
 | makeMap t r=>exact ZkU hG hI (.inr (.inl ⟨_,_,hop⟩)) hc h
 | makeSlice t l c=>exact ZkU hG hI (.inr (.inr ⟨_,_,_,hop⟩)) hc h
 | slice t x lo hi mx=>exact Ztz hG hI hop hc h
 | fieldAddr t x f=>exact Zhh hG hI (.inl ⟨_,_,_,hop⟩) hc h
 | field t x f=>exact Zhh hG hI (.inr (.inl ⟨_,_,_,hop⟩)) hc h
 | indexAddr t x i=>exact Zhh hG hI (.inr (.inr (.inl ⟨_,_,_,hop⟩))) hc h
 | index t x i=>exact Zhh hG hI (.inr (.inr (.inr ⟨_,_,_,hop⟩))) hc h
 | lookup t x i ok=>exact Zu9 hG hI (.inl ⟨_,_,_,_,hop⟩) hc h
 | mapUpdate t m k x=>exact Zu9 hG hI (.inr ⟨_,_,_,_,hop⟩) hc h
 | range t x=>exact ZkT hG hI (.inl ⟨_,_,hop⟩) hc h
 | next x b=>exact ZkT hG hI (.inr (.inl ⟨_,_,hop⟩)) hc h
 | extract x i=>exact ZkT hG hI (.inr (.inr ⟨_,_,hop⟩)) hc h
 | call c=>exact Zoq hG hI hop (fun f=>hnv c f hop) hc h
 | _=>simp [cOp,hop] at hc
end
end Go.Proofs.YtgjcjbhhhlelnaaGreatDoor.Abs
end
section
namespace Go.Proofs.YtgjcjbhhhlelnaaGreatDoor.Abs
open Go Go.RowKit
section
variable {P:Program}{G:Nat→Option (List AV)}{call:FuncId→List AV→List Zn→Option (AV×List Zn×Eff)}{E:Entry}{s s':Zd}{Γ:ZB}{a:Act}{w:World}{o:Oper}{hand:Nat→Bool}{draw:Bool}{ao:AOp}{v:AV}
theorem O8 {x:AV}{k:Nat}{r:List (List AV)}:x.nm≠.own k r:=by cases x <;> simp [AV.nm]
theorem three {first vs caps:List AV}{fv cv:Array Value}{xs:Array Value}(h1:fv.size=first.length)(h2:xs.size=vs.length)(h3:cv.size=caps.length){R:Nat→AV→Value→Prop}
  (k1:∀ j x,first[j]? = some x→R j x.nm (fv.getD j Go.undef)) (k2:∀ j x,vs[j]? = some x→R (first.length + j) x (xs.getD j Go.undef)) (k3:∀ j x i,caps[j]? = some x→R i x.nm (cv.getD j Go.undef)) :
  ((fv ++ xs) ++ cv).size=(first.map AV.nm ++ vs ++ caps.map AV.nm).length∧∀ j x,(first.map AV.nm ++ vs ++ caps.map AV.nm)[j]? = some x→R j x (((fv ++ xs) ++ cv).getD j Go.undef):=by
 refine ⟨by simp [h1,h2,h3],fun j x hx=>?_⟩
 have hget:∀ i,((fv ++ xs) ++ cv).getD i Go.undef=if i < first.length then fv.getD i Go.undef else if i < first.length + vs.length then xs.getD (i - first.length) Go.undef else cv.getD (i - (first.length + vs.length)) Go.undef:=by
  intro i
  simp only [Array.getD_eq_getD_getElem?,Array.getElem?_append,Array.size_append,h1,h2]
  split
  ·split
   ·rfl
   ·rfl
  ·rename_i hge
   rw [if_neg (by omega)]
 rw [hget]
 by_cases c1:j < first.length
 ·rw [if_pos c1]
  rw [List.append_assoc,List.getElem?_append_left (by simpa using c1),List.getElem?_map] at hx
  obtain ⟨y,hy,rfl⟩:=Option.map_eq_some_iff.1 hx
  exact k1 j y hy
 ·rw [if_neg c1]
  by_cases c2:j < first.length + vs.length
  ·rw [if_pos c2]
   rw [List.append_assoc,List.getElem?_append_right (by simpa using c1),List.getElem?_append_left (by simp; omega)] at hx
   simp only [List.length_map] at hx
   have:=k2 _ x hx
   rwa [show first.length + (j - first.length)=j by omega] at this
  ·rw [if_neg c2]
   rw [List.getElem?_append_right (by simp; omega),List.getElem?_map] at hx
   simp only [List.length_append,List.length_map] at hx
   obtain ⟨y,hy,rfl⟩:=Option.map_eq_some_iff.1 hx
   exact k3 _ y j hy
theorem Zm4 {c:Call}{f:Operand}(hop:o.op=.call c)(hcal:c.callee=.value f){g:FuncId}{fv cv:Array Value}(hf:a.eval f=.func (.func g) fv cv)(w:World) :
  (execOp a.eval o).run P w=(callFunc g ((fv ++ c.args.map a.eval) ++ cv)).run P w:=by
 simp only [execOp,hop]
 simp only [resolve,hcal,Deferred.ofValue,hf,Sem.run_bind,Sem.run_pure,Result.andThen_ok,invoke]
theorem Zwm (hG:GOk G E.W0)(hS:Yd P E.W0 call)(hI:Inv E s Γ a w){c:Call}{f:Operand}(hop:o.op=.call c)(hcal:c.callee=.value f)(hc:cOp P hand draw o=some ao)(h:Zf G call s ao=some (v,s'))
  {K:Act→World→Prop} {Q:Exit→Act→World→Prop} (hK:∀ Γ' cv w',Inv E s' Γ' a w'→Rep Γ' w' v cv→OwnAt Γ' w' .res v cv→K (a.put o.dst cv) w'):o.wp P a w K Q:=by
 simp only [cOp,hop,hcal] at hc
 split at hc <;> first | (cases hc; done) | skip
 rename_i f' args hf hargs
 obtain rfl:=Option.some.inj hc
 simp only [Zf] at h
 split at h <;> first | (cases h; done) | skip
 rename_i g first caps vs sl hfv hvs
 split at h <;> first | (cases h; done) | skip
 rename_i u hp e hcall
 cases h
 obtain ⟨Γ1,i1,f1,o1,_,hlen,hall⟩:=ZuX hG first.length hI hargs hvs
 have hfn:=((Zr hG hI hf hfv).1).mono f1 o1
 generalize hq:a.eval f=q at hfn
 cases hfn with
 | fn _ _ _ fv cv hs1 hr1 hs hr =>
  have f2:Yo Γ1 w (fun b=>XY s.hp.length (Γ1 b)) w:=fun _ _ _ h1 h2=>⟨Zeb h1,h2⟩
  have o2:YJ Γ1 (fun b=>XY s.hp.length (Γ1 b)):=fun b g hb=>AQ.1 hb
  obtain ⟨t1,t2⟩:=three (first := first) (vs := vs) (caps := caps) (fv := fv) (cv := cv) (xs := c.args.map a.eval) hs1 (by simp [hlen]) hs
   (R := fun j x y=>Rep (fun b=>XY s.hp.length (Γ1 b)) w x y∧OwnAt (fun b=>XY s.hp.length (Γ1 b)) w (.slot j) x y)
   (fun j x hx=>⟨((hr1 j x hx).mono f2 o2).nm,.of_ne fun _ _=>O8⟩)
   (fun j x hx=>by
    obtain ⟨y,hy,hr,ho⟩:=hall j x hx
    have:(c.args.map a.eval).getD j Go.undef=a.eval y:=by
     rw [Array.getElem?_toList] at hy
     rw [Array.getD_eq_getD_getElem?,Array.getElem?_map,hy]; rfl
    rw [this]
    exact ⟨hr.mono f2 o2,ho.mono f2 o2 fun b n hb=>⟨by simp [hb,XY],rfl⟩⟩)
   (fun j x i hx=>⟨((hr j x hx).mono f2 o2).nm,.of_ne fun _ _=>O8⟩)
  have hw:=hS g _ _ _ _ _ hcall _ w _ i1.rw.seen (ZrK Γ1 _) t1 t2
  unfold Oper.wp
  rw [Zm4 hop hcal hq]
  have fin:∀ cv w',(∃ Γ',RW E.W0 Γ' w' hp∧Rep Γ' w' v cv∧OwnAt Γ' w' .res v cv∧Frame (fun b=>XY s.hp.length (Γ1 b)) w Γ' w' e∧s.hp.length≤hp.length∧∀ b g,Γ' b=.own g→g < s.hp.length→XY s.hp.length (Γ1 b)=.own g)→K (a.put o.dst cv) w':=by
   rintro cv w' ⟨Γ',r1,r2,r3,r4,r5⟩
   obtain ⟨Γ'',j1,j2,j3⟩:=i1.called r1 r2 r3 r4 r5
   exact hK Γ'' cv w' j1 j2 j3
  obtain ⟨hrun,hw⟩:=hw
  rw [hrun,Oper.upon_enter]
  refine hw.mono fun en w'' ⟨cv',hv,hR⟩=>?_
  subst hv
  exact fin cv' w'' hR
theorem ZqX (hG:GOk G E.W0)(hS:Yd P E.W0 call)(hI:Inv E s Γ a w)(hc:cOp P hand draw o=some ao)(h:Zf G call s ao=some (v,s'))
  {K:Act→World→Prop} {Q:Exit→Act→World→Prop} (hK:∀ Γ' cv w',Inv E s' Γ' a w'→Rep Γ' w' v cv→OwnAt Γ' w' .res v cv→K (a.put o.dst cv) w'):o.wp P a w K Q:=by
 by_cases hv:∃ c f,o.op=.call c∧c.callee=.value f
 ·obtain ⟨c,f,h1,h2⟩:=hv
  exact Zwm hG hS hI h1 h2 hc h hK
 ·exact (Zu8 hG hI (fun c f h1 h2=>hv ⟨c,f,h1,h2⟩) hc h).1.wp hK
structure Behind (W w:World):Prop where
 os:w.os=W.os
 tape:w.tape=W.tape
 output:w.output=W.output
 size:W.heap.size≤w.heap.size
 upon:Upon W w
theorem Behind.inv (hI:Inv E s Γ a w){w':World}(h:Behind w w'):Inv E s Γ a w' :=
 hI.plain (X := fun _=>False) ⟨h.os,h.tape,h.output,h.size,fun b hb _=>⟨rfl,h.upon b hb⟩,fun _ _ _ h1 h2=>⟨h1,h.upon.cell h2⟩,.refl _⟩ (fun _ hx=>hx.elim) (fun _ _ h=>h) (fun b hb=>hI.rw.fresh b (Nat.le_trans h.size hb))
def Vz (n:Nat):Kind→Kind
 | .list m (.cell g i)=>if g < n then .list m (.cell g i) else .imm
 | .list m _=>.list m .outer
 | k=>k
theorem Zgc {n o:Nat}{k:Kind}(h:QU o k):QU o (Vz n k):=by
 cases k with
 | imm=>trivial
 | own g=>exact h.elim
 | list m l =>
  cases l <;> simp only [Vz] <;> first | exact h | skip
  split
  ·exact h
  ·trivial
theorem Zgd {n g:Nat}{k:Kind}:k=.own g↔Vz n k=.own g:=by
 cases k with
 | imm=>simp [Vz]
 | own g=>simp [Vz]
 | list m l =>
  cases l <;> simp only [Vz] <;> try simp
  split <;> simp
theorem ZoH (Γ:ZB)(n:Nat):Tidy (fun b=>Vz n (Γ b)) n:=by
 refine ⟨fun b m h=>?_,fun b m j h=>?_,fun b m g i h=>?_⟩ <;> revert h <;> cases Γ b with
 | imm=>simp [Vz]
 | own g=>simp [Vz]
 | list m l =>
  cases l <;> simp only [Vz] <;> try simp
  try (split <;> simp <;> try omega)
theorem ZoG (n:Nat)(k:Kind):Kept none (Vz n k):=by
 cases k with
 | imm=>trivial
 | own g=>exact fun _ _ e=>by cases e
 | list m l =>
  cases l <;> simp only [Vz] <;> try trivial
  split
  ·exact fun _ _ e=>by cases e
  ·trivial
theorem RW.quiet {W0 w:World}{Γ:ZB}{hp:List Zn}(h:RW W0 Γ w hp):RW W0 (fun b=>Vz hp.length (Γ b)) w hp :=
 h.alike (fun _ _ _ h1 h2=>⟨Zgc h1,h2⟩) (fun _ _=>Zgd) (fun b n g i hl hb=>by simp [hb,Vz,hl]) (fun b hb=>by simp [hb,Vz])
theorem Zf6 (hG:GOk G E.W0)(hI:Inv E s Γ a w):∀ {args:List (Nat ⊕ Ym)} {ts:List TypeId} {xs:List Operand} {hand:Nat→Bool} {vs sl:List AV},ER P hand ts xs=some args→noHand (.call (.glob 0) args)=true →
  Qe G s.sl args=some (vs,sl)→sl=s.sl∧vs.length=xs.length∧∀ (j:Nat) (v:AV),vs[j]? = some v→∃ x,xs[j]? = some x∧Rep Γ w v (a.eval x)∧∀ k r,v=.own k r→r=[]∧a.eval x=.slice none 0 0:=by
 intro args
 induction args with
 | nil =>
  intro ts xs hand vs sl hc _ h
  simp only [Qe,Option.some.injEq,Prod.mk.injEq] at h
  obtain ⟨rfl,rfl⟩:=h
  have:xs=[]:=by
   cases xs with
   | nil=>rfl
   | cons x xs =>
    cases ts with
    | nil=>simp [ER] at hc
    | cons t ts =>
     simp only [ER] at hc
     split at hc <;> simp at hc
  subst this
  exact ⟨rfl,rfl,fun j v hv=>by simp at hv⟩
 | cons p args ih =>
  intro ts xs hand vs sl hc hq h
  cases xs with
  | nil=>cases ts <;> simp [ER] at hc
  | cons x xs =>
   cases ts with
   | nil=>simp [ER] at hc
   | cons t ts =>
    simp only [ER] at hc
    split at hc
    case h_2=>cases hc
    rename_i y l hy hl
    obtain ⟨rfl,rfl⟩:=List.cons.inj (Option.some.inj hc)
    simp only [noHand,List.all_cons,Bool.and_eq_true] at hq
    cases y with
    | inl i=>exact absurd hq.1 (by simp)
    | inr q =>
     have hqx:ZT P t x=some q:=by
      split at hy
      ·rename_i i
       split at hy
       ·cases hy
       ·cases hy; rfl
      ·obtain ⟨q',h1,h2⟩:=Option.map_eq_some_iff.1 hy
       cases h2; exact h1
     simp only [Qe] at h
     split at h
     case h_2=>cases h
     rename_i v hv
     obtain ⟨p1,h1,h2⟩:=Option.map_eq_some_iff.1 h
     obtain ⟨rfl,rfl⟩:=Prod.mk.inj h2
     obtain ⟨e1,e2,e3⟩:=ih hl hq.2 h1
     obtain ⟨r1,r2⟩:=Zr hG hI hqx hv
     refine ⟨e1,by simp [e2],fun j u hu=>?_⟩
     cases j with
     | zero =>
      obtain rfl:=Option.some.inj hu
      exact ⟨x,rfl,r1,r2⟩
     | succ j =>
      obtain ⟨x',hx',hr⟩:=e3 j u (by simpa using hu)
      exact ⟨x',by simpa using hx',hr⟩
theorem O5 {Γ Γ':ZB}{w w':World}{v:AV}{cv:Value}(h:Rep Γ w v cv)(hf:v.flat1=true):Rep Γ' w' v cv:=by
 rw [h.conc1 hf]; exact Jm hf Γ' w'
theorem ZbM {Γ Γ':ZB}{w w':World}{v:AV}{cv:Value}(h:Rep Γ w v cv)(hf:v.flat=true):Rep Γ' w' v cv:=by
 cases h with
 | agg cells cv hs h1 hn hr =>
  simp only [AV.flat,List.all_eq_true] at hf
  exact .agg cells cv hs h1 hn fun j c hc=>O5 (hr j c hc) (hf c (List.mem_of_getElem? hc))
 | tup vs cv hs hr =>
  simp only [AV.flat,List.all_eq_true] at hf
  exact .tup vs cv hs fun j c hc=>O5 (hr j c hc) (hf c (List.mem_of_getElem? hc))
 | fn f fst caps fv cv hs1 hr1 hs hr=>exact O5 (Rep.fn f fst caps fv cv hs1 hr1 hs hr) hf
 | undef=>exact .undef
 | bool=>exact .bool _
 | int=>exact .int _ _
 | str=>exact .str _
 | nilp=>exact .nilp
 | nilf=>exact .nilf
 | nilm=>exact .nilm
 | nili=>exact .nili
 | _=>cases hf
theorem Behind.refl (w:World):Behind w w:=⟨rfl,rfl,rfl,Nat.le_refl _,.refl w⟩
theorem Zs9 {v:AV}(h:v.flat=true):∀ k r,v≠.own k r:=by cases v <;> first | (cases h; done) | simp
theorem Zng (hG:GOk G E.W0)(hS:Yd P E.W0 call)(hI:Inv E s Γ a w)(hc:cOp P hand draw o=some ao)(hq:ZdG ao=true)(hn:noHand ao=true)(h:Zf G (Q3 call) s ao=some (v,s'))
  {K:Act→Prop} (hK:∀ cv,s'=s→Rep Γ w v cv→(∀ l,OwnAt Γ w l v cv)→K (a.put o.dst cv)):o.quiet P a (Behind w) K:=by
 by_cases hv:∃ c f,o.op=.call c∧c.callee=.value f
 ·obtain ⟨c,f,hop,hcal⟩:=hv
  simp only [cOp,hop,hcal] at hc
  split at hc <;> first | (cases hc; done) | skip
  rename_i f' args hf hargs
  obtain rfl:=Option.some.inj hc
  simp only [Zf] at h
  split at h <;> first | (cases h; done) | skip
  rename_i g first caps vs sl hfv hvs
  split at h <;> first | (cases h; done) | skip
  rename_i u hp e hcall
  cases h
  unfold Q3 at hcall
  split at hcall <;> first | (cases hcall; done) | skip
  rename_i u' hp1 hcall1
  split at hcall <;> first | (cases hcall; done) | skip
  rename_i hflat
  cases hcall
  obtain ⟨q1,q2,q3⟩:=Zf6 hG hI hargs hn hvs
  subst q1
  have main:∀ w',Behind w w'→o.quietAt P a (Behind w) w' v.conc∧∃ Γ' w'',Rep Γ' w'' v v.conc:=by
   intro w' hw'
   have hI':=hw'.inv hI
   obtain ⟨_,_,q3⟩:=Zf6 hG hI' hargs hn hvs
   have hfn:=(Zr hG hI' hf hfv).1
   generalize hq:a.eval f=q at hfn
   cases hfn with
   | fn _ _ _ fv cv hs1 hr1 hs hr =>
    have f2:Yo Γ w' (fun b=>Vz s.hp.length (Γ b)) w':=fun _ _ _ h1 h2=>⟨Zgc h1,h2⟩
    have o2:YJ Γ (fun b=>Vz s.hp.length (Γ b)):=fun b g hb=>Zgd.1 hb
    obtain ⟨t1,t2⟩:=three (first := first) (vs := vs) (caps := caps) (fv := fv) (cv := cv) (xs := c.args.map a.eval) hs1 (by simp [q2]) hs
     (R := fun j x y=>Rep (fun b=>Vz s.hp.length (Γ b)) w' x y∧OwnAt (fun b=>Vz s.hp.length (Γ b)) w' (.slot j) x y)
     (fun j x hx=>⟨((hr1 j x hx).mono f2 o2).nm,.of_ne fun _ _=>O8⟩)
     (fun j x hx=>by
      obtain ⟨y,hy,hr,ho⟩:=q3 j x hx
      have:(c.args.map a.eval).getD j Go.undef=a.eval y:=by
       rw [Array.getElem?_toList] at hy
       rw [Array.getD_eq_getD_getElem?,Array.getElem?_map,hy]; rfl
      rw [this]
      exact ⟨hr.mono f2 o2,.nil ho⟩)
     (fun j x i hx=>⟨((hr j x hx).mono f2 o2).nm,.of_ne fun _ _=>O8⟩)
    have hw:=hS g _ _ _ _ _ hcall1 _ w' _ hI'.rw.quiet (ZoH Γ _) t1 t2
    unfold Oper.quietAt
    rw [Zm4 hop hcal hq]
    have fin:∀ cv w'',(∃ Γ',RW E.W0 Γ' w'' hp1∧Rep Γ' w'' v cv∧OwnAt Γ' w'' .res v cv∧Frame (fun b=>Vz s.hp.length (Γ b)) w' Γ' w'' none∧s.hp.length≤hp1.length∧∀ b g,Γ' b=.own g→g < s.hp.length→Vz s.hp.length (Γ b)=.own g)→cv=v.conc∧Behind w w''∧Upon w' w'':=by
     rintro cv w'' ⟨Γ',r1,r2,r3,r4,r5⟩
     have hup:Upon w' w'':=fun b hb=>(r4.keep b hb (ZoG _ _)).2
     exact ⟨NG r2 hflat,⟨r4.os.trans hw'.os,r4.tape.trans hw'.tape,r4.output.trans hw'.output,Nat.le_trans hw'.size r4.size,fun b hb=>(hup b (Nat.lt_of_lt_of_le hb hw'.size)).trans (hw'.upon b hb)⟩,hup⟩
    obtain ⟨hrun,hw⟩:=hw
    obtain ⟨en,w1,_,⟨cv1,_,hR1⟩,_⟩:=hw []
    rw [hrun]
    refine ⟨⟨rfl,hw.mono fun en w'' ⟨cv',hv,hR⟩=>?_⟩,?_⟩
    ·subst hv
     obtain ⟨e1,e2,_⟩:=fin cv' w'' hR
     exact ⟨by rw [e1],e2⟩
    ·obtain ⟨e1,_,_⟩:=fin cv1 w1 hR1
     obtain ⟨Γ',_,r2,_⟩:=hR1
     rw [e1] at r2
     exact ⟨Γ',w1,r2⟩
  obtain ⟨Γ',w'',hrep⟩:=(main w (.refl w)).2
  exact ⟨v.conc,fun w' hw'=>(main w' hw').1,hK _ rfl (ZbM hrep hflat) fun l=>.of_ne (Zs9 hflat)⟩
 ·obtain ⟨h1,h2⟩:=Zu8 hG hI (fun c f h1 h2=>hv ⟨c,f,h1,h2⟩) hc h
  obtain ⟨e,cv,hr,r1,r2⟩:=h2 hq
  exact ⟨cv,fun w' hw'=>by
   unfold Oper.quietAt
   rw [hr w' hw'.upon]
   exact ⟨rfl,rfl⟩,hK cv e r1 fun l=>.nil r2⟩
end
end Go.Proofs.YtgjcjbhhhlelnaaGreatDoor.Abs
end
section
namespace Go.Proofs.YtgjcjbhhhlelnaaGreatDoor.Abs
open Go Go.RowKit
structure FM (W:List Nat)(f:List AV→List AV):Prop where
 len:∀ l,(f l).length=l.length
 out:∀ (l:List AV) (i:Nat),i ∉ W→(f l)[i]? = l[i]?
 on:∀ (l m:List AV) (i:Nat),i ∈ W→l.length=m.length→l[i]? = m[i]?→(f l)[i]? = (f m)[i]?
theorem FM.id (W:List Nat):FM W id:=⟨fun _=>rfl,fun _ _ _=>rfl,fun _ _ _ _ _ h=>h⟩
theorem FM.set (d:Nat)(v:AV):FM [d] (fun l=>l.set d v):=by
 refine ⟨fun l=>by simp,fun l i hi=>?_,fun l m i hi hl h=>?_⟩
 ·have:d≠i:=fun e=>hi (by simp [e])
  rw [List.getElem?_set_ne this]
 ·have:i=d:=by simpa using hi
  subst this
  simp only [List.getElem?_set_self']
  rw [h]
theorem FM.mod (t:Nat):FM [t] (fun l=>l.modify t AV.ro):=by
 refine ⟨fun l=>by simp,fun l i hi=>?_,fun l m i hi hl h=>?_⟩
 ·have:t≠i:=fun e=>hi (by simp [e])
  rw [List.getElem?_modify]; simp [this]
 ·rw [List.getElem?_modify,List.getElem?_modify,h]
theorem FM.comp {V W:List Nat}{f g:List AV→List AV}(hf:FM V f)(hg:FM W g):FM (W ++ V) (fun l=>g (f l)):=by
 refine ⟨fun l=>by rw [hg.len,hf.len],fun l i hi=>?_,fun l m i hi hl h=>?_⟩
 ·rw [List.mem_append,not_or] at hi
  rw [hg.out _ _ hi.1,hf.out _ _ hi.2]
 ·have hfi:(f l)[i]? = (f m)[i]?:=by
   by_cases h2:i ∈ V
   ·exact hf.on l m i h2 hl h
   ·rw [hf.out _ _ h2,hf.out _ _ h2,h]
  by_cases h1:i ∈ W
  ·exact hg.on _ _ i h1 (by rw [hf.len,hf.len,hl]) hfi
  ·rw [hg.out _ _ h1,hg.out _ _ h1,hfi]
theorem FM.swap {V W:List Nat}{f g:List AV→List AV}(hf:FM V f)(hg:FM W g)(hd:apartB V W=true)(l:List AV):f (g l)=g (f l):=by
 have hd':∀ i,i ∈ V→i ∉ W:=fun i hi hw=>by
  have:=List.all_eq_true.1 hd i hi
  simp at this
  exact this hw
 refine List.ext_getElem? fun i=>?_
 by_cases h1:i ∈ V
 ·have h2:=hd' i h1
  rw [hg.out (f l) i h2,hf.on (g l) l i h1 (hg.len l) (hg.out l i h2)]
 ·rw [hf.out (g l) i h1]
  by_cases h2:i ∈ W
  ·exact (hg.on (f l) l i h2 (hf.len l) (hf.out l i h1)).symm
  ·rw [hg.out l i h2,hg.out (f l) i h2,hf.out l i h1]
def Agree (R:List Nat)(l m:List AV):Prop:=∀ i ∈ R,l[i]? = m[i]?
theorem Agree.left {R S:List Nat}{l m:List AV}(h:Agree (R ++ S) l m):Agree R l m:=fun i hi=>h i (List.mem_append_left _ hi)
theorem Agree.right {R S:List Nat}{l m:List AV}(h:Agree (R ++ S) l m):Agree S l m:=fun i hi=>h i (List.mem_append_right _ hi)
theorem Agree.of_loc {W R:List Nat}{f:List AV→List AV}(hf:FM W f)(hd:apartB W R=true)(l:List AV):Agree R l (f l):=fun i hi=>by
 refine (hf.out l i fun hw=>?_).symm
 have:=List.all_eq_true.1 hd i hw
 simp at this
 exact this hi
theorem Agree.symm {R:List Nat}{l m:List AV}(h:Agree R l m):Agree R m l:=fun i hi=>(h i hi).symm
section
variable {G:Nat→Option (List AV)}
theorem Z4 {x:Ym}{l m:List AV}(h:Agree (oR x) l m):opnd G l x=opnd G m x:=by
 cases x with
 | tmp t=>simp only [opnd]; rw [h t (by simp [oR])]
 | const v=>rfl
 | glob g=>rfl
theorem JV:∀ {xs:List Ym} {l m:List AV},Agree (oRs xs) l m→opnds G l xs=opnds G m xs
 | [],_,_,_=>rfl
 | x :: xs,l,m,h=>by
  have h':Agree (oR x ++ oRs xs) l m:=by simpa [oRs] using h
  simp only [opnds]
  rw [Z4 h'.left,JV h'.right]
theorem Am {x:Option Ym}{l m:List AV}(h:Agree (oRo x) l m):optOpnd G l x=optOpnd G m x:=by
 cases x with
 | none=>rfl
 | some x=>simp only [optOpnd]; rw [Z4 h]
theorem Tc:∀ {args:List (Nat ⊕ Ym)} {l m:List AV} {vs sl:List AV},(args.all fun | .inr _=>true | .inl _=>false)=true →
  Agree (args.flatMap fun x=>match x with | .inl t=>[t] | .inr x=>oR x) l m→Qe G l args=some (vs,sl)→sl=l∧Qe G m args=some (vs,m)
 | [],l,m,vs,sl,_,_,h=>by
  simp only [Qe,Option.some.injEq,Prod.mk.injEq] at h ⊢
  exact ⟨h.2.symm,h.1,trivial⟩
 | .inl t :: args,_,_,_,_,hn,_,_=>by simp at hn
 | .inr x :: args,l,m,vs,sl,hn,ha,h=>by
  simp only [List.all_cons,Bool.and_eq_true] at hn
  have ha':Agree (oR x ++ (args.flatMap fun x=>match x with | .inl t=>[t] | .inr x=>oR x)) l m:=by simpa using ha
  simp only [Qe] at h ⊢
  rw [← Z4 (G := G) ha'.left]
  split at h <;> first | (cases h; done) | skip
  rename_i v hv
  obtain ⟨p,h1,h2⟩:=Option.map_eq_some_iff.1 h
  obtain ⟨rfl,rfl⟩:=Prod.mk.inj h2
  obtain ⟨e1,e2⟩:=Tc hn.2 ha'.right h1
  refine ⟨e1,?_⟩
  simp only [hv,e2,Option.map_some]
end
def XD (h h':List Zn):Prop:=(∀ p v,Qb h p=some v→Qb h' p=some v)∧∀ n p v,Vh h n p=some v→Vh h' n p=some v
theorem XD.refl (h:List Zn):XD h h:=⟨fun _ _ h=>h,fun _ _ _ h=>h⟩
theorem XD.of_get {h h':List Zn}(hg:∀ (g:Nat) (cs:List AV) (t:TypeId),h[g]? = some (Zn.cells cs t)→∃ (cs':List AV) (t':TypeId),h'[g]? = some (Zn.cells cs' t')∧cs'.map AV.ro=cs.map AV.ro):XD h h':=by
 refine ⟨fun p v hv=>?_,fun n p v hv=>?_⟩
 ·unfold Qb at hv ⊢
  split at hv <;> first | exact hv | (cases hv; done) | skip
  split at hv <;> first | (cases hv; done) | skip
  rename_i g o _ cs t hcs
  obtain ⟨cs',t',h1,h2⟩:=hg _ _ _ hcs
  simp only [h1]
  rw [← List.getElem?_map] at hv ⊢
  rw [h2]; exact hv
 ·unfold Vh at hv ⊢
  split at hv <;> first | exact hv | (cases hv; done) | skip
  split at hv <;> first | (cases hv; done) | skip
  rename_i g o _ cs t hcs
  obtain ⟨cs',t',h1,h2⟩:=hg _ _ _ hcs
  simp only [h1]
  have hl:cs'.length=cs.length:=by have:=congrArg List.length h2; simpa using this
  rw [hl]
  rw [List.map_take,List.map_drop] at hv ⊢
  rw [h2]; exact hv
theorem XD.app (h:List Zn)(o:Zn):XD h (h ++ [o]):=.of_get fun g cs t hg=>⟨cs,t,by rw [List.getElem?_append_left (List.getElem?_eq_some_iff.1 hg).1]; exact hg,rfl⟩
theorem ZbC (v:AV):v.ro.ro=v.ro:=by cases v <;> rfl
theorem ZfP (cs:List AV)(o:Nat)(v:AV)(h:cs[o]? = some v):(cs.set o v.ro).map AV.ro=cs.map AV.ro:=by
 refine List.ext_getElem? fun i=>?_
 rw [List.getElem?_map,List.getElem?_map,List.getElem?_set]
 split
 ·rename_i e
  subst e
  have hl:=(List.getElem?_eq_some_iff.1 h).1
  rw [if_pos hl,h]
  simp [ZbC]
 ·rfl
theorem XD.mark {h:List Zn}{g o:Nat}{cs:List AV}{t:TypeId}{v:AV}(h1:h[g]? = some (.cells cs t))(h2:cs[o]? = some v):XD h (h.set g (.cells (cs.set o v.ro) t))∧XD (h.set g (.cells (cs.set o v.ro) t)) h:=by
 have hl:=(List.getElem?_eq_some_iff.1 h1).1
 constructor
 ·refine .of_get fun g' cs' t' hg=>?_
  rw [List.getElem?_set]
  split
  ·rename_i e; subst e
   rw [h1] at hg; cases hg
   exact ⟨cs.set o v.ro,t,by simp [hl],ZfP cs o v h2⟩
  ·exact ⟨_,_,hg,rfl⟩
 ·refine .of_get fun g' cs' t' hg=>?_
  rw [List.getElem?_set] at hg
  split at hg
  ·rename_i e; subst e
   simp only [hl,if_true,Option.some.injEq,Zn.cells.injEq] at hg
   obtain ⟨rfl,rfl⟩:=hg
   exact ⟨_,_,h1,(ZfP cs o v h2).symm⟩
  ·exact ⟨_,_,hg,rfl⟩
section
variable {G:Nat→Option (List AV)}{call:FuncId→List AV→List Zn→Option (AV×List Zn×Eff)}
def tkF (ao:AOp)(l:List AV):List AV :=
 match JU ao with
 | [t]=>l.modify t AV.ro
 | _=>l
theorem ZwT (ao:AOp):FM (JU ao) (tkF ao):=by
 cases ao <;> first | exact FM.id _ | exact FM.mod _
structure Eu (G:Nat→Option (List AV))(call:FuncId→List AV→List Zn→Option (AV×List Zn×Eff))(ao:AOp)(k:HK)(s:Zd)(v:AV)(s':Zd):Prop where
 sl:s'.sl=tkF ao s.sl
 bs:s'.bs=s.bs
 any:∀ t,Agree (XH ao) s.sl t.sl→t.hp=s.hp→t.ef=s.ef→t.bs=s.bs→Zf G call t ao=some (v,⟨tkF ao t.sl,s'.hp,s'.ef,t.bs⟩)
 still:(match k with | .free | .look | .read=>True | _=>False)→s'.hp=s.hp∧s'.ef=s.ef
 free:k=.free→∀ t,Agree (XH ao) s.sl t.sl→Zf G call t ao=some (v,⟨tkF ao t.sl,t.hp,t.ef,t.bs⟩)
 look:k=.look→∀ t,Agree (XH ao) s.sl t.sl→XD s.hp t.hp→Zf G call t ao=some (v,⟨tkF ao t.sl,t.hp,t.ef,t.bs⟩)
 read:(match k with | .free | .look | .read=>True | _=>False)→∀ t,Agree (XH ao) s.sl t.sl→t.hp=s.hp→Zf G call t ao=some (v,⟨tkF ao t.sl,t.hp,t.ef,t.bs⟩)
 alloc:k=.alloc→s'.ef=s.ef∧∃ obs,s'.hp=s.hp ++ obs∧∀ t,Agree (XH ao) s.sl t.sl→t.hp.length=s.hp.length→Zf G call t ao=some (v,⟨tkF ao t.sl,t.hp ++ obs,t.ef,t.bs⟩)
 mark:k=.mark→s'.hp.length=s.hp.length∧XD s.hp s'.hp∧XD s'.hp s.hp∧∀ t obs,Agree (XH ao) s.sl t.sl→t.hp=s.hp ++ obs→t.ef=s.ef→t.bs=s.bs→Zf G call t ao=some (v,⟨tkF ao t.sl,s'.hp ++ obs,s'.ef,t.bs⟩)
theorem Eu.of_free {ao:AOp}{s:Zd}{v:AV}{s':Zd}(h:s'=⟨tkF ao s.sl,s.hp,s.ef,s.bs⟩)(hf:∀ t,Agree (XH ao) s.sl t.sl→Zf G call t ao=some (v,⟨tkF ao t.sl,t.hp,t.ef,t.bs⟩)):Eu G call ao .free s v s':=by
 subst h
 refine ⟨rfl,rfl,fun t ha h1 h2 h3=>?_,fun _=>⟨rfl,rfl⟩,fun _=>hf,(fun h=>by cases h),fun _ t ha _=>hf t ha,(fun h=>by cases h),(fun h=>by cases h)⟩
 rw [hf t ha,h1,h2]
theorem Eu.of_read {ao:AOp}{s:Zd}{v:AV}{s':Zd}(h:s'=⟨tkF ao s.sl,s.hp,s.ef,s.bs⟩)(hf:∀ t,Agree (XH ao) s.sl t.sl→t.hp=s.hp→Zf G call t ao=some (v,⟨tkF ao t.sl,t.hp,t.ef,t.bs⟩)):Eu G call ao .read s v s':=by
 subst h
 refine ⟨rfl,rfl,fun t ha h1 h2 h3=>?_,fun _=>⟨rfl,rfl⟩,(fun h=>by cases h),(fun h=>by cases h),fun _ t ha h1=>hf t ha h1,(fun h=>by cases h),(fun h=>by cases h)⟩
 rw [hf t ha h1,h1,h2]
theorem Eu.of_look {ao:AOp}{s:Zd}{v:AV}{s':Zd}(h:s'=⟨tkF ao s.sl,s.hp,s.ef,s.bs⟩)(hf:∀ t,Agree (XH ao) s.sl t.sl→XD s.hp t.hp→Zf G call t ao=some (v,⟨tkF ao t.sl,t.hp,t.ef,t.bs⟩)):Eu G call ao .look s v s':=by
 subst h
 refine ⟨rfl,rfl,fun t ha h1 h2 h3=>?_,fun _=>⟨rfl,rfl⟩,(fun h=>by cases h),fun _=>hf,fun _ t ha h1=>hf t ha (h1 ▸ .refl _),(fun h=>by cases h),(fun h=>by cases h)⟩
 rw [hf t ha (h1 ▸ .refl _),h1,h2]
theorem Eu.of_set {ao:AOp}{s:Zd}{v:AV}{s':Zd}(h1:s'.sl=tkF ao s.sl)(h2:s'.bs=s.bs)(hf:∀ t,Agree (XH ao) s.sl t.sl→t.hp=s.hp→t.ef=s.ef→t.bs=s.bs→Zf G call t ao=some (v,⟨tkF ao t.sl,s'.hp,s'.ef,t.bs⟩)):Eu G call ao .set s v s' :=
 ⟨h1,h2,hf,(fun h=>h.elim),(fun h=>by cases h),(fun h=>by cases h),(fun h=>h.elim),(fun h=>by cases h),(fun h=>by cases h)⟩
theorem Qy {α:Type}{x:Option AV}{s:α}{v:AV}{s':α}(h:x.map (·,s)=some (v,s')):x=some v∧s'=s:=by
 cases x with
 | none=>cases h
 | some a=>cases h; exact ⟨rfl,rfl⟩
theorem ZqW (hq:∀ f args hp v hp' e,call f args hp=some (v,hp',e)→hp'=hp∧e=none){ao:AOp}{k:HK}{s:Zd}{v:AV}{s':Zd}(hk:hkind ao=some k)(h:Zf G call s ao=some (v,s')):Eu G call ao k s v s':=by
 cases ao <;> simp only [hkind,Option.some.injEq,reduceCtorEq] at hk <;> try subst hk
 case un op x =>
  simp only [Zf] at h
  split at h <;> first | (cases h; done) | skip
  rename_i a ha
  obtain ⟨h1,rfl⟩:=Qy h
  refine .of_free rfl fun t ht=>?_
  simp only [Zf,← Z4 (G := G) (x := x) ht,ha,h1,Option.map_some]
  rfl
 case fa off x =>
  simp only [Zf] at h
  split at h <;> first | (cases h; done) | skip
  rename_i a ha
  obtain ⟨h1,rfl⟩:=Qy h
  refine .of_free rfl fun t ht=>?_
  simp only [Zf,← Z4 (G := G) (x := x) ht,ha,h1,Option.map_some]
  rfl
 case fld off n agg x =>
  simp only [Zf] at h
  split at h <;> first | (cases h; done) | skip
  rename_i a ha
  obtain ⟨h1,rfl⟩:=Qy h
  refine .of_free rfl fun t ht=>?_
  simp only [Zf,← Z4 (G := G) (x := x) ht,ha,h1,Option.map_some]
  rfl
 case mv x =>
  simp only [Zf] at h
  obtain ⟨h1,rfl⟩:=Qy h
  refine .of_free rfl fun t ht=>?_
  simp only [Zf,← Z4 (G := G) (x := x) ht,h1,Option.map_some]
  rfl
 case take i =>
  simp only [Zf] at h
  split at h <;> first | (cases h; done) | skip
  rename_i a ha
  cases h
  refine .of_free rfl fun t ht=>?_
  simp only [Zf,← ht i (by simp [XH]),ha]
  rfl
 case pick c a b =>
  simp only [Zf] at h
  split at h <;> first | (cases h; done) | skip
  ·rename_i hc
   obtain ⟨h1,rfl⟩:=Qy h
   refine .of_free rfl fun t ht=>?_
   simp only [Zf,← Z4 (G := G) (x := c) ht.left,← Z4 (G := G) (x := a) ht.right.left,hc,h1,Option.map_some]
   rfl
  ·rename_i hc
   obtain ⟨h1,rfl⟩:=Qy h
   refine .of_free rfl fun t ht=>?_
   simp only [Zf,← Z4 (G := G) (x := c) ht.left,← Z4 (G := G) (x := b) ht.right.right,hc,h1,Option.map_some]
   rfl
 case nilchk x =>
  simp only [Zf] at h
  split at h <;> first | (cases h; done) | skip
  all_goals
   rename_i hc
   cases h
   refine .of_free rfl fun t ht=>?_
   simp only [Zf,← Z4 (G := G) (x := x) ht,hc]
   rfl
 case extract x i =>
  simp only [Zf] at h
  split at h <;> first | (cases h; done) | skip
  rename_i vs hc
  obtain ⟨u,h1,h2⟩:=Option.map_eq_some_iff.1 h
  cases h2
  refine .of_free rfl fun t ht=>?_
  simp only [Zf,← Z4 (G := G) (x := x) ht,hc,h1,Option.map_some]
  rfl
 case slice sh x lo hi =>
  simp only [Zf] at h
  split at h <;> first | (cases h; done) | skip
  rename_i a b c h0 h1 h2
  obtain ⟨h3,rfl⟩:=Qy h
  refine .of_free rfl fun t ht=>?_
  simp only [Zf,← Z4 (G := G) (x := x) ht.left,← Am (G := G) (x := lo) ht.right.left,← Am (G := G) (x := hi) ht.right.right,h0,h1,h2,h3,Option.map_some]
  rfl
 case slice3 sh x hi mx =>
  simp only [Zf] at h
  split at h <;> first | (cases h; done) | skip
  rename_i a b c h0 h1 h2
  obtain ⟨h3,rfl⟩:=Qy h
  refine .of_free rfl fun t ht=>?_
  simp only [Zf,← Z4 (G := G) (x := x) ht.left,← Z4 (G := G) (x := hi) ht.right.left,← Z4 (G := G) (x := mx) ht.right.right,h0,h1,h2,h3,Option.map_some]
  rfl
 case build zero parts =>
  simp only [Zf] at h
  split at h <;> first | (cases h; done) | skip
  rename_i vs hvs
  obtain ⟨u,h1,h2⟩:=Option.map_eq_some_iff.1 h
  cases h2
  refine .of_free rfl fun t ht=>?_
  simp only [Zf,← JV (G := G) (xs := List.map (fun (p:Nat×Nat×Ym)=>p.2.2) parts) ht,hvs,h1,Option.map_some]
  rfl
 case bin op sh x y =>
  simp only [Zf] at h
  split at h <;> first | (cases h; done) | skip
  rename_i a b ha hb
  obtain ⟨h1,rfl⟩:=Qy h
  refine .of_free rfl fun t ht=>?_
  simp only [Zf,← Z4 (G := G) (x := x) ht.left,← Z4 (G := G) (x := y) ht.right,ha,hb,h1,Option.map_some]
  rfl
 case ia sh x y =>
  simp only [Zf] at h
  split at h <;> first | (cases h; done) | skip
  rename_i a b ha hb
  obtain ⟨h1,rfl⟩:=Qy h
  refine .of_free rfl fun t ht=>?_
  simp only [Zf,← Z4 (G := G) (x := x) ht.left,← Z4 (G := G) (x := y) ht.right,ha,hb,h1,Option.map_some]
  rfl
 case idx x y =>
  simp only [Zf] at h
  split at h <;> first | (cases h; done) | skip
  rename_i a b ha hb
  obtain ⟨h1,rfl⟩:=Qy h
  refine .of_free rfl fun t ht=>?_
  simp only [Zf,← Z4 (G := G) (x := x) ht.left,← Z4 (G := G) (x := y) ht.right,ha,hb,h1,Option.map_some]
  rfl
 case min xs =>
  simp only [Zf] at h
  split at h <;> first | (cases h; done) | skip
  rename_i n l hxs
  obtain ⟨u,h1,h2⟩:=Option.map_eq_some_iff.1 h
  cases h2
  refine .of_free rfl fun t ht=>?_
  simp only [Zf,← JV (G := G) (xs := xs) ht,hxs,h1,Option.map_some]
  rfl
 case max xs =>
  simp only [Zf] at h
  split at h <;> first | (cases h; done) | skip
  rename_i n l hxs
  obtain ⟨u,h1,h2⟩:=Option.map_eq_some_iff.1 h
  cases h2
  refine .of_free rfl fun t ht=>?_
  simp only [Zf,← JV (G := G) (xs := xs) ht,hxs,h1,Option.map_some]
  rfl
 case ldc x =>
  simp only [Zf] at h
  split at h <;> first | (cases h; done) | skip
  rename_i a ha
  obtain ⟨h1,rfl⟩:=Qy h
  refine .of_look rfl fun t ht hl=>?_
  simp only [Zf,← Z4 (G := G) (x := x) ht,ha,hl.1 _ _ h1,Option.map_some]
  rfl
 case lda n x =>
  simp only [Zf] at h
  split at h <;> first | (cases h; done) | skip
  rename_i a ha
  obtain ⟨h1,rfl⟩:=Qy h
  refine .of_look rfl fun t ht hl=>?_
  simp only [Zf,← Z4 (G := G) (x := x) ht,ha,hl.2 _ _ _ h1,Option.map_some]
  rfl
 case len sh x =>
  simp only [Zf] at h
  split at h <;> first | (cases h; done) | skip
  rename_i a ha
  obtain ⟨h1,rfl⟩:=Qy h
  refine .of_read rfl fun t ht hl=>?_
  have e:Xp t.hp sh a=some v:=by rw [hl]; exact h1
  simp only [Zf,← Z4 (G := G) (x := x) ht,ha,e,Option.map_some]
  rfl
 case conv c x =>
  simp only [Zf] at h
  split at h <;> first | (cases h; done) | skip
  rename_i a ha
  obtain ⟨h1,rfl⟩:=Qy h
  refine .of_read rfl fun t ht hl=>?_
  have e:Vl t.hp c a=some v:=by rw [hl]; exact h1
  simp only [Zf,← Z4 (G := G) (x := x) ht,ha,e,Option.map_some]
  rfl
 case app k b i x =>
  simp only [Zf] at h
  split at h <;> first | (cases h; done) | skip
  rename_i k' r a h0 ha
  split at h <;> first | (cases h; done) | skip
  rename_i k'' r' h1
  split at h <;> first | (cases h; done) | skip
  rename_i hc
  cases h
  refine .of_read rfl fun t ht hl=>?_
  have e0:=ht i (by simp [XH])
  have e1:Agree (oR x) s.sl t.sl:=fun j hj=>ht j (List.mem_cons_of_mem _ hj)
  have e:rowsOf t.hp a=some (k'',r'):=by rw [hl]; exact h1
  simp only [Zf,← Z4 (G := G) (x := x) e1,← e0,h0,ha,e]
  rw [if_pos hc]
  rfl
 case apps b i x =>
  simp only [Zf] at h
  split at h <;> first | (cases h; done) | skip
  rename_i k' r l h0 ha
  split at h <;> first | (cases h; done) | skip
  rename_i hc
  cases h
  refine .of_free rfl fun t ht=>?_
  have e0:=ht i (by simp [XH])
  have e1:Agree (oR x) s.sl t.sl:=fun j hj=>ht j (List.mem_cons_of_mem _ hj)
  simp only [Zf,← Z4 (G := G) (x := x) e1,← e0,h0,ha]
  rw [if_pos hc]
  rfl
 case appn k b x =>
  simp only [Zf] at h
  split at h <;> first | (cases h; done) | skip
  rename_i a ha
  split at h <;> first | (cases h; done) | skip
  rename_i k'' r' h1
  split at h <;> first | (cases h; done) | skip
  rename_i hc
  cases h
  refine .of_read rfl fun t ht hl=>?_
  have e:rowsOf t.hp a=some (k'',r'):=by rw [hl]; exact h1
  simp only [Zf,← Z4 (G := G) (x := x) ht,ha,e]
  rw [if_pos hc]
  rfl
 case call f args =>
  split at hk <;> first | (cases hk; done) | skip
  rename_i hn
  cases hk
  simp only [Zf] at h
  split at h <;> first | (cases h; done) | skip
  rename_i g first caps vs sl hf hvs
  split at h <;> first | (cases h; done) | skip
  rename_i u hp e hcall
  cases h
  obtain ⟨rfl,rfl⟩:=hq _ _ _ _ _ _ hcall
  have hall:(args.all fun | .inr _=>true | .inl _=>false)=true:=hn
  obtain ⟨rfl,_⟩:=Tc (G := G) (m := s.sl) hall (fun _ _=>rfl) hvs
  refine .of_read rfl fun t ht hl=>?_
  obtain ⟨_,e2⟩:=Tc (G := G) hall ht.right hvs
  have hcall':=hcall
  rw [← hl] at hcall'
  simp only [Zf,← Z4 (G := G) (x := f) ht.left,hf,e2,hcall']
  rfl
 case st n x y =>
  simp only [Zf] at h
  split at h <;> first | (cases h; done) | skip
  rename_i g o a ha hb
  split at h <;> first | (cases h; done) | skip
  rename_i cs ty hg
  split at h <;> first | (cases h; done) | skip
  rename_i hc
  cases h
  refine .of_set rfl rfl fun t ht h1 h2 h3=>?_
  simp only [Zf,← Z4 (G := G) (x := x) ht.left,← Z4 (G := G) (x := y) ht.right,ha,hb,h1,hg,Zd.note,h2,h3]
  rw [if_pos hc]
  rfl
 case stt x i =>
  simp only [Zf] at h
  split at h <;> first | (cases h; done) | skip
  rename_i g o a ha hb
  split at h <;> first | (cases h; done) | skip
  rename_i cs ty hg
  split at h <;> first | (cases h; done) | skip
  rename_i hc
  cases h
  refine .of_set rfl rfl fun t ht h1 h2 h3=>?_
  have e0:=ht i (by simp [XH])
  have e1:Agree (oR x) s.sl t.sl:=fun j hj=>ht j (List.mem_cons_of_mem _ hj)
  simp only [Zf,← Z4 (G := G) (x := x) e1,← e0,ha,hb,h1,hg,Zd.note,Zd.let_,h2,h3]
  rw [if_pos hc]
  rfl
 case copy k x y =>
  simp only [Zf] at h
  split at h <;> first | (cases h; done) | skip
  ·rename_i g off len k'' a ha hb
   split at h <;> first | (cases h; done) | skip
   rename_i k' r cs ty hr hg
   split at h <;> first | (cases h; done) | skip
   rename_i hc
   cases h
   refine .of_set rfl rfl fun t ht h1 h2 h3=>?_
   simp only [Zf,← Z4 (G := G) (x := x) ht.left,← Z4 (G := G) (x := y) ht.right,ha,hb,h1,hr,hg,Zd.note,h2,h3]
   rw [if_pos hc]
   rfl
  ·rename_i a ha hb
   split at h <;> first | (cases h; done) | skip
   rename_i k' r hr
   split at h <;> first | (cases h; done) | skip
   rename_i hc
   cases h
   refine .of_set rfl rfl fun t ht h1 h2 h3=>?_
   simp only [Zf,← Z4 (G := G) (x := x) ht.left,← Z4 (G := G) (x := y) ht.right,ha,hb,h1,hr]
   rw [if_pos hc,← h1,← h2]
   rfl
 case ldt x =>
  simp only [Zf] at h
  split at h <;> first | (cases h; done) | skip
  rename_i g o ha
  split at h <;> first | (cases h; done) | skip
  rename_i cs ty hg
  split at h <;> first | (cases h; done) | skip
  rename_i u hu
  cases h
  obtain ⟨l1,l2⟩:=XD.mark hg hu
  have hlt:=(List.getElem?_eq_some_iff.1 hg).1
  refine ⟨rfl,rfl,fun t ht h1 h2 h3=>?_,(fun h=>h.elim),(fun h=>by cases h),(fun h=>by cases h),(fun h=>h.elim),(fun h=>by cases h),fun _=>⟨by simp,l1,l2,fun t obs ht h1 h2 h3=>?_⟩⟩
  ·simp only [Zf,← Z4 (G := G) (x := x) ht,ha,h1,hg,hu,Zd.note,h2,h3]
   rfl
  ·have e:(s.hp ++ obs)[g]? = some (.cells cs ty):=by rw [List.getElem?_append_left hlt]; exact hg
   simp only [Zf,← Z4 (G := G) (x := x) ht,ha,h1,e,hu,Zd.note,h2,h3,List.set_append_left _ _ hlt]
   rfl
 case lit e k parts =>
  cases parts with
  | nil =>
   simp only [hkind,Option.some.injEq] at hk
   subst hk
   have key:∀ t:Zd,Zf G call t (.lit e k [])=some (.own k [],t):=fun t=>rfl
   rw [key] at h
   cases h
   exact .of_free rfl fun t _=>key t
  | cons p0 ps =>
  simp only [hkind,Option.some.injEq] at hk
  subst hk
  generalize hps:p0 :: ps=parts at *
  simp only [Zf] at h
  split at h <;> first | (cases h; done) | skip
  rename_i vs hvs
  split at h
  ·rename_i hc
   cases h
   have key:∀ t:Zd,Agree (XH (.lit e k parts)) s.sl t.sl→Zf G call t (.lit e k parts)=some (.own k (vs.map fun v=>v.cells.map AV.ro),t):=fun t ht=>by
    simp only [Zf,← JV (G := G) (xs := parts) ht,hvs]
    rw [if_pos hc]
   refine ⟨rfl,rfl,fun t ht h1 h2 h3=>?_,(fun h=>h.elim),(fun h=>by cases h),(fun h=>by cases h),(fun h=>h.elim),fun _=>⟨rfl,[],by simp,fun t ht _=>?_⟩,(fun h=>by cases h)⟩
   ·rw [key t ht,← h1,← h2]; rfl
   ·rw [key t ht,List.append_nil]; rfl
  ·rename_i hc0
   split at h <;> first | (cases h; done) | skip
   rename_i hc
   cases h
   have key:∀ t:Zd,Agree (XH (.lit e k parts)) s.sl t.sl→Zf G call t (.lit e k parts)=some (.arr t.hp.length 0 vs.length k,{ t with hp:=t.hp ++ [.cells (vs.map AV.cells).flatten e] }):=fun t ht=>by
    simp only [Zf,← JV (G := G) (xs := parts) ht,hvs]
    rw [if_neg hc0,if_pos hc]
   refine ⟨rfl,rfl,fun t ht h1 h2 h3=>?_,(fun h=>h.elim),(fun h=>by cases h),(fun h=>by cases h),(fun h=>h.elim),fun _=>⟨rfl,_,rfl,fun t ht hl=>?_⟩,(fun h=>by cases h)⟩
   ·rw [key t ht,h1,h2]; rfl
   ·rw [key t ht,hl]; rfl
theorem Zkl {s t:Zd}{g:Option (Nat×Bool)}(h:Agree (match g with | some (i,_)=>[i] | none=>[]) s.sl t.sl):Yr s g=Yr t g:=by
 cases g with
 | none=>rfl
 | some p =>
  obtain ⟨i,b⟩:=p
  simp only [Yr]
  rw [h i (by simp)]
def Zd7 (d:Option Nat)(v:AV)(l:List AV):List AV:=match d with | some d=>l.set d v | none=>l
theorem Dx (d:Option Nat)(v:AV):FM d.toList (Zd7 d v):=by
 cases d with
 | none=>exact FM.id _
 | some d=>exact FM.set d v
theorem Y8 (s:Zd)(d:Option Nat)(v:AV):s.put d v=⟨Zd7 d v s.sl,s.hp,s.ef,s.bs⟩:=by cases d <;> rfl
structure StepA (G:Nat→Option (List AV))(call:FuncId→List AV→List Zn→Option (AV×List Zn×Eff))(o:ZQ)(k:HK)(s s':Zd)(f:List AV→List AV):Prop where
 loc:FM (X5 o) f
 sl:s'.sl=f s.sl
 bs:s'.bs=s.bs
 any:∀ t,Agree (Qx o) s.sl t.sl→t.hp=s.hp→t.ef=s.ef→t.bs=s.bs→Zz G call o t=some ⟨f t.sl,s'.hp,s'.ef,t.bs⟩
 still:(match k with | .free | .look | .read=>True | _=>False)→s'.hp=s.hp∧s'.ef=s.ef
 free:k=.free→∀ t,Agree (Qx o) s.sl t.sl→Zz G call o t=some ⟨f t.sl,t.hp,t.ef,t.bs⟩
 look:k=.look→∀ t,Agree (Qx o) s.sl t.sl→XD s.hp t.hp→Zz G call o t=some ⟨f t.sl,t.hp,t.ef,t.bs⟩
 read:(match k with | .free | .look | .read=>True | _=>False)→∀ t,Agree (Qx o) s.sl t.sl→t.hp=s.hp→Zz G call o t=some ⟨f t.sl,t.hp,t.ef,t.bs⟩
 alloc:k=.alloc→s'.ef=s.ef∧∃ obs,s'.hp=s.hp ++ obs∧∀ t,Agree (Qx o) s.sl t.sl→t.hp.length=s.hp.length→Zz G call o t=some ⟨f t.sl,t.hp ++ obs,t.ef,t.bs⟩
 mark:k=.mark→s'.hp.length=s.hp.length∧XD s.hp s'.hp∧XD s'.hp s.hp∧∀ t obs,Agree (Qx o) s.sl t.sl→t.hp=s.hp ++ obs→t.ef=s.ef→t.bs=s.bs→Zz G call o t=some ⟨f t.sl,s'.hp ++ obs,s'.ef,t.bs⟩
theorem Zee (hq:∀ f args hp v hp' e,call f args hp=some (v,hp',e)→hp'=hp∧e=none){o:ZQ}{k:HK}{s s':Zd}(hk:hkind o.op=some k)(h:Zz G call o s=some s'):∃ f,StepA G call o k s s' f:=by
 have wg:∀ t:Zd,Agree (Qx o) s.sl t.sl→Yr t o.guard=Yr s o.guard:=fun t ht=>(Zkl ht.left).symm
 simp only [Zz] at h
 split at h <;> first | (cases h; done) | skip
 ·rename_i hw
  split at h <;> first | (cases h; done) | skip
  rename_i v s1 he
  obtain rfl:=Option.some.inj h
  have S:=ZqW hq hk he
  have run:∀ (t:Zd) (hp:List Zn) (ef:Eff),Yr t o.guard=some true→Zf G call t o.op=some (v,⟨tkF o.op t.sl,hp,ef,t.bs⟩)→Zz G call o t=some ⟨Zd7 o.dst v (tkF o.op t.sl),hp,ef,t.bs⟩:=fun t hp ef h1 h2=>by
   simp only [Zz,h1,h2,Y8]
  refine ⟨fun l=>Zd7 o.dst v (tkF o.op l),(ZwT o.op).comp (Dx o.dst v),by rw [Y8,S.sl],by rw [Y8]; exact S.bs,fun t ht h1 h2 h3=>?_,fun hs=>?_,fun hk t ht=>?_,fun hk t ht hl=>?_,fun hk t ht hl=>?_,fun hk=>?_,fun hk=>?_⟩
  ·rw [Y8]; exact run t _ _ ((wg t ht).trans hw) (S.any t ht.right h1 h2 h3)
  ·rw [Y8]; exact S.still hs
  ·exact run t _ _ ((wg t ht).trans hw) (S.free hk t ht.right)
  ·exact run t _ _ ((wg t ht).trans hw) (S.look hk t ht.right hl)
  ·exact run t _ _ ((wg t ht).trans hw) (S.read hk t ht.right hl)
  ·obtain ⟨e1,obs,e2,e3⟩:=S.alloc hk
   rw [Y8]
   exact ⟨e1,obs,e2,fun t ht hl=>run t _ _ ((wg t ht).trans hw) (e3 t ht.right hl)⟩
  ·obtain ⟨e1,e2,e3,e4⟩:=S.mark hk
   rw [Y8]
   exact ⟨e1,e2,e3,fun t obs ht h1 h2 h3=>run t _ _ ((wg t ht).trans hw) (e4 t obs ht.right h1 h2 h3)⟩
 ·rename_i hw
  obtain rfl:=Option.some.inj h
  have run:∀ t:Zd,Yr t o.guard=some false→Zz G call o t=some ⟨Zd7 o.dst .undef t.sl,t.hp,t.ef,t.bs⟩:=fun t h1=>by
   simp only [Zz,h1,Y8]
  have hl:FM (X5 o) (Zd7 o.dst .undef):=by
   have:=(FM.id (JU o.op)).comp (Dx o.dst .undef)
   exact this
  rw [Y8]
  refine ⟨Zd7 o.dst .undef,hl,rfl,rfl,fun t ht h1 h2 h3=>?_,fun _=>⟨rfl,rfl⟩,fun _ t ht=>run t ((wg t ht).trans hw),fun _ t ht _=>run t ((wg t ht).trans hw),fun _ t ht _=>run t ((wg t ht).trans hw),fun _=>⟨rfl,[],by simp,fun t ht _=>?_⟩,fun _=>⟨rfl,.refl _,.refl _,fun t obs ht h1 h2 h3=>?_⟩⟩
  ·rw [run t ((wg t ht).trans hw),h1,h2]
  ·rw [run t ((wg t ht).trans hw),List.append_nil]
  ·rw [run t ((wg t ht).trans hw),h1,h2]
theorem Zud (hq:∀ f args hp v hp' e,call f args hp=some (v,hp',e)→hp'=hp∧e=none){o1 o2:ZQ}{s s1 s2:Zd}(hc:Zi5 o1 o2=true)(h1:Zz G call o1 s=some s1)(h2:Zz G call o2 s1=some s2) :
  ∃ u,Zz G call o2 s=some u∧Zz G call o1 u=some s2:=by
 simp only [Zi5,Bool.and_eq_true] at hc
 obtain ⟨⟨⟨hk,ha⟩,hb⟩,hd⟩:=hc
 split at hk <;> first | (cases hk; done) | skip
 rename_i k1 k2 hk1 hk2
 obtain ⟨f1,S1⟩:=Zee hq hk1 h1
 obtain ⟨f2,S2⟩:=Zee hq hk2 h2
 have A2:Agree (Qx o2) s1.sl s.sl:=by rw [S1.sl]; exact (Agree.of_loc S1.loc ha s.sl).symm
 have A1:∀ u:Zd,u.sl=f2 s.sl→Agree (Qx o1) s.sl u.sl:=fun u hu=>by rw [hu]; exact Agree.of_loc S2.loc hd s.sl
 have fin:∀ (u:Zd) (hp:List Zn) (ef:Eff),u.sl=f2 s.sl→u.bs=s.bs→hp=s2.hp→ef=s2.ef→Zz G call o1 u=some ⟨f1 u.sl,hp,ef,u.bs⟩→Zz G call o1 u=some s2:=fun u hp ef e1 e2 e3 e4 h=>by
  rw [h]
  have q1:f1 u.sl=s2.sl:=by rw [e1,S2.sl,S1.sl]; exact S1.loc.swap S2.loc hb s.sl
  have q2:u.bs=s2.bs:=by rw [e2,S2.bs,S1.bs]
  rw [q1,q2,e3,e4]
 cases k1 with
 | free =>
  obtain ⟨p1,p2⟩:=S1.still trivial
  have e:=S2.any s A2 p1.symm p2.symm S1.bs.symm
  exact ⟨_,e,fin _ _ _ rfl rfl rfl rfl (S1.free rfl _ (A1 _ rfl))⟩
 | look =>
  obtain ⟨p1,p2⟩:=S1.still trivial
  have e:=S2.any s A2 p1.symm p2.symm S1.bs.symm
  cases k2 with
  | free=>obtain ⟨q1,q2⟩:=S2.still trivial; exact ⟨_,e,fin _ _ _ rfl rfl rfl rfl (S1.look rfl _ (A1 _ rfl) (by show XD s.hp s2.hp; rw [q1,p1]; exact .refl _))⟩
  | look=>obtain ⟨q1,q2⟩:=S2.still trivial; exact ⟨_,e,fin _ _ _ rfl rfl rfl rfl (S1.look rfl _ (A1 _ rfl) (by show XD s.hp s2.hp; rw [q1,p1]; exact .refl _))⟩
  | read=>obtain ⟨q1,q2⟩:=S2.still trivial; exact ⟨_,e,fin _ _ _ rfl rfl rfl rfl (S1.look rfl _ (A1 _ rfl) (by show XD s.hp s2.hp; rw [q1,p1]; exact .refl _))⟩
  | mark=>obtain ⟨_,q2,_⟩:=S2.mark rfl; exact ⟨_,e,fin _ _ _ rfl rfl rfl rfl (S1.look rfl _ (A1 _ rfl) (by show XD s.hp s2.hp; rw [← p1]; exact q2))⟩
  | alloc =>
   obtain ⟨_,obs,q2,_⟩:=S2.alloc rfl
   refine ⟨_,e,fin _ _ _ rfl rfl rfl rfl (S1.look rfl _ (A1 _ rfl) ?_)⟩
   show XD s.hp s2.hp
   rw [q2,p1]
   exact .of_get fun g cs t hg=>⟨cs,t,by rw [List.getElem?_append_left (List.getElem?_eq_some_iff.1 hg).1]; exact hg,rfl⟩
  | set=>cases hk
 | read =>
  obtain ⟨p1,p2⟩:=S1.still trivial
  have e:=S2.any s A2 p1.symm p2.symm S1.bs.symm
  cases k2 with
  | free=>obtain ⟨q1,q2⟩:=S2.still trivial; exact ⟨_,e,fin _ _ _ rfl rfl rfl rfl (S1.read trivial _ (A1 _ rfl) (q1.trans p1))⟩
  | look=>obtain ⟨q1,q2⟩:=S2.still trivial; exact ⟨_,e,fin _ _ _ rfl rfl rfl rfl (S1.read trivial _ (A1 _ rfl) (q1.trans p1))⟩
  | read=>obtain ⟨q1,q2⟩:=S2.still trivial; exact ⟨_,e,fin _ _ _ rfl rfl rfl rfl (S1.read trivial _ (A1 _ rfl) (q1.trans p1))⟩
  | mark=>cases hk
  | alloc=>cases hk
  | set=>cases hk
 | set =>
  cases k2 with
  | free =>
   obtain ⟨q1,q2⟩:=S2.still trivial
   have e:=S2.free rfl s A2
   exact ⟨_,e,fin _ _ _ rfl rfl q1.symm q2.symm (S1.any _ (A1 _ rfl) rfl rfl rfl)⟩
  | _=>cases hk
 | alloc =>
  cases k2 with
  | free =>
   obtain ⟨q1,q2⟩:=S2.still trivial
   have e:=S2.free rfl s A2
   exact ⟨_,e,fin _ _ _ rfl rfl q1.symm q2.symm (S1.any _ (A1 _ rfl) rfl rfl rfl)⟩
  | _=>cases hk
 | mark =>
  obtain ⟨m1,m2,m3,m4⟩:=S1.mark rfl
  cases k2 with
  | free =>
   obtain ⟨q1,q2⟩:=S2.still trivial
   have e:=S2.free rfl s A2
   exact ⟨_,e,fin _ _ _ rfl rfl q1.symm q2.symm (S1.any _ (A1 _ rfl) rfl rfl rfl)⟩
  | look =>
   obtain ⟨q1,q2⟩:=S2.still trivial
   have e:=S2.look rfl s A2 m3
   exact ⟨_,e,fin _ _ _ rfl rfl q1.symm q2.symm (S1.any _ (A1 _ rfl) rfl rfl rfl)⟩
  | alloc =>
   obtain ⟨q1,obs,q2,q3⟩:=S2.alloc rfl
   have e:=q3 s A2 m1.symm
   refine ⟨_,e,fin _ _ _ rfl rfl q2.symm q1.symm (m4 _ obs (A1 _ rfl) rfl rfl rfl)⟩
  | _=>cases hk
end
end Go.Proofs.YtgjcjbhhhlelnaaGreatDoor.Abs
end
section
namespace Go.Proofs.YtgjcjbhhhlelnaaGreatDoor.Abs
open Go Go.RowKit
section
variable {P:Program}{G:Nat→Option (List AV)}{call:FuncId→List AV→List Zn→Option (AV×List Zn×Eff)}{E:Entry}{s s':Zd}{Γ:ZB}{a:Act}{w:World}{hand:Nat→Bool}{draw:Bool}
def PK (ops:Array Oper):Option (Nat×Bool)→Option (Option (Nat×Bool))
 | none=>some none
 | some (j,want)=>match (ops[j]?).bind (·.dst) with
  | some d=>some (some (d,want))
  | none=>none
theorem QQ (hI:Inv E s Γ a w){ops:Array Oper}{o:Oper}{g:Option (Nat×Bool)}{b:Bool}(hg:PK ops o.guard=some g)(h:Yr s g=some b):Region.wanted o (yielded ops a.tmps)=b:=by
 unfold Region.wanted
 cases hq:o.guard with
 | none =>
  rw [hq] at hg
  obtain rfl:=Option.some.inj hg
  simp only [Yr,Option.some.injEq] at h
  exact h
 | some p =>
  obtain ⟨j,want⟩:=p
  rw [hq] at hg
  simp only [PK] at hg
  split at hg
  ·rename_i d hd
   obtain rfl:=Option.some.inj hg
   simp only [Yr] at h
   split at h <;> first | (cases h; done) | skip
   ·rename_i c hc
    obtain rfl:=Option.some.inj h
    have hr:=hI.slots.rep d _ hc
    have hlt:d < a.tmps.size:=by rw [hI.slots.size]; exact Zt hc
    have ht:a.tmps[d]? = some (a.tmps.getD d Go.undef):=Wx hlt
    generalize a.tmps.getD d Go.undef=u at hr ht
    cases hr
    simp only [yielded,hd,Option.bind_some,ht]
    cases c <;> cases want <;> rfl
   ·rename_i hc
    obtain rfl:=Option.some.inj h
    have hr:=hI.slots.rep d _ hc
    have hlt:d < a.tmps.size:=by rw [hI.slots.size]; exact Zt hc
    have ht:a.tmps[d]? = some (a.tmps.getD d Go.undef):=Wx hlt
    generalize a.tmps.getD d Go.undef=u at hr ht
    cases hr
    simp only [yielded,hd,Option.bind_some,ht]
    rfl
  ·cases hg
theorem NC {ops:Array Oper}{o:Oper}{l:List Oper}{aops:List ZQ}(h:VV P hand draw ops (o :: l)=some aops) :
  ∃ g r,PK ops o.guard=some g∧VV P hand draw ops l=some r∧aops=⟨o.dst,(cOp P hand draw o).getD .bad,g⟩ :: r:=by
 simp only [VV] at h
 split at h <;> first | (cases h; done) | skip
 rename_i g r h2 h3
 refine ⟨g,r,?_,h3,(Option.some.inj h).symm⟩
 rw [← h2]
 unfold PK
 cases o.guard with
 | none=>rfl
 | some p=>rfl
theorem XL {o:Oper}{s s':Zd}{v:AV}{call:FuncId→List AV→List Zn→Option (AV×List Zn×Eff)}(h:Zf G call s ((cOp P hand draw o).getD .bad)=some (v,s')):cOp P hand draw o=some ((cOp P hand draw o).getD .bad):=by
 cases hc:cOp P hand draw o with
 | none=>rw [hc] at h; simp [Zf] at h
 | some ao=>rfl
theorem Znj (hG:GOk G E.W0)(hS:Yd P E.W0 call){ops:Array Oper}{Q:Exit→Act→World→Prop}:∀ {l:List Oper} {aops:List ZQ} (k:Nat) {s s':Zd} {Γ:ZB} {a:Act} {w:World},(∀ j,l[j]? = ops[k + j]?) →
  VV P hand draw ops l=some aops→ZE G call aops s=some s'→Inv E s Γ a w→(∀ Γ a w,Inv E s' Γ a w→Q .normal a w)→wpOps P ops Q (List.range' k l.length) a w
 | [],aops,k,s,s',Γ,a,w,_,hc,h,hI,hQ=>by
  obtain rfl:=Option.some.inj (by simpa [VV] using hc:some []=some aops)
  obtain rfl:=Option.some.inj (by simpa [ZE] using h:some s=some s')
  exact hQ Γ a w hI
 | o :: l,aops,k,s,s',Γ,a,w,hl,hc,h,hI,hQ=>by
  obtain ⟨g,r,h2,h3,rfl⟩:=NC hc
  have ho:ops[k]? = some o:=by simpa using (hl 0).symm
  simp only [ZE] at h
  split at h <;> first | (cases h; done) | skip
  rename_i s1 he
  have hl':∀ j,l[j]? = ops[k + 1 + j]?:=fun j=>by
   have:=hl (j + 1)
   simpa [Nat.add_assoc,Nat.add_comm 1 j] using this
  simp only [List.length_cons,List.range'_succ,wpOps,ho]
  simp only [Zz] at he
  split at he <;> first | (cases he; done) | skip
  ·rename_i hw
   rw [QQ hI h2 hw]
   split at he <;> first | (cases he; done) | skip
   rename_i v s2 hev
   obtain rfl:=Option.some.inj he
   simp only [if_true]
   refine .inl (ZqX hG hS hI (XL hev) hev fun Γ' cv w' i1 r1 o1=>?_)
   obtain ⟨Γ2,i2⟩:=i1.put o.dst r1 o1
   exact Znj hG hS (k + 1) hl' h3 h i2 hQ
  ·rename_i hw
   rw [QQ hI h2 hw]
   obtain rfl:=Option.some.inj he
   simp only [Bool.false_eq_true,if_false]
   obtain ⟨Γ2,i2⟩:=hI.put o.dst (v := .undef) (cv := Go.undef) .undef (.of_ne (by simp))
   exact Znj hG hS (k + 1) hl' h3 h i2 hQ
theorem Zd2 (hG:GOk G E.W0)(hS:Yd P E.W0 call){ops:Array Oper}{Q:Exit→Act→World→Prop}{w:World}:∀ {l:List Oper} {aops:List ZQ} {s s':Zd} {Γ:ZB} {a:Act},
  VV P hand draw ops l=some aops→ZbT aops=true→ZE G (Q3 call) aops s=some s'→Inv E s Γ a w→(∀ Γ a w,Inv E s' Γ a w→Q .normal a w) →
  wpQuiet P ops (Behind w) (fun a'=>∀ w',Behind w w'→Q .normal a' w') l a
 | [],aops,s,s',Γ,a,hc,_,h,hI,hQ=>by
  obtain rfl:=Option.some.inj (by simpa [VV] using hc:some []=some aops)
  obtain rfl:=Option.some.inj (by simpa [ZE] using h:some s=some s')
  exact fun w' hw'=>hQ Γ a w' (hw'.inv hI)
 | o :: l,aops,s,s',Γ,a,hc,hq,h,hI,hQ=>by
  obtain ⟨g,r,h2,h3,rfl⟩:=NC hc
  simp only [ZbT,Bool.and_eq_true] at hq
  simp only [ZE] at h
  split at h <;> first | (cases h; done) | skip
  rename_i s1 he
  simp only [wpQuiet]
  simp only [Zz] at he
  split at he <;> first | (cases he; done) | skip
  ·rename_i hw
   rw [QQ hI h2 hw]
   split at he <;> first | (cases he; done) | skip
   rename_i v s2 hev
   obtain rfl:=Option.some.inj he
   simp only [if_true]
   refine Zng hG hS hI (XL hev) hq.1.1 hq.1.2 hev fun cv e r1 o1=>?_
   subst e
   obtain ⟨Γ2,i2⟩:=hI.put o.dst r1 (o1 .res)
   exact Zd2 hG hS h3 hq.2 h i2 hQ
  ·rename_i hw
   rw [QQ hI h2 hw]
   obtain rfl:=Option.some.inj he
   simp only [Bool.false_eq_true,if_false]
   obtain ⟨Γ2,i2⟩:=hI.put o.dst (v := .undef) (cv := Go.undef) .undef (.of_ne (by simp))
   exact Zd2 hG hS h3 hq.2 h i2 hQ
theorem bubble (hq:∀ f args hp v hp' e,call f args hp=some (v,hp',e)→hp'=hp∧e=none){o:ZQ}{l2:List ZQ}{sF:Zd}:∀ {l1:List ZQ} {s:Zd},(∀ x ∈ l1,Zi5 x o=true)→ZE G call (l1 ++ o :: l2) s=some sF →
  ∃ u,Zz G call o s=some u∧ZE G call (l1 ++ l2) u=some sF
 | [],s,_,h=>by
  simp only [List.nil_append,ZE] at h
  split at h <;> first | (cases h; done) | skip
  rename_i u hu
  exact ⟨u,hu,h⟩
 | x :: l1,s,hx,h=>by
  simp only [List.cons_append,ZE] at h
  split at h <;> first | (cases h; done) | skip
  rename_i s1 h1
  obtain ⟨u1,h2,h3⟩:=bubble hq (fun y hy=>hx y (List.mem_cons_of_mem _ hy)) h
  obtain ⟨u,h4,h5⟩:=Zud hq (hx x (List.mem_cons_self ..)) h1 h2
  refine ⟨u,h4,?_⟩
  simp only [List.cons_append,ZE,h5]
  exact h3
theorem Zge:∀ f args hp v hp' e,Q3 call f args hp=some (v,hp',e)→hp'=hp∧e=none:=by
 intro f args hp v hp' e h
 unfold Q3 at h
 split at h <;> first | (cases h; done) | skip
 split at h <;> first | (cases h; done) | skip
 cases h
 exact ⟨rfl,rfl⟩
theorem XR:∀ {l:List Oper} {aops:List ZQ} {ops:Array Oper},VV P hand draw ops l=some aops→l.length=aops.length∧∀ (i:Nat) (o:Oper),l[i]? = some o→∃ g,PK ops o.guard=some g∧aops[i]? = some ⟨o.dst,(cOp P hand draw o).getD .bad,g⟩
 | [],aops,ops,h=>by
  obtain rfl:=Option.some.inj (by simpa [VV] using h:some []=some aops)
  exact ⟨rfl,fun i o hi=>by simp at hi⟩
 | o :: l,aops,ops,h=>by
  obtain ⟨g,r,h2,h3,rfl⟩:=NC h
  obtain ⟨h4,h5⟩:=XR h3
  refine ⟨by simp [h4],fun i o' hi=>?_⟩
  cases i with
  | zero=>cases hi; exact ⟨g,h2,rfl⟩
  | succ i=>exact h5 i o' hi
theorem Znh (hG:GOk G E.W0)(hS:Yd P E.W0 call){ops:Array Oper}{o:Oper}{g:Option (Nat×Bool)}{u:Zd}{K:Act→World→Prop}{Q:Exit→Act→World→Prop}(hn:noHand ((cOp P hand draw o).getD .bad)=true)(h2:PK ops o.guard=some g)
  (he:Zz G (Q3 call) ⟨o.dst,(cOp P hand draw o).getD .bad,g⟩ s=some u) (hI:Inv E s Γ a w) (hK:∀ Γ a w,Inv E u Γ a w→K a w) :
  if Region.wanted o (yielded ops a.tmps)=true then o.wp P a w K Q∨(o.asks P a w∧LetsOut Q) else K (a.put o.dst Go.undef) w:=by
 simp only [Zz] at he
 split at he <;> first | (cases he; done) | skip
 ·rename_i hw
  rw [QQ hI h2 hw]
  split at he <;> first | (cases he; done) | skip
  rename_i v s2 hev
  obtain rfl:=Option.some.inj he
  simp only [if_true]
  refine .inl ?_
  by_cases hc:∃ f args,(cOp P hand draw o).getD .bad=.call f args
  ·obtain ⟨f,args,hcall⟩:=hc
   have hqt:ZdG ((cOp P hand draw o).getD .bad)=true:=by rw [hcall]; rfl
   refine Oper.wp_of_quiet (C := Behind w) (K := fun a'=>∀ w',Behind w w'→K a' w') (Behind.refl w) (fun a' w' hw' h=>h w' hw') ?_
   refine Zng hG hS hI (XL hev) hqt hn hev fun cv e r1 o1=>?_
   subst e
   obtain ⟨Γ2,i2⟩:=hI.put o.dst r1 (o1 .res)
   exact fun w' hw'=>hK _ _ w' (hw'.inv i2)
  ·have hev':Zf G call s ((cOp P hand draw o).getD .bad)=some (v,s2):=by
    rw [← hev]
    cases hx:(cOp P hand draw o).getD .bad <;> first | rfl | exact absurd ⟨_,_,hx⟩ hc
   refine ZqX hG hS hI (XL hev') hev' fun Γ' cv w' i1 r1 o1=>?_
   obtain ⟨Γ2,i2⟩:=i1.put o.dst r1 o1
   exact hK _ _ _ i2
 ·rename_i hw
  rw [QQ hI h2 hw]
  obtain rfl:=Option.some.inj he
  simp only [Bool.false_eq_true,if_false]
  obtain ⟨Γ2,i2⟩:=hI.put o.dst (v := .undef) (cv := Go.undef) .undef (.of_ne (by simp))
  exact hK _ _ _ i2
theorem O6 {listed:Array Bool}{i:Nat}(h:listed.getD i true=false):listed.getD i false=false:=by
 rcases Nat.lt_or_ge i listed.size with h' | h'
 ·simp [h'] at h ⊢; exact h
 ·simp [Array.getElem?_eq_none h'] at h
def WY (n:Nat)(listed:Array Bool):List Nat:=(List.range n).filter fun i=>!listed.getD i true
theorem Xb (n:Nat)(listed:Array Bool):(WY n listed).Pairwise (· < ·):=List.Pairwise.filter _ List.pairwise_lt_range
theorem YD {n i:Nat}{listed:Array Bool}:i ∈ WY n listed↔i < n∧listed.getD i true=false:=by simp [WY]
theorem UD {n i:Nat}{listed:Array Bool}{l1 l2:List Nat}(h:WY n listed=l1 ++ i :: l2)(hi:i < listed.size):WY n (listed.setIfInBounds i true)=l1 ++ l2:=by
 have hs:=Xb n listed
 rw [h] at hs
 have h1:∀ j ∈ l1,j≠i:=fun j hj=>Nat.ne_of_lt ((List.pairwise_append.1 hs).2.2 j hj i (List.mem_cons_self ..))
 have h2:∀ j ∈ l2,j≠i:=fun j hj=>Nat.ne_of_gt ((List.pairwise_cons.1 (List.pairwise_append.1 hs).2.1).1 j hj)
 have e:WY n (listed.setIfInBounds i true)=(WY n listed).filter fun j=>decide (j≠i):=by
  unfold WY
  rw [List.filter_filter]
  refine List.filter_congr fun j _=>?_
  by_cases hji:j=i
  ·subst hji
   have:(listed.setIfInBounds j true).getD j true=true:=by simp [hi]
   simp [this]
  ·rw [getD_set_ne true (Ne.symm hji)]; simp [hji]
 rw [e,h,List.filter_append,List.filter_cons]
 simp only [ne_eq,not_true_eq_false,decide_false,Bool.false_eq_true,if_false]
 rw [List.filter_eq_self.2 (fun j hj=>by simpa using h1 j hj),List.filter_eq_self.2 (fun j hj=>by simpa using h2 j hj)]
theorem Zws (hG:GOk G E.W0)(hS:Yd P E.W0 call){ops:Array Oper}{bops:List ZQ}{Q:Exit→Act→World→Prop}{sF:Zd}(hc:VV P hand draw ops ops.toList=some bops)(hd:ZfF ops bops=true)(hQ:∀ Γ a w,Inv E sF Γ a w→Q .normal a w) :
  ∀ (fuel:Nat) {listed:Array Bool} {s:Zd} {Γ:ZB} {a:Act} {w:World},listed.size=ops.size→JL ops listed→(WY ops.size listed).length=fuel→ZE G (Q3 call) ((WY ops.size listed).map fun i=>bops.getD i ⟨none,.bad,none⟩) s=some sF→Inv E s Γ a w→wpAny P .any ops Q fuel listed a w:=by
 simp only [ZfF,Bool.and_eq_true,List.all_eq_true,List.mem_range] at hd
 obtain ⟨⟨hord,hnh⟩,hpair⟩:=hd
 obtain ⟨hlen,hget⟩:=XR hc
 intro fuel
 induction fuel with
 | zero =>
  intro listed s Γ a w hsz hcl hl h hI
  have hn:=List.eq_nil_of_length_eq_zero hl
  rw [hn] at h
  obtain rfl:=Option.some.inj (by simpa [ZE] using h:some s=some sF)
  refine ⟨List.eq_nil_iff_forall_not_mem.2 fun i hi=>?_,hQ _ _ _ hI⟩
  obtain ⟨h1,o,h2,_⟩:=mem_ready.1 hi
  have:i ∈ WY ops.size listed:=YD.2 ⟨(Array.getElem?_eq_some_iff.1 h2).1,h1⟩
  rw [hn] at this
  cases this
 | succ fuel ih =>
  intro listed s Γ a w hsz hcl hl h hI
  have hlisted:∀ j,j < ops.size→listed.getD j true≠false→listed.getD j false=true:=fun j hj h=>by
   have hj':j < listed.size:=by omega
   simp [hj'] at h ⊢; exact h
  refine ⟨fun hr=>?_,fun i hi=>?_⟩
  ·obtain ⟨i,r,hir⟩:∃ i r,WY ops.size listed=i :: r:=by
    cases hx:WY ops.size listed with
    | nil=>rw [hx] at hl; cases hl
    | cons i r=>exact ⟨i,r,rfl⟩
   have him:=YD.1 (show i ∈ WY ops.size listed by rw [hir]; exact List.mem_cons_self ..)
   have hoi:ops[i]? = some ops[i]:=Array.getElem?_eq_getElem him.1
   have hready:i ∈ Region.ready .any ops listed:=by
    refine mem_ready.2 ⟨him.2,_,hoi,fun e he hb=>?_⟩
    have:=hord i him.1
    rw [hoi] at this
    have hlt:=Array.all_eq_true'.1 this e he
    rw [hb] at hlt
    simp only [Bool.not_true,Bool.false_or,decide_eq_true_eq] at hlt
    refine hlisted e.on (by omega) fun hun=>?_
    have hm:=YD.2 ⟨show e.on < ops.size by omega,hun⟩
    rw [hir] at hm
    have hs:=Xb ops.size listed
    rw [hir] at hs
    rcases List.mem_cons.1 hm with he | hm
    ·omega
    ·have:=(List.pairwise_cons.1 hs).1 _ hm
     omega
   rw [hr] at hready
   cases hready
  ·obtain ⟨hun,o,ho,hdeps⟩:=mem_ready.1 hi
   have hin:=(Array.getElem?_eq_some_iff.1 ho).1
   obtain ⟨l1,l2,hsplit⟩:=List.append_of_mem (YD.2 ⟨hin,hun⟩)
   have hs:=Xb ops.size listed
   rw [hsplit] at hs
   obtain ⟨g,hg1,hg2⟩:=hget i o (by simpa using ho)
   have hbi:bops.getD i ⟨none,.bad,none⟩=⟨o.dst,(cOp P hand draw o).getD .bad,g⟩:=by rw [List.getD_eq_getElem?_getD,hg2]; rfl
   have hcomm:∀ x ∈ l1.map (fun i=>bops.getD i ⟨none,.bad,none⟩),Zi5 x ⟨o.dst,(cOp P hand draw o).getD .bad,g⟩=true:=fun x hx=>by
    obtain ⟨j,hj,rfl⟩:=List.mem_map.1 hx
    have hji:j < i:=(List.pairwise_append.1 hs).2.2 j hj i (List.mem_cons_self ..)
    have hjm:=YD.1 (show j ∈ WY ops.size listed by rw [hsplit]; exact List.mem_append_left _ hj)
    have:=hpair i hin j hji
    rw [Bool.or_eq_true] at this
    rcases this with h1 | h1
    ·exfalso
     have h2:=hcl.ready ho hdeps (F8 h1)
     rw [O6 hjm.2] at h2
     cases h2
    ·rw [hg2] at h1
     split at h1
     ·rename_i x y hx hy
      cases hy
      rw [List.getD_eq_getElem?_getD,hx]
      exact h1
     ·cases h1
   rw [hsplit,List.map_append,List.map_cons,hbi] at h
   obtain ⟨u,hu1,hu2⟩:=bubble Zge hcomm h
   rw [← List.map_append,← UD hsplit (by omega)] at hu2
   have hkk:noHand ((cOp P hand draw o).getD .bad)=true:=hnh _ (List.mem_of_getElem? hg2)
   have hlen2:(WY ops.size (listed.setIfInBounds i true)).length=fuel:=by
    rw [UD hsplit (by omega)]
    rw [hsplit] at hl
    simp at hl ⊢
    omega
   unfold wpOp
   simp only [ho]
   exact Znh hG hS hkk hg1 hu1 hI fun Γ' a' w' hI'=>ih (by simp [hsz]) (hcl.list ho hdeps) hlen2 hu2 hI'
theorem ZqZ (hG:GOk G E.W0)(hS:Yd P E.W0 call){ops:Array Oper}{o:Oper}{g:Option (Nat×Bool)}{u:Zd}{K:Act→World→Prop}{Q:Exit→Act→World→Prop}(h2:PK ops o.guard=some g)
  (he:Zz G call ⟨o.dst,(cOp P hand draw o).getD .bad,g⟩ s=some u) (hI:Inv E s Γ a w) (hK:∀ Γ a w,Inv E u Γ a w→K a w) :
  if Region.wanted o (yielded ops a.tmps)=true then o.wp P a w K Q∨(o.asks P a w∧LetsOut Q) else K (a.put o.dst Go.undef) w:=by
 simp only [Zz] at he
 split at he <;> first | (cases he; done) | skip
 ·rename_i hw
  rw [QQ hI h2 hw]
  split at he <;> first | (cases he; done) | skip
  rename_i v s2 hev
  obtain rfl:=Option.some.inj he
  simp only [if_true]
  refine .inl (ZqX hG hS hI (XL hev) hev fun Γ' cv w' i1 r1 o1=>?_)
  obtain ⟨Γ2,i2⟩:=i1.put o.dst r1 o1
  exact hK _ _ _ i2
 ·rename_i hw
  rw [QQ hI h2 hw]
  obtain rfl:=Option.some.inj he
  simp only [Bool.false_eq_true,if_false]
  obtain ⟨Γ2,i2⟩:=hI.put o.dst (v := .undef) (cv := Go.undef) .undef (.of_ne (by simp))
  exact hK _ _ _ i2
def OC (n size:Nat)(listed:Array Bool):List Nat:=(List.range size).filter fun i=>decide (n≤i) && !listed.getD i true
theorem ZjE (n size:Nat)(listed:Array Bool):(OC n size listed).Pairwise (· < ·):=List.Pairwise.filter _ List.pairwise_lt_range
theorem Ad {n size i:Nat}{listed:Array Bool}:i ∈ OC n size listed↔i < size∧n≤i∧listed.getD i true=false:=by simp [OC]
theorem ZjD {n size i:Nat}{listed:Array Bool}(hi:i < n):OC n size (listed.setIfInBounds i true)=OC n size listed:=by
 unfold OC
 refine List.filter_congr fun j _=>?_
 by_cases hj:n≤j
 ·rw [getD_set_ne true (show i≠j by omega)]
 ·simp [hj]
theorem ZtU {n size i:Nat}{listed:Array Bool}(hi:i < listed.size)(hs:i < size)(hn:n≤i)(hun:listed.getD i true=false)(hb:∀ j,n≤j→j < i→listed.getD j true≠false):OC n size listed=i :: OC n size (listed.setIfInBounds i true):=by
 have e:OC n size (listed.setIfInBounds i true)=(OC n size listed).filter fun j=>decide (j≠i):=by
  unfold OC
  rw [List.filter_filter]
  refine List.filter_congr fun j _=>?_
  by_cases hji:j=i
  ·subst hji
   have:(listed.setIfInBounds j true).getD j true=true:=by simp [hi]
   simp [this]
  ·rw [getD_set_ne true (Ne.symm hji)]; simp [hji]
 obtain ⟨l1,l2,hsp⟩:=List.append_of_mem (Ad.2 ⟨hs,hn,hun⟩)
 have hso:=ZjE n size listed
 rw [hsp] at hso
 have h1:l1=[]:=List.eq_nil_iff_forall_not_mem.2 fun j hj=>by
  have hlt:=(List.pairwise_append.1 hso).2.2 j hj i (List.mem_cons_self ..)
  have hm:=Ad.1 (show j ∈ OC n size listed by rw [hsp]; exact List.mem_append_left _ hj)
  exact hb j hm.2.1 hlt hm.2.2
 subst h1
 rw [e,hsp,List.nil_append,List.filter_cons]
 simp only [ne_eq,not_true_eq_false,decide_false,Bool.false_eq_true,if_false]
 rw [List.filter_eq_self.2 fun j hj=>?_]
 have:=(List.pairwise_cons.1 hso).1 j hj
 have:j≠i:=by omega
 simpa using this
theorem Zwt (hG:GOk G E.W0)(hS:Yd P E.W0 call){ops:Array Oper}{bops:List ZQ}{n:Nat}{Q:Exit→Act→World→Prop}{sF:Zd}(hc:VV P hand draw ops ops.toList=some bops)(hd:ZtK ops bops n=true)(hQ:∀ Γ a w,Inv E sF Γ a w→Q .normal a w) :
  ∀ (fuel:Nat) {listed:Array Bool} {s s1:Zd} {Γ:ZB} {a:Act} {w:World},listed.size=ops.size→JL ops listed→(WY n listed).length + (OC n ops.size listed).length=fuel →
   ZE G (Q3 call) ((WY n listed).map fun i=>bops.getD i ⟨none,.bad,none⟩) s=some s1→ZE G call ((OC n ops.size listed).map fun i=>bops.getD i ⟨none,.bad,none⟩) s1=some sF→Inv E s Γ a w→wpAny P .any ops Q fuel listed a w:=by
 simp only [ZtK,Bool.and_eq_true,List.all_eq_true,List.mem_range,decide_eq_true_eq] at hd
 obtain ⟨⟨⟨⟨hord,hnh⟩,hnle⟩,hpin⟩,hpair⟩:=hd
 obtain ⟨hlen,hget⟩:=XR hc
 intro fuel
 induction fuel with
 | zero =>
  intro listed s s1 Γ a w hsz hcl hl h h' hI
  have hn1:=List.eq_nil_of_length_eq_zero (show (WY n listed).length=0 by omega)
  have hn2:=List.eq_nil_of_length_eq_zero (show (OC n ops.size listed).length=0 by omega)
  rw [hn1] at h
  rw [hn2] at h'
  obtain rfl:=Option.some.inj (by simpa [ZE] using h:some s=some s1)
  obtain rfl:=Option.some.inj (by simpa [ZE] using h':some s=some sF)
  refine ⟨List.eq_nil_iff_forall_not_mem.2 fun i hi=>?_,hQ _ _ _ hI⟩
  obtain ⟨k1,o,k2,_⟩:=mem_ready.1 hi
  have hin:=(Array.getElem?_eq_some_iff.1 k2).1
  rcases Nat.lt_or_ge i n with hlt | hge
  ·have:i ∈ WY n listed:=YD.2 ⟨hlt,k1⟩
   rw [hn1] at this; cases this
  ·have:i ∈ OC n ops.size listed:=Ad.2 ⟨hin,hge,k1⟩
   rw [hn2] at this; cases this
 | succ fuel ih =>
  intro listed s s1 Γ a w hsz hcl hl h h' hI
  have hlisted:∀ j,j < ops.size→listed.getD j true≠false→listed.getD j false=true:=fun j hj h=>by
   have hj':j < listed.size:=by omega
   simp [hj'] at h ⊢; exact h
  refine ⟨fun hr=>?_,fun i hi=>?_⟩
  ·
   have hex:∃ i,i < ops.size∧listed.getD i true=false∧∀ j,j < i→listed.getD j true≠false:=by
    have hne:∃ i,i < ops.size∧listed.getD i true=false:=by
     cases hx:WY n listed with
     | cons i r =>
      have:=YD.1 (show i ∈ WY n listed by rw [hx]; exact List.mem_cons_self ..)
      exact ⟨i,by omega,this.2⟩
     | nil =>
      cases hy:OC n ops.size listed with
      | nil=>rw [hx,hy] at hl; simp at hl
      | cons i r =>
       have:=Ad.1 (show i ∈ OC n ops.size listed by rw [hy]; exact List.mem_cons_self ..)
       exact ⟨i,this.1,this.2.2⟩
    obtain ⟨i,h1,h2⟩:=hne
    induction i using Nat.strongRecOn with
    | _ i ihi =>
     by_cases hx:∃ j,j < i∧listed.getD j true=false
     ·obtain ⟨j,hj1,hj2⟩:=hx
      exact ihi j hj1 (by omega) hj2
     ·exact ⟨i,h1,h2,fun j hj hq=>hx ⟨j,hj,hq⟩⟩
   obtain ⟨i,him,hun,hleast⟩:=hex
   have hoi:ops[i]? = some ops[i]:=Array.getElem?_eq_getElem him
   have hready:i ∈ Region.ready .any ops listed:=by
    refine mem_ready.2 ⟨hun,_,hoi,fun e he hb=>?_⟩
    have:=hord i him
    rw [hoi] at this
    have hlt:=Array.all_eq_true'.1 this e he
    rw [hb] at hlt
    simp only [Bool.not_true,Bool.false_or,decide_eq_true_eq] at hlt
    exact hlisted e.on (by omega) (hleast _ hlt)
   rw [hr] at hready
   cases hready
  ·obtain ⟨hun,o,ho,hdeps⟩:=mem_ready.1 hi
   have hin:=(Array.getElem?_eq_some_iff.1 ho).1
   obtain ⟨g,hg1,hg2⟩:=hget i o (by simpa using ho)
   have hbi:bops.getD i ⟨none,.bad,none⟩=⟨o.dst,(cOp P hand draw o).getD .bad,g⟩:=by rw [List.getD_eq_getElem?_getD,hg2]; rfl
   unfold wpOp
   simp only [ho]
   rcases Nat.lt_or_ge i n with hlt | hge
   ·obtain ⟨l1,l2,hsplit⟩:=List.append_of_mem (YD.2 ⟨hlt,hun⟩)
    have hs:=Xb n listed
    rw [hsplit] at hs
    have hcomm:∀ x ∈ l1.map (fun i=>bops.getD i ⟨none,.bad,none⟩),Zi5 x ⟨o.dst,(cOp P hand draw o).getD .bad,g⟩=true:=fun x hx=>by
     obtain ⟨j,hj,rfl⟩:=List.mem_map.1 hx
     have hji:j < i:=(List.pairwise_append.1 hs).2.2 j hj i (List.mem_cons_self ..)
     have hjm:=YD.1 (show j ∈ WY n listed by rw [hsplit]; exact List.mem_append_left _ hj)
     have:=hpair i hlt j hji
     rw [Bool.or_eq_true] at this
     rcases this with h1 | h1
     ·exfalso
      have h2:=hcl.ready ho hdeps (F8 h1)
      rw [O6 hjm.2] at h2
      cases h2
     ·rw [hg2] at h1
      split at h1
      ·rename_i x y hx hy
       cases hy
       rw [List.getD_eq_getElem?_getD,hx]
       exact h1
      ·cases h1
    rw [hsplit,List.map_append,List.map_cons,hbi] at h
    obtain ⟨u,hu1,hu2⟩:=bubble Zge hcomm h
    rw [← List.map_append,← UD hsplit (by omega)] at hu2
    have hkk:noHand ((cOp P hand draw o).getD .bad)=true:=by
     have hm:(⟨o.dst,(cOp P hand draw o).getD .bad,g⟩:ZQ) ∈ bops.take n:=by
      refine List.mem_of_getElem? (i := i) ?_
      rw [List.getElem?_take_of_lt hlt]; exact hg2
     exact hnh _ hm
    rw [← ZjD (size := ops.size) (listed := listed) hlt] at h'
    refine Znh hG hS hkk hg1 hu1 hI fun Γ' a' w' hI'=>ih (by simp [hsz]) (hcl.list ho hdeps) ?_ hu2 h' hI'
    rw [UD hsplit (by omega),ZjD hlt]
    rw [hsplit] at hl
    simp at hl ⊢
    omega
   ·have hall:∀ j,j < i→listed.getD j true≠false:=fun j hj hq=>by
     have hw:Zbw ops i j=true:=by
      rcases Bool.or_eq_true _ _ ▸ hpin i hin with h1 | h1
      ·have:i < n:=by simpa using h1
       omega
      ·exact List.all_eq_true.1 h1 j (List.mem_range.2 hj)
     have h2:=hcl.ready ho hdeps (F8 hw)
     rw [O6 hq] at h2
     cases h2
    have hnil:WY n listed=[]:=List.eq_nil_iff_forall_not_mem.2 fun j hj=>by
     have:=YD.1 hj
     exact hall j (by omega) this.2
    have hnil2:WY n (listed.setIfInBounds i true)=[]:=List.eq_nil_iff_forall_not_mem.2 fun j hj=>by
     have hm:=YD.1 hj
     rw [getD_set_ne true (show i≠j by omega)] at hm
     exact hall j (by omega) hm.2
    rw [hnil] at h
    obtain rfl:=Option.some.inj (by simpa [ZE] using h:some s=some s1)
    have hon:=ZtU (n := n) (size := ops.size) (listed := listed) (by omega) hin hge hun (fun j _ hj=>hall j hj)
    rw [hon,List.map_cons,hbi] at h'
    simp only [ZE] at h'
    split at h' <;> first | (cases h'; done) | skip
    rename_i u hu
    refine ZqZ hG hS hg1 hu hI fun Γ' a' w' hI'=>ih (s1 := u) (by simp [hsz]) (hcl.list ho hdeps) ?_ (by rw [hnil2]; rfl) h' hI'
    rw [hnil2]
    rw [hnil,hon] at hl
    simp at hl ⊢
    omega
end
end Go.Proofs.YtgjcjbhhhlelnaaGreatDoor.Abs
end
section
namespace Go.Proofs.YtgjcjbhhhlelnaaGreatDoor.Abs
open Go Go.RowKit
section
variable {G:Nat→Option (List AV)}{call:FuncId→List AV→List Zn→Option (AV×List Zn×Eff)}
theorem RI:∀ f args hp v hp' e,Yt call f args hp=some (v,hp',e)→hp'=hp∧e=none:=by
 intro f args hp v hp' e h
 unfold Yt at h
 split at h <;> first | (cases h; done) | skip
 split at h <;> first | (cases h; done) | skip
 split at h <;> first | (cases h; done) | skip
 cases h
 exact ⟨rfl,rfl⟩
theorem Zsn {f:FuncId}{args:List AV}{hp:List Zn}{v:AV}{hp':List Zn}{e:Eff}(h:Yt call f args hp=some (v,hp',e))(h2:List Zn):Yt call f args h2=some (v,h2,none):=by
 unfold Yt at h ⊢
 split at h <;> first | (cases h; done) | skip
 rename_i hb
 rw [if_pos hb]
 split at h <;> first | (cases h; done) | skip
 rename_i hc
 split at h <;> first | (cases h; done) | skip
 cases h
 rfl
def Pfx (h h':List Zn):Prop:=∀ (g:Nat) (o:Zn),h[g]? = some o→h'[g]? = some o
theorem Pfx.take (n:Nat)(h:List Zn):Pfx (h.take n) h:=fun g o hg=>by
 rw [List.getElem?_take] at hg
 split at hg
 ·exact hg
 ·cases hg
theorem Pfx.look {h h':List Zn}(p:Pfx h h'):XD h h':=.of_get fun g cs t hg=>⟨cs,t,p g _ hg,rfl⟩
theorem Pfx.rows {h h':List Zn}(p:Pfx h h'){x:AV}{r:Nat×List (List AV)}(hx:rowsOf h x=some r):rowsOf h' x=some r:=by
 unfold rowsOf at hx ⊢
 split at hx <;> first | exact hx | (cases hx; done) | skip
 split at hx <;> first | (cases hx; done) | skip
 rename_i hg
 rw [p _ _ hg]
 exact hx
theorem Pfx.len {h h':List Zn}(p:Pfx h h'){sh:Zkp}{x v:AV}(hx:Xp h sh x=some v):Xp h' sh x=some v:=by
 unfold Xp at hx ⊢
 split at hx <;> first | exact hx | (cases hx; done) | skip
 split at hx <;> first | (cases hx; done) | skip
 rename_i hg
 rw [p _ _ hg]
 exact hx
theorem Pfx.conv {h h':List Zn}(p:Pfx h h'){c:Conv}{x v:AV}(hx:Vl h c x=some v):Vl h' c x=some v:=by
 unfold Vl at hx ⊢
 split at hx <;> first | exact hx | (cases hx; done) | skip
 split at hx <;> first | (cases hx; done) | skip
 rename_i hg
 rw [p.rows hg]
 exact hx
theorem ZyG {ao:AOp}{k:HK}{s:Zd}{v:AV}{s':Zd}(hk:hkind ao=some k)(hk':k=.free∨k=.look∨k=.read)(h:Zf G (Yt call) s ao=some (v,s')){h2:List Zn}(p:Pfx s.hp h2) :
  s'.hp=s.hp∧s'.ef=s.ef∧s'.bs=s.bs∧Zf G (Yt call) { s with hp:=h2 } ao=some (v,{ s' with hp:=h2 }):=by
 have S:=ZqW RI hk h
 have hst:s'.hp=s.hp∧s'.ef=s.ef:=S.still (by rcases hk' with rfl | rfl | rfl <;> trivial)
 refine ⟨hst.1,hst.2,S.bs,?_⟩
 have fin:Zf G (Yt call) { s with hp:=h2 } ao=some (v,⟨tkF ao s.sl,h2,s.ef,s.bs⟩)→Zf G (Yt call) { s with hp:=h2 } ao=some (v,{ s' with hp:=h2 }):=fun e=>by
  rw [e,← S.sl,← hst.2,← S.bs]
 refine fin ?_
 rcases hk' with rfl | rfl | rfl
 ·exact S.free rfl { s with hp:=h2 } (fun _ _=>rfl)
 ·exact S.look rfl { s with hp:=h2 } (fun _ _=>rfl) p.look
 ·cases ao <;> first | (simp only [hkind,Option.some.injEq,reduceCtorEq] at hk; done) | skip
  case lit e k parts=>cases parts <;> simp [hkind] at hk
  case len sh x =>
   simp only [Zf] at h ⊢
   split at h <;> first | (cases h; done) | skip
   rename_i y hy
   obtain ⟨h1,rfl⟩:=Qy h
   simp only [hy,p.len h1,Option.map_some]
   rfl
  case app k b t x =>
   simp only [Zf] at h ⊢
   split at h <;> first | (cases h; done) | skip
   rename_i k' r y h1 h2
   split at h <;> first | (cases h; done) | skip
   rename_i k2 r2 h3
   split at h <;> first | (cases h; done) | skip
   rename_i hc
   cases h
   simp only [h1,h2,p.rows h3]
   rw [if_pos hc]
   rfl
  case appn k b x =>
   simp only [Zf] at h ⊢
   split at h <;> first | (cases h; done) | skip
   rename_i y h2
   split at h <;> first | (cases h; done) | skip
   rename_i k2 r2 h3
   split at h <;> first | (cases h; done) | skip
   rename_i hc
   cases h
   simp only [h2,p.rows h3]
   rw [if_pos hc]
   rfl
  case conv c x =>
   simp only [Zf] at h ⊢
   split at h <;> first | (cases h; done) | skip
   rename_i y hy
   obtain ⟨h1,rfl⟩:=Qy h
   simp only [hy,p.conv h1,Option.map_some]
   rfl
  case call f args =>
   simp only [Zf] at h ⊢
   split at h <;> first | (cases h; done) | skip
   rename_i g first caps vs sl hf hv
   split at h <;> first | (cases h; done) | skip
   rename_i u hp' e hc
   obtain ⟨rfl,rfl⟩:=RI _ _ _ _ _ _ hc
   cases h
   have hsl:=S.sl
   simp only at hsl
   simp only [hf,hv,Zsn hc h2,Zd.after]
   rw [hsl]
variable (G call)(base:Nat)(al:List Nat)
def C9 (o:ZQ)(s:Zd):Option Zd :=
 match Zz G (Yt call) o { s with hp:=s.hp.take base } with
 | some s'=>some { s' with hp:=s.hp }
 | none=>none
def Zqr:Option Zn→Bool
 | some .dead=>true
 | _=>false
def XV (r:Nat)(o:ZQ)(s:Zd):Option Zd :=
 if Zqr s.hp[base + r]? = true∧s.bs≤base then
  match o.op with
  | .mk t cells=>some (({ s with hp:=s.hp.set (base + r) (.cells cells t) }:Zd).put o.dst (.ptr (base + r) 0))
  | .box t n x=>match opnd G s.sl x with
   | some v=>if v.cells.length=n∧v.laid=true then some (({ s with hp:=s.hp.set (base + r) (.cells v.cells t) }:Zd).put o.dst (.ptr (base + r) 0)) else none
   | none=>none
  | _=>none
 else none
def IW (r:Nat)(o:ZQ)(s:Zd):Option Zd :=
 match setSlot o with
 | some t=>match s.sl[t]? with
  | some (.ptr g 0)=>if g=base + r∧s.bs≤base then Zz G (Yt call) o s else none
  | _=>none
 | none=>none
def KO (o:ZQ)(s:Zd):Option Zd :=
 match ZeG al o with
 | .pre=>C9 G call base o s
 | .at r=>match Jo o with
  | true=>XV G base r o s
  | false=>IW G call base r o s
 | .any=>Zz G (Yt call) o s
def GN:List ZQ→Zd→Option Zd
 | [],s=>some s
 | o :: l,s=>match KO G call base al o s with
  | some s'=>GN l s'
  | none=>none
variable {G call base al}
structure ZzQ (G:Nat→Option (List AV))(call:FuncId→List AV→List Zn→Option (AV×List Zn×Eff))(base:Nat)(al:List Nat)(o:ZQ)(s s':Zd)(f:List AV→List AV):Prop where
 loc:FM (X5 o) f
 sl:s'.sl=f s.sl
 bs:s'.bs=s.bs
 ef:s'.ef=s.ef
 pre:ZeG al o=.pre→s'.hp=s.hp∧∀ t:Zd,Agree (Qx o) s.sl t.sl→t.hp.take base=s.hp.take base→KO G call base al o t=some ⟨f t.sl,t.hp,t.ef,t.bs⟩
 at_:∀ r,ZeG al o=.at r→∃ x,s'.hp=s.hp.set (base + r) x∧∀ t:Zd,Agree (Qx o) s.sl t.sl→t.hp[base + r]? = s.hp[base + r]?→t.bs=s.bs→KO G call base al o t=some ⟨f t.sl,t.hp.set (base + r) x,t.ef,t.bs⟩
theorem CP {o:ZQ}(h:ZgV o=true):∃ k,hkind o.op=some k∧(k=.free∨k=.look∨k=.read):=by
 unfold ZgV at h
 split at h <;> first | (cases h; done) | skip
 ·exact ⟨_,by assumption,.inl rfl⟩
 ·exact ⟨_,by assumption,.inr (.inl rfl)⟩
 ·exact ⟨_,by assumption,.inr (.inr rfl)⟩
theorem ZhA {o:ZQ}(h:ZeG al o=.pre):ZgV o=true:=by
 unfold ZeG at h
 split at h
 ·split at h
  ·split at h <;> cases h
  ·cases h
 ·split at h
  ·split at h <;> cases h
  ·split at h
   ·assumption
   ·cases h
theorem ZwI {o:ZQ}{r:Nat}(h:ZeG al o=.at r):(Jo o=true∧∃ d,o.dst=some d∧idx d al=some r)∨(Jo o=false∧∃ t,setSlot o=some t∧idx t al=some r):=by
 unfold ZeG at h
 split at h
 ·rename_i h1
  split at h
  ·split at h <;> cases h
   exact .inl ⟨h1,_,by assumption,by assumption⟩
  ·cases h
 ·rename_i h1
  split at h
  ·split at h <;> cases h
   exact .inr ⟨h1,_,by assumption,by assumption⟩
  ·split at h <;> cases h
theorem Zn8 {o:ZQ}{s s':Zd}(hc:ZeG al o≠.any)(h:KO G call base al o s=some s'):∃ f,ZzQ G call base al o s s' f:=by
 cases hr:ZeG al o with
 | any=>exact absurd hr hc
 | pre =>
  obtain ⟨k,hk,hk'⟩:=CP (ZhA hr)
  have hev:∀ t,KO G call base al o t=C9 G call base o t:=fun t=>by unfold KO; rw [hr]
  rw [hev] at h
  unfold C9 at h
  split at h <;> first | (cases h; done) | skip
  rename_i s1 h1
  obtain rfl:=Option.some.inj h
  obtain ⟨f,S⟩:=Zee RI hk h1
  have k1:=S.still (by rcases hk' with rfl | rfl | rfl <;> trivial)
  have k2:=S.read (by rcases hk' with rfl | rfl | rfl <;> trivial)
  refine ⟨f,S.loc,S.sl,S.bs,k1.2,fun _=>⟨rfl,fun t ht he=>?_⟩,fun r e=>by rw [hr] at e; cases e⟩
  rw [hev]
  unfold C9
  rw [k2 { t with hp:=t.hp.take base } ht he]
 | «at» r =>
  have hev:∀ t,KO G call base al o t=(match Jo o with | true=>XV G base r o t | false=>IW G call base r o t):=fun t=>by unfold KO; rw [hr]
  rw [hev] at h
  cases hal:Jo o with
  | true =>
   rw [hal] at h
   replace h:XV G base r o s=some s':=h
   have hg:o.guard=none:=by
    unfold Jo at hal
    split at hal <;> first | (cases hal; done) | assumption
   unfold XV at h
   split at h <;> first | (cases h; done) | skip
   rename_i hd
   split at h <;> first | (cases h; done) | skip
   ·rename_i t cells hop
    obtain rfl:=Option.some.inj h
    refine ⟨Zd7 o.dst (.ptr (base + r) 0),⟨?_,by rw [Y8],by rw [Y8],by rw [Y8],fun e=>(by rw [hr] at e; cases e),fun q e=>?_⟩⟩
    ·have:=(FM.id (JU o.op)).comp (Dx o.dst (.ptr (base + r) 0))
     exact this
    ·rw [hr] at e
     cases e
     refine ⟨.cells cells t,by rw [Y8],fun t' ht he hb=>?_⟩
     rw [hev,hal]
     show XV G base r o t'=_
     unfold XV
     rw [he,hb,if_pos hd,hop]
     simp only [Y8,hb]
   ·rename_i t n x hop
    split at h <;> first | (cases h; done) | skip
    rename_i v hv
    split at h <;> first | (cases h; done) | skip
    rename_i hn
    obtain rfl:=Option.some.inj h
    refine ⟨Zd7 o.dst (.ptr (base + r) 0),⟨?_,by rw [Y8],by rw [Y8],by rw [Y8],fun e=>(by rw [hr] at e; cases e),fun q e=>?_⟩⟩
    ·have:=(FM.id (JU o.op)).comp (Dx o.dst (.ptr (base + r) 0))
     exact this
    ·rw [hr] at e
     cases e
     refine ⟨.cells v.cells t,by rw [Y8],fun t' ht he hb=>?_⟩
     have hx:opnd G t'.sl x=some v:=by
      rw [← hv]
      refine (Z4 (G := G) (x := x) ?_).symm
      exact fun i hi=>ht i (List.mem_append_right _ (by rw [hop]; exact hi))
     rw [hev,hal]
     show XV G base r o t'=_
     unfold XV
     rw [he,hb,if_pos hd,hop]
     simp only [hx,Y8,hb]
     rw [if_pos hn]
  | false =>
   rw [hal] at h
   replace h:IW G call base r o s=some s':=h
   have hev':∀ t,KO G call base al o t=IW G call base r o t:=fun t=>by rw [hev,hal]
   unfold IW at h
   split at h <;> first | (cases h; done) | skip
   rename_i q hq
   split at h <;> first | (cases h; done) | skip
   rename_i g hs
   split at h <;> first | (cases h; done) | skip
   rename_i hg
   obtain ⟨rfl,hbs⟩:=hg
   have hgd:o.guard=none:=by
    unfold setSlot at hq
    split at hq <;> first | (cases hq; done) | assumption
   have hw:∀ t,Yr t o.guard=some true:=fun t=>by rw [hgd]; rfl
   simp only [Zz,hw] at h
   split at h <;> first | (cases h; done) | skip
   rename_i v s1 he
   obtain rfl:=Option.some.inj h
   have hpt:∀ t:Zd,t.sl[q]? = s.sl[q]?→opnd G t.sl (.tmp q)=some (.ptr (base + r) 0):=fun t e=>by simp only [opnd,e,hs]; rfl
   have hnote:∀ t:Zd,t.bs=s.bs→t.note (base + r) 0=t.ef:=fun t e=>by
    unfold Zd.note
    rw [if_neg (by omega)]
   unfold setSlot at hq
   split at hq <;> first | (cases hq; done) | skip
   ·rename_i n q' x hop _
    obtain rfl:=Option.some.inj hq
    rw [hop] at he
    simp only [Zf,hpt s rfl] at he
    split at he <;> first | (cases he; done) | skip
    rename_i g0 o0 u h1 h2
    cases h1
    split at he <;> first | (cases he; done) | skip
    rename_i cs ty hcs
    split at he <;> first | (cases he; done) | skip
    rename_i hn
    cases he
    refine ⟨Zd7 o.dst .undef,⟨?_,by rw [Y8],by rw [Y8],by rw [Y8]; exact hnote s rfl,fun e=>(by rw [hr] at e; cases e),fun q2 e=>?_⟩⟩
    ·have:=(FM.id (JU o.op)).comp (Dx o.dst .undef)
     exact this
    ·rw [hr] at e
     cases e
     refine ⟨.cells (splice cs 0 u.cells) ty,by rw [Y8],fun t' ht he hb=>?_⟩
     have a0:Agree (oR (.tmp q') ++ oR x) s.sl t'.sl:=fun i hi=>ht i (List.mem_append_right _ (by rw [hop]; exact hi))
     have e1:=a0.left q' (.head _)
     rw [hev']
     unfold IW setSlot
     rw [hop,hgd]
     simp only
     rw [← e1,hs]
     simp only
     rw [if_pos ⟨trivial,by omega⟩]
     simp only [Zz,hw]
     rw [hop]
     simp only [Zf,hpt t' e1.symm,← Z4 (G := G) (x := x) a0.right,h2,he,hcs]
     rw [if_pos hn]
     simp only [Y8,hnote t' hb]
   ·rename_i q' x hop _
    obtain rfl:=Option.some.inj hq
    rw [hop] at he
    simp only [Zf,hpt s rfl] at he
    split at he <;> first | (cases he; done) | skip
    rename_i g0 o0 u h1 h2
    cases h1
    split at he <;> first | (cases he; done) | skip
    rename_i cs ty hcs
    split at he <;> first | (cases he; done) | skip
    rename_i hn
    cases he
    have hto:JU o.op=[x]:=by rw [hop]; rfl
    refine ⟨fun l=>Zd7 o.dst .undef (l.modify x AV.ro),⟨?_,by rw [Y8]; rfl,by rw [Y8]; rfl,by rw [Y8]; exact hnote s rfl,fun e=>(by rw [hr] at e; cases e),fun q2 e=>?_⟩⟩
    ·have:=(FM.mod x).comp (Dx o.dst .undef)
     unfold X5
     rw [hto]
     exact this
    ·rw [hr] at e
     cases e
     refine ⟨.cells (cs.set 0 u) ty,by rw [Y8],fun t' ht he hb=>?_⟩
     have a0:Agree (x :: oR (.tmp q')) s.sl t'.sl:=fun i hi=>ht i (List.mem_append_right _ (by rw [hop]; exact hi))
     have e1:=a0 q' (.tail _ (.head _))
     have e2:=a0 x (.head _)
     rw [hev']
     unfold IW setSlot
     rw [hop,hgd]
     simp only
     rw [← e1,hs]
     simp only
     rw [if_pos ⟨trivial,by omega⟩]
     simp only [Zz,hw]
     rw [hop]
     simp only [Zf,hpt t' e1.symm,← e2,h2,he,hcs]
     rw [if_pos hn]
     simp only [Y8,hnote t' hb]
     rfl
theorem Z0W {o1 o2:ZQ}{s s1 s2:Zd}(hc:ZnY al o1 o2=true)(h1:KO G call base al o1 s=some s1)(h2:KO G call base al o2 s1=some s2) :
  ∃ u,KO G call base al o2 s=some u∧KO G call base al o1 u=some s2:=by
 simp only [ZnY,Zgm,Bool.and_eq_true] at hc
 obtain ⟨hk,⟨ha,hb⟩,hd⟩:=hc
 have n1:ZeG al o1≠.any:=fun e=>by rw [e] at hk; cases hk
 have n2:ZeG al o2≠.any:=fun e=>by rw [e] at hk; cases h:ZeG al o1 <;> rw [h] at hk <;> cases hk
 obtain ⟨f1,S1⟩:=Zn8 n1 h1
 obtain ⟨f2,S2⟩:=Zn8 n2 h2
 have A2:Agree (Qx o2) s1.sl s.sl:=by rw [S1.sl]; exact (Agree.of_loc S1.loc ha s.sl).symm
 have A1:∀ u:Zd,u.sl=f2 s.sl→Agree (Qx o1) s.sl u.sl:=fun u hu=>by rw [hu]; exact Agree.of_loc S2.loc hd s.sl
 have fin:∀ (u:Zd) (hp:List Zn),u.sl=f2 s.sl→u.bs=s.bs→u.ef=s.ef→hp=s2.hp→KO G call base al o1 u=some ⟨f1 u.sl,hp,u.ef,u.bs⟩→KO G call base al o1 u=some s2:=fun u hp e1 e2 e3 e4 h=>by
  rw [h]
  have q1:f1 u.sl=s2.sl:=by rw [e1,S2.sl,S1.sl]; exact S1.loc.swap S2.loc hb s.sl
  have q2:u.bs=s2.bs:=by rw [e2,S2.bs,S1.bs]
  have q3:u.ef=s2.ef:=by rw [e3,S2.ef,S1.ef]
  rw [q1,q2,q3,e4]
 have tk:∀ (h:List Zn) (r:Nat) (x:Zn),(h.set (base + r) x).take base=h.take base:=fun h r x=>by
  rw [List.take_set_of_le (by omega)]
 cases r1:ZeG al o1 with
 | any=>exact absurd r1 n1
 | pre =>
  obtain ⟨p1,p2⟩:=S1.pre r1
  cases r2:ZeG al o2 with
  | any=>exact absurd r2 n2
  | pre =>
   obtain ⟨p3,p4⟩:=S2.pre r2
   exact ⟨_,p4 s A2 (by rw [p1]),fin _ _ rfl rfl rfl (by rw [p3,p1]) (p2 _ (A1 _ rfl) rfl)⟩
  | «at» r =>
   obtain ⟨x,p3,p4⟩:=S2.at_ r r2
   exact ⟨_,p4 s A2 (by rw [p1]) S1.bs.symm,fin _ _ rfl rfl rfl (by rw [p3,p1]) (p2 _ (A1 _ rfl) (tk _ _ _))⟩
 | «at» r =>
  obtain ⟨x,p1,p2⟩:=S1.at_ r r1
  cases r2:ZeG al o2 with
  | any=>exact absurd r2 n2
  | pre =>
   obtain ⟨p3,p4⟩:=S2.pre r2
   exact ⟨_,p4 s A2 (by rw [p1,tk]),fin _ _ rfl rfl rfl (by rw [p3,p1]) (p2 _ (A1 _ rfl) rfl rfl)⟩
  | «at» q =>
   rw [r1,r2] at hk
   have hne:r≠q:=by simpa using hk
   obtain ⟨y,p3,p4⟩:=S2.at_ q r2
   have o1':∀ (h:List Zn) (z:Zn),(h.set (base + r) z)[base + q]? = h[base + q]?:=fun h z=>List.getElem?_set_ne (by omega)
   have o2':∀ (h:List Zn) (z:Zn),(h.set (base + q) z)[base + r]? = h[base + r]?:=fun h z=>List.getElem?_set_ne (by omega)
   exact ⟨_,p4 s A2 (by rw [p1,o1']) S1.bs.symm,fin _ _ rfl rfl rfl (by rw [p3,p1]; exact List.set_comm _ _ (by omega)) (p2 _ (A1 _ rfl) (o2' _ _) rfl)⟩
theorem Zp0 {o:ZQ}{l2:List ZQ}{sF:Zd}:∀ {l1:List ZQ} {s:Zd},(∀ x ∈ l1,ZnY al x o=true)→GN G call base al (l1 ++ o :: l2) s=some sF →
  ∃ u,KO G call base al o s=some u∧GN G call base al (l1 ++ l2) u=some sF
 | [],s,_,h=>by
  simp only [List.nil_append,GN] at h
  split at h <;> first | (cases h; done) | skip
  rename_i u hu
  exact ⟨u,hu,h⟩
 | x :: l1,s,hx,h=>by
  simp only [List.cons_append,GN] at h
  split at h <;> first | (cases h; done) | skip
  rename_i s1 h1
  obtain ⟨u1,h2,h3⟩:=Zp0 (fun y hy=>hx y (List.mem_cons_of_mem _ hy)) h
  obtain ⟨u,h4,h5⟩:=Z0W (hx x (List.mem_cons_self ..)) h1 h2
  refine ⟨u,h4,?_⟩
  simp only [List.cons_append,GN,h5]
  exact h3
end
section
variable {G:Nat→Option (List AV)}{call:FuncId→List AV→List Zn→Option (AV×List Zn×Eff)}{base:Nat}{al:List Nat}
theorem ZgQ:∀ {l:List Nat} {k t:Nat},nodupB l=true→l[k]? = some t→idx t l=some k
 | [],k,t,_,h=>by simp at h
 | u :: l,k,t,hn,h=>by
  simp only [nodupB,Bool.and_eq_true,Bool.not_eq_true'] at hn
  unfold idx
  cases k with
  | zero=>simp only [List.getElem?_cons_zero,Option.some.injEq] at h; rw [if_pos h]
  | succ k =>
   simp only [List.getElem?_cons_succ] at h
   have:u≠t:=fun e=>by
    subst e
    have:=List.mem_of_getElem? h
    simp [this] at hn
   rw [if_neg this,ZgQ hn.2 h]
   rfl
theorem Zqe:∀ {l:List Nat} {k t:Nat},idx t l=some k→l[k]? = some t
 | [],k,t,h=>by cases h
 | u :: l,k,t,h=>by
  unfold idx at h
  split at h
  ·rename_i e
   cases h
   simp [e]
  ·obtain ⟨q,hq,rfl⟩:=Option.map_eq_some_iff.1 h
   simpa using Zqe hq
def Jn (n:Nat):List Zn:=List.replicate n .dead
theorem Zpt {l m:List Nat}(h:apartB l m=true){t:Nat}(ht:t ∈ m):t ∉ l:=fun hl=>by
 have:=List.all_eq_true.1 h t hl
 simp [ht] at this
theorem Zwr {call:FuncId→List AV→List Zn→Option (AV×List Zn×Eff)}(hq:∀ f args hp v hp' e,call f args hp=some (v,hp',e)→hp'=hp∧e=none){o:ZQ}{k:HK}{s s':Zd}(hk:hkind o.op=some k)(h:Zz G call o s=some s'):s'.bs=s.bs∧∀ t,t ∉ X5 o→s'.sl[t]? = s.sl[t]?:=by
 obtain ⟨f,S⟩:=Zee hq hk h
 exact ⟨S.bs,fun t ht=>by rw [S.sl,S.loc.out _ _ ht]⟩
theorem ZwN {call:FuncId→List AV→List Zn→Option (AV×List Zn×Eff)}{o:ZQ}{s s':Zd}(hk:hkind o.op=some .set)(h:Zz G call o s=some s'):s'.hp.length=s.hp.length:=by
 simp only [Zz] at h
 split at h <;> first | (cases h; done) | skip
 ·split at h <;> first | (cases h; done) | skip
  rename_i v s1 he
  obtain rfl:=Option.some.inj h
  rw [Y8]
  show s1.hp.length=_
  cases hop:o.op <;> rw [hop] at hk he <;> first | (simp only [hkind,Option.some.injEq,reduceCtorEq] at hk; done) | skip
  case lit e k parts=>cases parts <;> simp [hkind] at hk
  case call f args=>simp only [hkind] at hk; split at hk <;> simp at hk
  all_goals
   simp only [Zf] at he
   repeat' split at he
   all_goals first
    | (cases he; done)
    | (cases he; simp [Zd.let_])
 ·obtain rfl:=Option.some.inj h
  rw [Y8]
theorem sim (hnd:nodupB al=true):∀ {l:List ZQ} {k:Nat} {s sF:Zd},ZfT al k l=true→k≤al.length→ZE G (Yt call) l s=some sF→s.bs≤base→s.hp.length=base + k→(∀ (r t:Nat) (v:AV),r < k→al[r]? = some t→s.sl[t]? = some v→v=.ptr (base + r) 0) →
  GN G call base al l { s with hp:=s.hp ++ Jn (al.length - k) } = some sF
 | [],k,s,sF,ho,hk,h,hbs,hl,hs=>by
  simp only [ZfT,beq_iff_eq] at ho
  obtain rfl:=Option.some.inj h
  subst ho
  simp only [GN,Nat.sub_self,Jn,List.replicate_zero,List.append_nil]
 | o :: l,k,s,sF,ho,hk,h,hbs,hl,hs=>by
  simp only [ZE] at h
  split at h <;> first | (cases h; done) | skip
  rename_i s1 h1
  simp only [ZfT] at ho
  cases hal:Jo o with
  | true =>
   rw [hal] at ho
   simp only [Bool.and_eq_true,beq_iff_eq] at ho
   obtain ⟨hd,ho⟩:=ho
   have hg:o.guard=none:=by
    unfold Jo at hal
    split at hal <;> first | (cases hal; done) | assumption
   obtain ⟨t,ht⟩:∃ t,o.dst=some t:=by
    unfold Jo at hal
    split at hal <;> first | (cases hal; done) | exact ⟨_,by assumption⟩
   rw [ht] at hd
   have hkl:k < al.length:=(List.getElem?_eq_some_iff.1 hd.symm).1
   have hcls:ZeG al o=.at k:=by
    unfold ZeG
    rw [hal,ht]
    simp only
    rw [ZgQ hnd hd.symm]
   have hdead:({ s with hp:=s.hp ++ Jn (al.length - k) }:Zd).hp[base + k]? = some .dead:=by
    show (s.hp ++ Jn (al.length - k))[base + k]? = _
    rw [List.getElem?_append_right (by omega),hl,Nat.sub_self]
    unfold Jn
    rw [List.getElem?_replicate,if_pos (by omega)]
   have hset:∀ x:Zn,(s.hp ++ Jn (al.length - k)).set (base + k) x=(s.hp ++ [x]) ++ Jn (al.length - (k + 1)):=fun x=>by
    rw [List.set_append_right _ _ (by omega),hl,Nat.sub_self]
    obtain ⟨m,hm⟩:∃ m,al.length - k=m + 1:=⟨al.length - k - 1,by omega⟩
    have:al.length - (k + 1)=m:=by omega
    rw [hm,this]
    simp [Jn,List.replicate_succ]
   have key:∀ x:Zn,s1=({ s with hp:=s.hp ++ [x] }:Zd).put o.dst (.ptr s.hp.length 0)→KO G call base al o { s with hp:=s.hp ++ Jn (al.length - k) } = some (({ s with hp:=(s.hp ++ Jn (al.length - k)).set (base + k) x }:Zd).put o.dst (.ptr (base + k) 0)) →
     GN G call base al (o :: l) { s with hp:=s.hp ++ Jn (al.length - k) } = some sF:=fun x e1 e2=>by
    simp only [GN]
    rw [e2]
    have:=sim hnd (l := l) (k := k + 1) (s := s1) ho hkl h (by rw [e1,ht]; exact hbs) (by rw [e1,ht]; simp [Zd.put,hl]; omega) (fun r q v hr hq hv=>by
     rw [e1,ht] at hv
     simp only [Zd.put] at hv
     by_cases e:r=k
     ·subst e
      rw [← hd] at hq
      cases hq
      rw [List.getElem?_set] at hv
      split at hv
      ·split at hv
       ·rw [← Option.some.inj hv,hl]
       ·cases hv
      ·rename_i ne; exact absurd rfl ne
     ·refine hs r q v (by omega) hq ?_
      rw [List.getElem?_set_ne] at hv
      ·exact hv
      ·intro e'
       subst e'
       have i1:=ZgQ hnd hq
       rw [ZgQ hnd hd.symm] at i1
       cases i1
       exact e rfl)
    rw [← this,e1,ht]
    simp only [Zd.put,hset,hl]
   simp only [Zz,hg,Yr] at h1
   split at h1 <;> first | (cases h1; done) | skip
   rename_i v s2 hev
   obtain rfl:=Option.some.inj h1
   have hR:KO G call base al o { s with hp:=s.hp ++ Jn (al.length - k) } = XV G base k o { s with hp:=s.hp ++ Jn (al.length - k) }:=by
    unfold KO
    rw [hcls,hal]
   have hif:Zqr ({ s with hp:=s.hp ++ Jn (al.length - k) }:Zd).hp[base + k]? = true∧({ s with hp:=s.hp ++ Jn (al.length - k) }:Zd).bs≤base:=⟨by rw [hdead]; rfl,hbs⟩
   cases hop:o.op with
   | mk t' cells =>
    rw [hop] at hev
    cases hev
    refine key _ rfl ?_
    rw [hR]
    unfold XV
    rw [if_pos hif,hop]
   | box t' n x =>
    rw [hop] at hev
    simp only [Zf] at hev
    split at hev <;> first | (cases hev; done) | skip
    rename_i u hu
    split at hev <;> first | (cases hev; done) | skip
    rename_i hn
    cases hev
    refine key _ rfl ?_
    rw [hR]
    unfold XV
    rw [if_pos hif,hop]
    simp only [hu]
    rw [if_pos hn]
   | _=>unfold Jo at hal; rw [hop] at hal; simp at hal
  | false =>
   rw [hal] at ho
   simp only [Bool.and_eq_true,Bool.or_eq_true] at ho
   obtain ⟨⟨ho1,ho2⟩,ho3⟩:=ho
   have go:∀ q:HK,hkind o.op=some q→s1.hp.length=s.hp.length→KO G call base al o { s with hp:=s.hp ++ Jn (al.length - k) } = some { s1 with hp:=s1.hp ++ Jn (al.length - k) }→GN G call base al (o :: l) { s with hp:=s.hp ++ Jn (al.length - k) } = some sF:=fun q hq hlen e=>by
    obtain ⟨b1,b2⟩:=Zwr RI hq h1
    simp only [GN]
    rw [e]
    refine sim hnd ho3 hk h (by rw [b1]; exact hbs) (by rw [hlen]; exact hl) fun r t v hr ht hv=>hs r t v hr ht ?_
    rw [← b2 t (Zpt ho2 (List.mem_of_getElem? ht))]
    exact hv
   have pre:∀ q:HK,hkind o.op=some q→(q=.free∨q=.look∨q=.read)→setSlot o=none→(q=.free∨k=0)→GN G call base al (o :: l) { s with hp:=s.hp ++ Jn (al.length - k) } = some sF:=fun q hq hq' hns hk0=>by
    obtain ⟨f,S⟩:=Zee RI hq h1
    have st:=S.still (by rcases hq' with rfl | rfl | rfl <;> trivial)
    have hcls:ZeG al o=.pre:=by
     unfold ZeG
     rw [hal]
     simp only
     rw [hns]
     have:ZgV o=true:=by unfold ZgV; rw [hq]; rcases hq' with rfl | rfl | rfl <;> rfl
     simp [this]
    refine go q hq (by rw [st.1]) ?_
    unfold KO
    rw [hcls]
    simp only
    unfold C9
    have hrun:Zz G (Yt call) o { s with hp:=(s.hp ++ Jn (al.length - k)).take base } = some ⟨f s.sl,(s.hp ++ Jn (al.length - k)).take base,s.ef,s.bs⟩:=by
     rcases hk0 with rfl | rfl
     ·exact S.free rfl { s with hp:=(s.hp ++ Jn (al.length - k)).take base } (fun _ _=>rfl)
     ·have:(s.hp ++ Jn (al.length - 0)).take base=s.hp:=by
       rw [List.take_append_of_le_length (by omega),List.take_of_length_le (by omega)]
      rw [this]
      exact S.read (by rcases hq' with rfl | rfl | rfl <;> trivial) s (fun _ _=>rfl) rfl
    have e0:Zz G (Yt call) o { ({ s with hp:=s.hp ++ Jn (al.length - k) }:Zd) with hp:=({ s with hp:=s.hp ++ Jn (al.length - k) }:Zd).hp.take base } = some ⟨f s.sl,(s.hp ++ Jn (al.length - k)).take base,s.ef,s.bs⟩:=hrun
    rw [e0]
    simp only
    rw [st.1,← S.sl,← st.2,← S.bs]
   rcases ho1 with (ho1 | ho1) | ho1
   ·have hq:hkind o.op=some .free:=by
     unfold Zu2 at ho1
     split at ho1
     ·assumption
     ·cases ho1
    refine pre .free hq (.inl rfl) ?_ (.inl rfl)
    unfold setSlot
    split <;> first | rfl | (rename_i hop _; rw [hop] at hq; cases hq)
   ·simp only [beq_iff_eq] at ho1
    obtain ⟨q,hq,hq'⟩:=CP ho1.1
    refine pre q hq hq' ?_ (.inr ho1.2)
    unfold setSlot
    split <;> first | rfl | (rename_i hop _; rw [hop] at hq; cases hq; rcases hq' with h | h | h <;> cases h)
   ·simp only [beq_iff_eq] at ho1
    obtain ⟨ho1,rfl⟩:=ho1
    have hq:hkind o.op=some .set:=by
     unfold Zyd at ho1
     split at ho1
     ·assumption
     ·cases ho1
    have hnp:ZgV o=false:=by unfold ZgV; rw [hq]
    refine go .set hq (ZwN hq h1) ?_
    have e0:∀ x:Zd,({ x with hp:=x.hp ++ Jn (al.length - al.length) }:Zd)=x:=fun x=>by simp [Jn]
    rw [e0 s,e0 s1]
    unfold KO
    cases hc:ZeG al o with
    | any=>exact h1
    | pre=>have:=ZhA hc; rw [hnp] at this; cases this
    | «at» r =>
     simp only
     rw [hal]
     rcases ZwI hc with ⟨e,_⟩ | ⟨_,t,ht,hr⟩
     ·rw [hal] at e; cases e
     ·have hget:=Zqe hr
      have hrl:r < al.length:=(List.getElem?_eq_some_iff.1 hget).1
      obtain ⟨v,hv⟩:∃ v,s.sl[t]? = some v:=by
       cases hv:s.sl[t]? with
       | some v=>exact ⟨v,rfl⟩
       | none =>
        exfalso
        have hnone:opnd G s.sl (.tmp t)=none:=by simp only [opnd,hv]; rfl
        simp only [Zz] at h1
        unfold setSlot at ht
        split at ht <;> first | (cases ht; done) | skip
        all_goals
         rename_i hop hgd
         obtain rfl:=Option.some.inj ht
         rw [hgd] at h1
         simp only [Yr] at h1
         rw [hop] at h1
         simp only [Zf,hnone] at h1
         cases h1
      have hp:=hs r t v hrl hget hv
      subst hp
      show IW G call base r o s=some s1
      unfold IW
      rw [ht]
      simp only
      rw [hv]
      simp only
      rw [if_pos ⟨trivial,hbs⟩]
      exact h1
end
section
variable {P:Program}{G:Nat→Option (List AV)}{call:FuncId→List AV→List Zn→Option (AV×List Zn×Eff)}{E:Entry}{s s':Zd}{Γ:ZB}{a:Act}{w:World}{hand:Nat→Bool}{draw:Bool}{o:Oper}{base:Nat}{al:List Nat}
theorem ZiW {ao:AOp}(h:(cOp P hand draw o).getD .bad=ao)(hb:ao≠.bad):cOp P hand draw o=some ao:=by
 cases hc:cOp P hand draw o with
 | none=>rw [hc] at h; exact absurd h.symm hb
 | some x=>rw [hc] at h; exact congrArg some h
theorem Zx3 {t:TypeId}{cells:List AV}(h:cOp P hand draw o=some (.mk t cells)):∃ z,o.op=.alloc t∧Zkm P t=some z∧z.cells.all AV.one=true∧cells=z.cells:=by
 unfold cOp at h
 repeat' split at h
 all_goals first
  | (cases h; done)
  | (obtain ⟨_,_,e⟩:=Option.map_eq_some_iff.1 h; cases e; done)
  | (cases h; exact ⟨_,by assumption,by assumption,by assumption,rfl⟩)
theorem Zvg {t:TypeId}{n:Nat}{x:Ym}(h:cOp P hand draw o=some (.box t n x)):∃ x',o.op=.box t x'∧ZT P t x'=some x:=by
 unfold cOp at h
 repeat' split at h
 all_goals first
  | (cases h; done)
  | (obtain ⟨_,h1,e⟩:=Option.map_eq_some_iff.1 h; cases e; exact ⟨_,by assumption,h1⟩)
  | (obtain ⟨_,h1,e⟩:=Option.map_eq_some_iff.1 h; cases e; done)
theorem ZmH (hI:Inv E s Γ a w){e:TypeId}{v:AV}{cv:Value}{n:Nat}(hd:s.hp[n]? = some .dead)(hb:s.bs≤n)(hr:Rep Γ w v cv)(hl:v.laid=true)(hn:∀ k r,v=.own k r→r=[]∧cv=.slice none 0 0) :
  Inv E { s with hp:=s.hp.set n (.cells v.cells e) } (ZbY Γ w.heap.size (.own n)) a (w.alloc (.cells cv.cells e))∧Rep (ZbY Γ w.heap.size (.own n)) (w.alloc (.cells cv.cells e)) (.ptr n 0) (.pointer (some ⟨w.heap.size,0,none⟩)):=by
 obtain ⟨a1,a2⟩:=hr.cellsRep hl hn
 have st:=Ja hI.rw.fresh (.cells cv.cells e) (.own n)
 refine ⟨hI.fill _ _ hd hb ⟨w.heap.size,cv.cells,WL _ _ _,heap_alloc_new w _,a1,fun i c hc=>?_⟩,.ptr _ _ _ (WL _ _ _)⟩
 obtain ⟨b1,b2,b3⟩:=a2 i c hc
 exact ⟨b1,b2.mono st.fix st.own,.nil b3⟩
theorem ZvQ (hG:GOk G E.W0)(hI:Inv E s Γ a w){g:Option (Nat×Bool)}{r:Nat}{u:Zd}(he:XV G base r ⟨o.dst,(cOp P hand draw o).getD .bad,g⟩ s=some u){K:Act→World→Prop}{Q:Exit→Act→World→Prop}(hK:∀ Γ a w,Inv E u Γ a w→K a w) :
  o.wp P a w K Q:=by
 unfold XV at he
 split at he <;> first | (cases he; done) | skip
 rename_i hd
 obtain ⟨hd,hbs⟩:=hd
 have hd':s.hp[base + r]? = some .dead:=by
  unfold Zqr at hd
  split at hd
  ·assumption
  ·cases hd
 split at he <;> first | (cases he; done) | skip
 ·rename_i t cells hop
  obtain rfl:=Option.some.inj he
  obtain ⟨z,h1,h2,h3,rfl⟩:=Zx3 (ZiW hop (by nofun))
  obtain ⟨i,zv,hi,hzv,hrep⟩:=ZeD h2
  obtain ⟨k1,k2⟩:=hrep Γ w
  obtain ⟨i1,i2⟩:=ZmH hI (e := t) hd' (by omega) k1 (NR h3) k2
  have hrun:(execOp a.eval o).run P w=.ok (.value (.pointer (some ⟨w.heap.size,0,none⟩))) (w.alloc (.cells zv.cells t)):=by
   simp only [execOp,h1]
   simp [Instr.alloc,zeroValue,typeInfo,hi,hzv,newVar,newRow]
  unfold Oper.wp
  rw [hrun]
  obtain ⟨Γ2,j2⟩:=i1.put o.dst i2 (.of_ne (by simp))
  exact hK _ _ _ j2
 ·rename_i t n x hop
  split at he <;> first | (cases he; done) | skip
  rename_i v hv
  split at he <;> first | (cases he; done) | skip
  rename_i hl
  obtain rfl:=Option.some.inj he
  obtain ⟨x',h1,h2⟩:=Zvg (ZiW hop (by nofun))
  obtain ⟨k1,k2⟩:=Zr hG hI h2 hv
  obtain ⟨i1,i2⟩:=ZmH hI (e := t) hd' (by omega) k1 hl.2 k2
  have hrun:(execOp a.eval o).run P w=.ok (.value (.pointer (some ⟨w.heap.size,0,none⟩))) (w.alloc (.cells (a.eval x').cells t)):=by
   simp only [execOp,h1]
   simp [Instr.box,newVar,newRow]
  unfold Oper.wp
  rw [hrun]
  obtain ⟨Γ2,j2⟩:=i1.put o.dst i2 (.of_ne (by simp))
  exact hK _ _ _ j2
theorem Zhs (hG:GOk G E.W0)(hS:Yd P E.W0 call){ops:Array Oper}{g:Option (Nat×Bool)}{u:Zd}{K:Act→World→Prop}{Q:Exit→Act→World→Prop}(h2:PK ops o.guard=some g)
  (he:Zz G call ⟨o.dst,(cOp P hand draw o).getD .bad,g⟩ s=some u) (hI:Inv E s Γ a w) (hK:∀ Γ a w,Inv E u Γ a w→K a w) :
  if Region.wanted o (yielded ops a.tmps)=true then o.wp P a w K Q∨(o.asks P a w∧LetsOut Q) else K (a.put o.dst Go.undef) w:=by
 simp only [Zz] at he
 split at he <;> first | (cases he; done) | skip
 ·rename_i hw
  rw [QQ hI h2 hw]
  split at he <;> first | (cases he; done) | skip
  rename_i v s2 hev
  obtain rfl:=Option.some.inj he
  simp only [if_true]
  refine .inl (ZqX hG hS hI (XL hev) hev fun Γ' cv w' i1 r1 o1=>?_)
  obtain ⟨Γ2,i2⟩:=i1.put o.dst r1 o1
  exact hK _ _ _ i2
 ·rename_i hw
  rw [QQ hI h2 hw]
  obtain rfl:=Option.some.inj he
  simp only [Bool.false_eq_true,if_false]
  obtain ⟨Γ2,i2⟩:=hI.put o.dst (v := .undef) (cv := Go.undef) .undef (.of_ne (by simp))
  exact hK _ _ _ i2
theorem Zt2 (hG:GOk G E.W0)(hS:Yd P E.W0 (Yt call)){ops:Array Oper}{g:Option (Nat×Bool)}{u:Zd}{K:Act→World→Prop}{Q:Exit→Act→World→Prop}(h2:PK ops o.guard=some g)
  (he:KO G call base al ⟨o.dst,(cOp P hand draw o).getD .bad,g⟩ s=some u) (hI:Inv E s Γ a w) (hK:∀ Γ a w,Inv E u Γ a w→K a w) :
  if Region.wanted o (yielded ops a.tmps)=true then o.wp P a w K Q∨(o.asks P a w∧LetsOut Q) else K (a.put o.dst Go.undef) w:=by
 unfold KO at he
 split at he
 ·
  rename_i hc
  obtain ⟨k,hk,hk'⟩:=CP (ZhA hc)
  refine Zhs (hand := hand) (draw := draw) hG hS h2 ?_ hI hK
  unfold C9 at he
  split at he <;> first | (cases he; done) | skip
  rename_i s1 h1
  obtain rfl:=Option.some.inj he
  show Zz G (Yt call) ⟨o.dst,(cOp P hand draw o).getD .bad,g⟩ s=_
  simp only [Zz] at h1 ⊢
  have wg:∀ h,Yr { s with hp:=h } g=Yr s g:=fun h=>by cases g <;> rfl
  rw [wg] at h1
  split at h1 <;> first | (cases h1; done) | skip
  ·rename_i hw
   split at h1 <;> first | (cases h1; done) | skip
   rename_i v s2 hev
   obtain rfl:=Option.some.inj h1
   obtain ⟨e1,e2,e3,e4⟩:=ZyG hk hk' hev (Pfx.take base s.hp)
   have e4':Zf G (Yt call) s ((cOp P hand draw o).getD .bad)=some (v,{ s2 with hp:=s.hp }):=e4
   rw [e4']
   simp only [Y8]
  ·rename_i hw
   obtain rfl:=Option.some.inj h1
   simp only [Y8]
 ·
  split at he
  ·rename_i hal
   have hg:g=none:=by
    unfold Jo at hal
    split at hal <;> first | (cases hal; done) | assumption
   subst hg
   have hw:Region.wanted o (yielded ops a.tmps)=true:=QQ hI h2 (b := true) rfl
   rw [hw]
   simp only [if_true]
   exact .inl (ZvQ hG hI he hK)
  ·unfold IW at he
   split at he <;> first | (cases he; done) | skip
   split at he <;> first | (cases he; done) | skip
   split at he <;> first | (cases he; done) | skip
   exact Zhs hG hS h2 he hI hK
 ·exact Zhs hG hS h2 he hI hK
theorem Zt5 (hG:GOk G E.W0)(hS:Yd P E.W0 (Yt call)){ops:Array Oper}{bops:List ZQ}{Q:Exit→Act→World→Prop}{sF:Zd}(hc:VV P hand draw ops ops.toList=some bops)
  (hord:∀ i,i < ops.size→(match ops[i]? with | some o=>o.after.all fun e=>!Region.binds .any e || decide (e.on < i) | none=>false)=true)
  (hpair:∀ i,i < ops.size→∀ j,j < i→(Zbw ops i j || (match bops[j]?,bops[i]? with | some x,some y=>ZnY al x y | _,_=>false))=true) (hQ:∀ Γ a w,Inv E sF Γ a w→Q .normal a w) :
  ∀ (fuel:Nat) {listed:Array Bool} {s:Zd} {Γ:ZB} {a:Act} {w:World},listed.size=ops.size→JL ops listed→(WY ops.size listed).length=fuel→GN G call base al ((WY ops.size listed).map fun i=>bops.getD i ⟨none,.bad,none⟩) s=some sF→Inv E s Γ a w→wpAny P .any ops Q fuel listed a w:=by
 obtain ⟨hlen,hget⟩:=XR hc
 intro fuel
 induction fuel with
 | zero =>
  intro listed s Γ a w hsz hcl hl h hI
  have hn:=List.eq_nil_of_length_eq_zero hl
  rw [hn] at h
  obtain rfl:=Option.some.inj (by simpa [GN] using h:some s=some sF)
  refine ⟨List.eq_nil_iff_forall_not_mem.2 fun i hi=>?_,hQ _ _ _ hI⟩
  obtain ⟨h1,o,h2,_⟩:=mem_ready.1 hi
  have:i ∈ WY ops.size listed:=YD.2 ⟨(Array.getElem?_eq_some_iff.1 h2).1,h1⟩
  rw [hn] at this
  cases this
 | succ fuel ih =>
  intro listed s Γ a w hsz hcl hl h hI
  have hlisted:∀ j,j < ops.size→listed.getD j true≠false→listed.getD j false=true:=fun j hj h=>by
   have hj':j < listed.size:=by omega
   simp [hj'] at h ⊢; exact h
  refine ⟨fun hr=>?_,fun i hi=>?_⟩
  ·obtain ⟨i,r,hir⟩:∃ i r,WY ops.size listed=i :: r:=by
    cases hx:WY ops.size listed with
    | nil=>rw [hx] at hl; cases hl
    | cons i r=>exact ⟨i,r,rfl⟩
   have him:=YD.1 (show i ∈ WY ops.size listed by rw [hir]; exact List.mem_cons_self ..)
   have hoi:ops[i]? = some ops[i]:=Array.getElem?_eq_getElem him.1
   have hready:i ∈ Region.ready .any ops listed:=by
    refine mem_ready.2 ⟨him.2,_,hoi,fun e he hb=>?_⟩
    have:=hord i him.1
    rw [hoi] at this
    have hlt:=Array.all_eq_true'.1 this e he
    rw [hb] at hlt
    simp only [Bool.not_true,Bool.false_or,decide_eq_true_eq] at hlt
    refine hlisted e.on (by omega) fun hun=>?_
    have hm:=YD.2 ⟨show e.on < ops.size by omega,hun⟩
    rw [hir] at hm
    have hs:=Xb ops.size listed
    rw [hir] at hs
    rcases List.mem_cons.1 hm with he | hm
    ·omega
    ·have:=(List.pairwise_cons.1 hs).1 _ hm
     omega
   rw [hr] at hready
   cases hready
  ·obtain ⟨hun,o,ho,hdeps⟩:=mem_ready.1 hi
   have hin:=(Array.getElem?_eq_some_iff.1 ho).1
   obtain ⟨l1,l2,hsplit⟩:=List.append_of_mem (YD.2 ⟨hin,hun⟩)
   have hs:=Xb ops.size listed
   rw [hsplit] at hs
   obtain ⟨g,hg1,hg2⟩:=hget i o (by simpa using ho)
   have hbi:bops.getD i ⟨none,.bad,none⟩=⟨o.dst,(cOp P hand draw o).getD .bad,g⟩:=by rw [List.getD_eq_getElem?_getD,hg2]; rfl
   have hcomm:∀ x ∈ l1.map (fun i=>bops.getD i ⟨none,.bad,none⟩),ZnY al x ⟨o.dst,(cOp P hand draw o).getD .bad,g⟩=true:=fun x hx=>by
    obtain ⟨j,hj,rfl⟩:=List.mem_map.1 hx
    have hji:j < i:=(List.pairwise_append.1 hs).2.2 j hj i (List.mem_cons_self ..)
    have hjm:=YD.1 (show j ∈ WY ops.size listed by rw [hsplit]; exact List.mem_append_left _ hj)
    have:=hpair i hin j hji
    rw [Bool.or_eq_true] at this
    rcases this with h1 | h1
    ·exfalso
     have h2:=hcl.ready ho hdeps (F8 h1)
     rw [O6 hjm.2] at h2
     cases h2
    ·rw [hg2] at h1
     split at h1
     ·rename_i x y hx hy
      cases hy
      rw [List.getD_eq_getElem?_getD,hx]
      exact h1
     ·cases h1
   rw [hsplit,List.map_append,List.map_cons,hbi] at h
   obtain ⟨u,hu1,hu2⟩:=Zp0 hcomm h
   rw [← List.map_append,← UD hsplit (by omega)] at hu2
   have hlen2:(WY ops.size (listed.setIfInBounds i true)).length=fuel:=by
    rw [UD hsplit (by omega)]
    rw [hsplit] at hl
    simp at hl ⊢
    omega
   unfold wpOp
   simp only [ho]
   exact Zt2 hG hS hg1 hu1 hI fun Γ' a' w' hI'=>ih (by simp [hsz]) (hcl.list ho hdeps) hlen2 hu2 hI'
theorem Inv.keepFree (h:Inv E s Γ a w)(n:Nat):Inv E { s with hp:=s.hp ++ Jn n } Γ a w:=by
 refine ⟨h.defers,h.slots,⟨fun g o hg=>?_,h.rw.inj,h.rw.fresh,fun b g hb=>?_,h.rw.old,h.rw.oldImm,fun g hg b hb=>?_⟩,h.fr,h.base,h.base2,?_,h.back⟩
 ·rw [List.getElem?_append] at hg
  split at hg
  ·exact h.rw.objs g o hg
  ·have:=List.eq_of_mem_replicate (List.mem_of_getElem? hg)
   subst this
   trivial
 ·have:=h.rw.lt b g hb
  simp only [List.length_append]
  omega
 ·have:=h.rw.lt b g hb
  rw [List.getElem?_append_left this] at hg
  exact h.rw.dead g hg b hb
 ·have:=h.le
  simp only [List.length_append]
  omega
theorem Zhi (hG:GOk G E.W0)(hS:Yd P E.W0 (Yt call)){ops:Array Oper}{bops:List ZQ}{Q:Exit→Act→World→Prop}{sF:Zd}(hc:VV P hand draw ops ops.toList=some bops)(hd:ZcR ops bops=true)(hQ:∀ Γ a w,Inv E sF Γ a w→Q .normal a w)
  (h:ZE G (Yt call) bops s=some sF) (hI:Inv E s Γ a w):wpAny P .any ops Q ops.size (Array.replicate ops.size false) a w:=by
 simp only [ZcR,Bool.and_eq_true,List.all_eq_true,List.mem_range] at hd
 obtain ⟨⟨⟨⟨hord,_⟩,hok⟩,hnd⟩,hpair⟩:=hd
 have hr:WY ops.size (Array.replicate ops.size false)=List.range ops.size:=by
  unfold WY
  refine List.filter_eq_self.2 fun i hi=>?_
  simp only [List.mem_range] at hi
  simp [hi]
 have hmap:(List.range ops.size).map (fun i=>bops.getD i ⟨none,.bad,none⟩)=bops:=by
  have hl:ops.size=bops.length:=by simpa using (XR hc).1
  rw [hl]
  refine List.ext_getElem? fun i=>?_
  rw [List.getElem?_map]
  by_cases hi:i < bops.length
  ·rw [List.getElem?_range hi,Option.map_some,List.getD_eq_getElem?_getD,List.getElem?_eq_getElem hi]; rfl
  ·rw [List.getElem?_eq_none (by simpa using hi),List.getElem?_eq_none (by omega)]; rfl
 have hs:=sim (base := s.hp.length) hnd hok (Nat.zero_le _) h hI.le rfl (fun r t v hr=>absurd hr (Nat.not_lt_zero _))
 exact Zt5 hG hS hc hord hpair hQ ops.size (by simp) (.start ops _) (by rw [hr]; simp) (by rw [hr,hmap]; exact hs) (hI.keepFree _)
end
end Go.Proofs.YtgjcjbhhhlelnaaGreatDoor.Abs
end
end
