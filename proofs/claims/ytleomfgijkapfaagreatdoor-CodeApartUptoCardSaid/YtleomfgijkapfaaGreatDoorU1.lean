import Derived.Deep.Quiet
import Derived.Orders
import Derived.LoopN
import Derived.Scope
import Derived.IntWalk
import Derived.Test.YtleomfgijkapfaaGreatDoorU0
set_option linter.all false
section
section
namespace Go.Proofs.YtleomfgijkapfaaGreatDoor.Abs
open Go Go.RowKit
section
variable {P:Program}{w:World}
def EZ (e:AV×AV)(m:MapEntry):Prop:=e.1.flat=true∧e.2.flat1=true∧m.key=e.1.conc∧m.val=e.2.conc1
theorem UC {c:CK}{a b:AV}(h:YP c a b=some true):a.conc1=b.conc1:=by
 cases c <;> cases a <;> cases b <;> simp only [YP] at h <;> first | (cases h; done) | skip
 ·split at h
  ·rename_i e
   subst e
   simp only [Option.some.injEq,beq_iff_eq] at h
   rw [h]
  ·cases h
 ·simp only [Option.some.injEq,beq_iff_eq] at h
  rw [h]
 ·simp only [Option.some.injEq,beq_iff_eq] at h
  rw [h]
theorem IE {c:CK}{a b:AV}{q:Bool}(h:YP c a b=some q):a.flat1=true∧b.flat1=true:=by
 cases c <;> cases a <;> cases b <;> simp only [YP] at h <;> first | (cases h; done) | exact ⟨rfl,rfl⟩
theorem Ja {a:AV}(h:a.flat1=true):a.conc=a.conc1:=by cases a <;> first | rfl | (cases h)
theorem OY {kt:TypeId}{c:CK}(hk:OX P kt=some (.one c)):I7 P kt=some c:=by
 unfold OX at hk
 split at hk
 ·split at hk
  ·split at hk <;> cases hk
  ·cases hk
 ·obtain ⟨c',h1,h2⟩:=Option.map_eq_some_iff.1 hk
  cases h2; exact h1
theorem Lh {kt:TypeId}{c:CK}(hk:OX P kt=some (.pair c)):∃ e,P.underlying kt=some (.array 2 e)∧I7 P e=some c∧P.cellsOf e=1:=by
 unfold OX at hk
 split at hk
 ·rename_i n e hu
  split at hk
  ·rename_i c' hc
   split at hk
   ·rename_i h2
    cases hk
    obtain ⟨hsz,rfl⟩:=h2
    exact ⟨e,hu,hc,hsz⟩
   ·cases hk
  ·cases hk
 ·obtain ⟨_,_,e⟩:=Option.map_eq_some_iff.1 hk; cases e
theorem Ziw {kt:TypeId}{sh:KSh}{a b:AV}{q:Bool}(hk:OX P kt=some sh)(h:BF sh a b=some q)(w:World):(Op.equal kt a.conc b.conc).run P w=.ok q w∧(q=true→a.conc=b.conc):=by
 cases sh with
 | one c =>
  have hc:=OY hk
  obtain ⟨f1,f2⟩:=IE h
  rw [Ja f1,Ja f2]
  exact ⟨GU (Γ := fun _=>.imm) (w := w) hc (Xu f1 _ w) (Xu f2 _ w) h 9999 w,fun e=>by subst e; exact UC h⟩
 | pair c =>
  obtain ⟨e,hu,hc,hsz⟩:=Lh hk
  unfold BF at h
  split at h <;> first | (cases h; done) | skip
  ·rename_i e; cases e
  rename_i c' x0 x1 y0 y1 e'
  cases e'
  obtain ⟨g1,g2⟩:=Gn hc
  obtain ⟨ie,hie⟩:=info_of_underlying g2
  have hp:∀ (z0 z1:Value) (W:World),(part e #[z0,z1] 0).run P W=.ok z0 W∧(part e #[z0,z1] 1).run P W=.ok z1 W:=fun z0 z1 W=>⟨Xy g1 g2 rfl W,Xy g1 g2 rfl W⟩
  have he:∀ {x y:AV} {r:Bool},YP c x y=some r→∀ W,(Op.equalIn 9999 e x.conc1 y.conc1).run P W=.ok r W:=fun hr W=>by
   obtain ⟨f1,f2⟩:=IE hr
   exact GU (Γ := fun _=>.imm) (w := W) hc (Xu f1 _ W) (Xu f2 _ W) hr 9998 W
  have hrun:∀ {q0:Bool},YP c x0 y0=some q0→∀ q1,(q0=true→YP c x1 y1=some q1)→(Op.equal kt (AV.agg [x0,x1]).conc (AV.agg [y0,y1]).conc).run P w=.ok (q0 && q1) w:=by
   intro q0 h0 q1 h1
   have e0:=he h0 w
   have:=run_equalIn_array (P := P) w 9999 (AV.conc1 x0 :: [AV.conc1 x1]).toArray (AV.conc1 y0 :: [AV.conc1 y1]).toArray hu hie
   show (Op.equalIn (9999 + 1) kt (.agg (AV.conc1 x0 :: [AV.conc1 x1]).toArray) (.agg (AV.conc1 y0 :: [AV.conc1 y1]).toArray)).run P w=_
   rw [this,hsz]
   show (Op.eqItems 9999 e 1 #[x0.conc1,x1.conc1] #[y0.conc1,y1.conc1] [0,1]).run P w=_
   simp only [Op.eqItems,Sem.run_bind,Nat.mul_one,(hp _ _ w).1,Result.andThen_ok,e0]
   cases q0 with
   | false=>simp
   | true =>
    have e1:=he (h1 rfl) w
    simp only [Bool.not_true,Bool.false_eq_true,if_false,Sem.run_bind,(hp _ _ w).2,Result.andThen_ok,e1]
    cases q1 <;> simp
  cases h0:YP c x0 y0 with
  | none=>rw [h0] at h; cases h
  | some q0 =>
   rw [h0] at h
   cases q0 with
   | false =>
    obtain rfl:=Option.some.inj h
    exact ⟨by simpa using hrun h0 false (fun h=>by cases h),fun h=>by cases h⟩
   | true =>
    have h1:YP c x1 y1=some q:=h
    refine ⟨by simpa using hrun h0 q (fun _=>h1),fun e=>?_⟩
    subst e
    simp only [AV.conc,List.map_cons,List.map_nil,UC h0,UC h1]
structure Found (sh:KSh)(k:AV)(es:List (AV×AV))(st:Nat)(r:Option AV)(q:Option (Nat×Value)):Prop where
 no:r=none→q=none∧∀ v,update sh k v es=some (es ++ [(k,v)])
 yes:∀ v,r=some v→∃ i k',q=some (st + i,v.conc1)∧v.flat1=true∧es[i]? = some (k',v)∧k.conc=k'.conc∧∀ v2,update sh k v2 es=some (es.set i (k',v2))
theorem Found.here {sh:KSh}{k k' v:AV}{es:List (AV×AV)}{st:Nat}(hq:BF sh k k'=some true)(hc:k.conc=k'.conc)(hf:v.flat1=true):Found sh k ((k',v) :: es) st (some v) (some (st,v.conc1)) :=
 ⟨fun e=>(by cases e),fun u e=>by cases e; exact ⟨0,k',rfl,hf,rfl,hc,fun v2=>by simp [update,hq]⟩⟩
theorem Found.later {sh:KSh}{k k' v:AV}{es:List (AV×AV)}{st:Nat}{r:Option AV}{q:Option (Nat×Value)}(hq:BF sh k k'=some false)(h:Found sh k es (st + 1) r q):Found sh k ((k',v) :: es) st r q:=by
 refine ⟨fun e=>⟨(h.no e).1,fun v2=>by simp [update,hq,(h.no e).2 v2]⟩,fun u e=>?_⟩
 obtain ⟨i,k2,h1,h2,h3,h4,h5⟩:=h.yes u e
 exact ⟨i + 1,k2,by rw [h1,Nat.add_assoc,Nat.add_comm 1 i],h2,by simpa using h3,h4,fun v2=>by simp [update,hq,h5 v2]⟩
theorem Found.none_ {sh:KSh}{k:AV}{st:Nat}:Found sh k [] st none none:=⟨fun _=>⟨rfl,fun _=>rfl⟩,fun _ e=>by cases e⟩
theorem Zfi {kt:TypeId}{sh:KSh}{k:AV}(hk:OX P kt=some sh)(w:World):∀ {es:List (AV×AV)} {ms:List MapEntry} {r:Option AV} (st:Nat),ZaT EZ es ms→find sh k es=some r →
  ∃ q,(Instr.findAsking kt k.conc ms st).run P w=.ok q w∧Found sh k es st r q
 | _,_,r,st,.nil,h=>by
  obtain rfl:=Option.some.inj h
  exact ⟨none,rfl,.none_⟩
 | _,_,r,st,.cons (x := e) (y := m) (l := es) (m := ms) he hes,h=>by
  obtain ⟨k',v⟩:=e
  simp only [find] at h
  cases hq:BF sh k k' with
  | none=>rw [hq] at h; cases h
  | some q =>
   rw [hq] at h
   obtain ⟨e1,e2⟩:=Ziw hk hq w
   obtain ⟨r1,r2,r3,r4⟩:=he
   cases q with
   | true =>
    obtain rfl:=Option.some.inj h
    refine ⟨some (st,v.conc1),?_,.here hq (e2 rfl) r2⟩
    simp only [Instr.findAsking,Sem.run_bind,r3,e1,Result.andThen_ok,r4]
    rfl
   | false =>
    obtain ⟨q,h1,h2⟩:=Zfi hk w (st + 1) hes h
    refine ⟨q,?_,.later hq h2⟩
    simp only [Instr.findAsking,Sem.run_bind,r3,e1,Result.andThen_ok]
    exact h1
theorem Ze3 {kt:TypeId}{c:CK}{a b:AV}{q:Bool}{d:TypeDesc}(hc:I7 P kt=some c)(hd:P.underlying kt=some d)(h:YP c a b=some q):Instr.sameNow d a.conc1 b.conc1=some q:=by
 unfold I7 at hc
 rw [hd] at hc
 cases d <;> simp only at hc <;> first | (cases hc; done) | skip
 all_goals
  cases hc
  cases a <;> cases b <;> simp only [YP] at h <;> first | (cases h; done) | skip
 all_goals first
  | exact h
  | (simp only [AV.conc1,Instr.sameNow]; rw [← h]; congr 1; rw [Bool.eq_iff_iff,beq_toListBytes]; simp)
theorem PT {kt:TypeId}{c:CK}{k:AV}{d:TypeDesc}(hk:OX P kt=some (.one c))(hd:P.underlying kt=some d):∀ {es:List (AV×AV)} {ms:List MapEntry} {r:Option AV} (st:Nat),ZaT EZ es ms→find (.one c) k es=some r →
  ∃ q,Instr.findNow d k.conc ms st=some q∧Found (.one c) k es st r q
 | _,_,r,st,.nil,h=>by
  obtain rfl:=Option.some.inj h
  exact ⟨none,rfl,.none_⟩
 | _,_,r,st,.cons (x := e) (y := m) (l := es) (m := ms) he hes,h=>by
  obtain ⟨k',v⟩:=e
  simp only [find] at h
  cases hq:BF (.one c) k k' with
  | none=>rw [hq] at h; cases h
  | some q =>
   rw [hq] at h
   obtain ⟨r1,r2,r3,r4⟩:=he
   obtain ⟨f1,f2⟩:=IE hq
   have hs:=Ze3 (OY hk) hd hq
   rw [← Ja f1,← Ja f2] at hs
   cases q with
   | true =>
    obtain rfl:=Option.some.inj h
    refine ⟨some (st,v.conc1),?_,.here hq (by rw [Ja f1,Ja f2]; exact UC hq) r2⟩
    simp only [Instr.findNow,r3,hs,r4]
   | false =>
    obtain ⟨q,h1,h2⟩:=PT hk hd (st + 1) hes h
    refine ⟨q,?_,.later hq h2⟩
    simp only [Instr.findNow,r3,hs]
    exact h1
theorem II {kt:TypeId}{sh:KSh}{k:AV}(hk:OX P kt=some sh)(w:World){es:List (AV×AV)}{ms:List MapEntry}{r:Option AV}(he:ZaT EZ es ms)(h:find sh k es=some r) :
  ∃ q,(Instr.findKey kt k.conc ms).run P w=.ok q w∧Found sh k es 0 r q:=by
 cases sh with
 | one c =>
  have hc:=OY hk
  obtain ⟨d,hd⟩:=Option.isSome_iff_exists.1 (Gn hc).2
  obtain ⟨q,h1,h2⟩:=PT hk hd 0 he h
  exact ⟨q,Go.MapKept.run_findKey hd h1,h2⟩
 | pair c =>
  obtain ⟨e,hu,_,_⟩:=Lh hk
  obtain ⟨q,h1,h2⟩:=Zfi hk w 0 he h
  exact ⟨q,(run_findKey_eq w (by rw [hu]) _ _).trans h1,h2⟩
theorem IM {sh:KSh}{k:AV}(h:Ur sh k=true):k.flat=true:=by
 unfold Ur at h
 split at h <;> first | rfl | (cases h; done)
theorem Ru {kt:TypeId}{sh:KSh}{k:AV}(hk:OX P kt=some sh)(h:Ur sh k=true)(e:Bool)(w:World):(Instr.checkKey e 10000 kt k.conc).run P w=.ok () w:=by
 have plain:∀ {t:TypeId} {c:CK} (n:Nat) (v:Value),I7 P t=some c→(Instr.checkKey e (n + 1) t v).run P w=.ok () w:=fun {t c} n v hc=>by
  unfold I7 at hc
  cases hd:P.underlying t with
  | none=>rw [hd] at hc; cases hc
  | some d =>
   rw [hd] at hc
   cases d <;> simp only at hc <;> first | (cases hc; done) | skip
   all_goals simp [Instr.checkKey,run_underlying hd]
 cases sh with
 | one c=>exact plain 9999 _ (OY hk)
 | pair c =>
  obtain ⟨el,hu,hc,hsz⟩:=Lh hk
  obtain ⟨g1,g2⟩:=Gn hc
  obtain ⟨ie,hie⟩:=info_of_underlying g2
  have hp:∀ (z0 z1:Value),(part el #[z0,z1] 0).run P w=.ok z0 w∧(part el #[z0,z1] 1).run P w=.ok z1 w:=fun z0 z1=>⟨Xy g1 g2 rfl w,Xy g1 g2 rfl w⟩
  have hs:=ZE hie w
  rw [hsz] at hs
  have key:∀ x0 x1:AV,(Instr.checkKey e (9999 + 1) kt (AV.agg [x0,x1]).conc).run P w=.ok () w:=fun x0 x1=>by
   have p1:=plain 9998 x0.conc1 hc
   have p2:=plain 9998 x1.conc1 hc
   simp only [AV.conc,List.map_cons,List.map_nil]
   unfold Instr.checkKey
   simp only [Sem.run_bind,run_underlying hu,Result.andThen_ok]
   simp only [Std.Legacy.Range.forIn_eq_forIn_range',Std.Legacy.Range.size,Nat.sub_zero,Nat.add_one_sub_one,Nat.div_one]
   simp only [List.range'_succ,List.range'_zero,List.forIn_cons,List.forIn_nil,Sem.run_bind,hs,Result.andThen_ok,Nat.zero_mul,Nat.zero_add,Nat.mul_one,(hp _ _).1,(hp _ _).2,p1,p2,Sem.run_pure]
  unfold Ur at h
  split at h <;> first | (cases h; done) | skip
  all_goals first | exact key _ _ | (rename_i e; cases e; done) | (rename_i e _; cases e; done) | (rename_i e _ _; cases e; done) | (rename_i e _ _ _; cases e; done)
end
end Go.Proofs.YtleomfgijkapfaaGreatDoor.Abs
end
section
namespace Go.Proofs.YtleomfgijkapfaaGreatDoor.Abs
open Go Go.RowKit
section
variable {P:Program}{G:Nat→Option (List AV)}{E:Entry}{s:Za}{Γ:Zo}{a:Act}{w:World}{o:Oper}
theorem IB {v:AV}{cv:Value}(h:Rep Γ w v cv)(hf:v.flat=true):cv=v.conc:=by
 cases h with
 | agg cells cv hs h1 hn hr =>
  simp only [AV.flat,List.all_eq_true] at hf
  simp only [AV.conc,Value.agg.injEq]
  apply Array.ext'
  apply List.ext_getElem?
  intro j
  simp only [List.getElem?_map,Array.getElem?_toList]
  by_cases hj:j < cells.length
  ·have hc:=List.getElem?_eq_getElem hj
   have:=(hr j _ hc).conc1 (hf _ (List.getElem_mem hj))
   rw [hc,Option.map_some,← this]
   exact Yd (by omega)
  ·rw [List.getElem?_eq_none (by omega),Array.getElem?_eq_none (by omega)]; rfl
 | tup vs cv hs hr =>
  simp only [AV.flat,List.all_eq_true] at hf
  simp only [AV.conc,Value.tuple.injEq]
  apply Array.ext'
  apply List.ext_getElem?
  intro j
  simp only [List.getElem?_map,Array.getElem?_toList]
  by_cases hj:j < vs.length
  ·have hc:=List.getElem?_eq_getElem hj
   have:=(hr j _ hc).conc1 (hf _ (List.getElem_mem hj))
   rw [hc,Option.map_some,← this]
   exact Yd (by omega)
  ·rw [List.getElem?_eq_none (by omega),Array.getElem?_eq_none (by omega)]; rfl
 | fn f fst caps fv cv hs1 hr1 hs hr =>
  exact (Rep.fn f fst caps fv cv hs1 hr1 hs hr).conc1 hf
 | _=>first | rfl | (cases hf; done)
theorem Po {es:List (AV×AV)}{ms:Array MapEntry}(hs:ms.size=es.length)(h:∀ (i:Nat) (e:AV×AV),es[i]? = some e→∃ m,ms[i]? = some m∧e.1.flat=true∧e.2.flat1=true∧m.key=e.1.conc∧m.val=e.2.conc1):ZaT EZ es ms.toList:=by
 refine ZaT.of_get (by simpa using hs.symm) fun j e m he hm=>?_
 obtain ⟨m',h1,h2⟩:=h j e he
 rw [Array.getElem?_toList,h1] at hm
 cases hm
 exact h2
theorem ZjI {t:TypeId}{z:AV}(hz:zeroOf P t=some z)(hf:z.flat1=true)(w:World):(zeroValue t).run P w=.ok z.conc1 w:=by
 obtain ⟨i,zv,hi,hzv,hrep⟩:=Xb hz
 rw [← (hrep (fun _=>.imm) w).1.conc1 hf]
 simp [zeroValue,typeInfo,hi,hzv]
def Zi5 (ok:Bool)(z:AV):Option AV→Value
 | some v=>if ok then .tuple #[v.conc1,.bool true] else v.conc1
 | none=>if ok then .tuple #[z.conc1,.bool false] else z.conc1
def Zmf (ok:Bool)(z:AV):Option AV→AV
 | some v=>if ok then AV.tup [v,.bool true] else v
 | none=>if ok then AV.tup [z,.bool false] else z
theorem ZgC {t kt et:TypeId}{sh:KSh}{k z:AV}{ok:Bool}{b:Nat}{ms:Array MapEntry}{clk:Nat}{es:List (AV×AV)}{r:Option AV}(ht:P.underlying t=some (.map kt et))(hk:OX P kt=some sh)(hb:w.heap[b]? = some (.map ms clk))(he:ZaT EZ es ms.toList)(hf:find sh k es=some r)
  (hck:∀ emp,(Instr.checkKey emp 10000 kt k.conc).run P w=.ok () w) (hz:(zeroValue et).run P w=.ok z.conc1 w):(Instr.lookup t (.map (some b)) k.conc ok).run P w=.ok (Zi5 ok z r) w∧∀ v,r=some v→v.flat1=true:=by
 obtain ⟨q,e1,e2⟩:=II hk w he hf
 cases r with
 | none =>
  obtain ⟨rfl,_⟩:=e2.no rfl
  refine ⟨?_,fun v e=>by cases e⟩
  simp only [Instr.lookup,Sem.run_bind,run_underlying ht,MapKept.run_getObj_map hb,hck,Result.andThen_ok,e1,hz,Sem.run_pure]
  rfl
 | some v =>
  obtain ⟨j,k',rfl,hv,_⟩:=e2.yes v rfl
  refine ⟨?_,fun v' e=>by cases e; exact hv⟩
  simp only [Instr.lookup,Sem.run_bind,run_underlying ht,MapKept.run_getObj_map hb,hck,Result.andThen_ok,e1,Sem.run_pure]
  rfl
theorem ZnC (hG:GOk G E.W0)(hI:Inv E s Γ a w){t kt et:TypeId}{sh:KSh}{z:AV}{x i:Operand}{x' i':ZR}{u k v:AV}{ok:Bool}(ho:o.op=.lookup t x i ok)(ht:P.underlying t=some (.map kt et))(hk:OX P kt=some sh)(hz:zeroOf P et=some z)(hzf:z.flat1=true)
  (hcx:Z4 P t x=some x') (hci:Z4 P kt i=some i') (hx:opnd G s.sl x'=some u) (hi:opnd G s.sl i'=some k) (h:Zaf s.hp sh z u k ok=some v):KJ P E s v a w o:=by
 have k1:=(Zh hG hI hcx hx).1
 have k2:=(Zh hG hI hci hi).1
 unfold Zaf at h
 split at h
 ·cases h
 rename_i hfit
 have hfit:Ur sh k=true:=by simpa using hfit
 have hkc:=IB k2 (IM hfit)
 have hzr:=ZjI hz hzf w
 have hck:∀ emp,(Instr.checkKey emp 10000 kt k.conc).run P w=.ok () w:=fun emp=>Ru hk hfit emp w
 have fin:∀ (r:Option AV),(∀ v,r=some v→v.flat1=true)→(execOp a.eval o).run P w=.ok (.value (Zi5 ok z r)) w →
   Zmf ok z r=v→KJ P E s v a w o:=by
  intro r hr hrun hv
  have two:∀ (y:AV) (b:Bool),y.flat1=true→Rep Γ w (if ok then AV.tup [y,.bool b] else y) (if ok then Value.tuple #[y.conc1,.bool b] else y.conc1):=fun y b hy=>by
   cases ok with
   | false=>exact Xu hy Γ w
   | true =>
    refine .tup _ #[y.conc1,.bool b] rfl fun j c hj=>?_
    match j with
    | 0=>cases hj; exact Xu hy Γ w
    | 1=>cases hj; exact .bool b
    | j + 2=>simp at hj
  have nown:∀ (y:AV) (b:Bool),y.flat1=true→∀ k r,(if ok then AV.tup [y,.bool b] else y)≠.own k r:=fun y b hy=>by
   cases ok with
   | false=>exact ZbI hy
   | true=>intro k r e; cases e
  cases r with
  | some y =>
   subst hv
   exact .pure hI hrun (two y true (hr y rfl)) fun k r e=>absurd e (nown y true (hr y rfl) k r)
  | none =>
   subst hv
   exact .pure hI hrun (two z false hzf) fun k r e=>absurd e (nown z false hzf k r)
 generalize hq:a.eval x=q at k1
 have hexec:∀ r,(Instr.lookup t q k.conc ok).run P w=.ok r w→(execOp a.eval o).run P w=.ok (.value r) w:=fun r hr=>by
  simp only [execOp,ho,hq,hkc]
  rw [Sem.run_bind,hr]; rfl
 have some_:∀ {g:Nat} {es:List (AV×AV)} {r:Option AV},s.hp[g]? = some (.map es)→find sh k es=some r→Rep Γ w (.map g) q→Zmf ok z r=v→KJ P E s v a w o:=by
  intro g es r hg hf hm hv
  cases hm with
  | map _ b hb =>
   obtain ⟨b',ms,clk,h1,h2,h3,h4⟩:=hI.rw.objs g _ hg
   obtain rfl:=hI.rw.inj b b' g hb h1
   obtain ⟨m1,m2⟩:=ZgC (ok := ok) ht hk h2 (Po h3 h4) hf hck hzr
   exact fin r m2 (hexec _ m1) hv
 split at h
 ·rename_i y hy
  split at hy <;> first | (cases hy; done) | skip
  split at hy <;> first | (cases hy; done) | skip
  rename_i hg
  exact some_ hg hy k1 (Option.some.inj h)
 ·rename_i hy
  split at hy <;> first | (cases hy; done) | skip
  ·cases k1
   refine fin none (fun v e=>by cases e) (hexec _ ?_) (Option.some.inj h)
   simp only [Instr.lookup,Sem.run_bind,run_underlying ht,Result.andThen_ok,Sem.run_pure,hck]
   have:(Instr.findKey kt k.conc []).run P w=.ok none w:=by
    obtain ⟨q,e1,e2⟩:=II (k := k) (r := none) hk w (.nil:ZaT EZ [] []) rfl
    obtain ⟨rfl,_⟩:=e2.no rfl
    exact e1
   simp only [this,Result.andThen_ok,Sem.run_bind,hzr,Sem.run_pure]
   rfl
  ·split at hy <;> first | (cases hy; done) | skip
   rename_i hg
   exact some_ hg hy k1 (Option.some.inj h)
 ·cases h
theorem UM {c:CK}{x y:AV}(n:Nat)(h:YP c x y=some true):Instr.sameBits n y.conc1 x.conc1=true:=by
 cases c <;> cases x <;> cases y <;> simp only [YP] at h <;> first | (cases h; done) | skip
 ·split at h
  ·rename_i e
   subst e
   simp only [Option.some.injEq,beq_iff_eq] at h
   subst h
   simp [AV.conc1,Instr.sameBits]
  ·cases h
 ·simp only [Option.some.injEq,beq_iff_eq] at h
  subst h
  simp [AV.conc1,Instr.sameBits]
 ·simp only [Option.some.injEq,beq_iff_eq] at h
  subst h
  simp [AV.conc1,Instr.sameBits,beq_toListBytes]
theorem ZaD {sh:KSh}{k:AV}(h:Ur sh k=true):Instr.sameBits 10000 k.conc k.conc=true:=by
 have one:∀ (x:AV),(∃ k n,x=.int k n)∨(∃ b,x=.bool b)∨(∃ s,x=.str s)→∀ n,Instr.sameBits n x.conc1 x.conc1=true:=fun x hx n=>by
  rcases hx with ⟨k,m,rfl⟩ | ⟨b,rfl⟩ | ⟨s,rfl⟩
  ·exact UM (c := .int) n (by simp [YP])
  ·exact UM (c := .bool) n (by simp [YP])
  ·exact UM (c := .str) n (by simp [YP])
 have two:∀ x y:AV,((∃ k n,x=.int k n)∨(∃ b,x=.bool b)∨(∃ s,x=.str s))→((∃ k n,y=.int k n)∨(∃ b,y=.bool b)∨(∃ s,y=.str s))→Instr.sameBits (9999 + 1) (AV.agg [x,y]).conc (AV.agg [x,y]).conc=true:=fun x y hx hy=>by
  simp only [AV.conc,List.map_cons,List.map_nil,Instr.sameBits,List.zip_cons_cons,List.zip_nil_right,List.all_cons,List.all_nil,one x hx 9999,one y hy 9999,beq_self_eq_true,Bool.and_self]
 unfold Ur at h
 split at h <;> first | (cases h; done) | skip
 ·exact one _ (.inl ⟨_,_,rfl⟩) _
 ·exact one _ (.inr (.inl ⟨_,rfl⟩)) _
 ·exact one _ (.inr (.inr ⟨_,rfl⟩)) _
 ·exact two _ _ (.inl ⟨_,_,rfl⟩) (.inl ⟨_,_,rfl⟩)
 ·exact two _ _ (.inr (.inr ⟨_,rfl⟩)) (.inr (.inr ⟨_,rfl⟩))
theorem ZnF (hG:GOk G E.W0)(hI:Inv E s Γ a w){t kt et:TypeId}{sh:KSh}{m k v:Operand}{m' k' v':ZR}{g:Nat}{ka va:AV}{es es':List (AV×AV)}(ho:o.op=.mapUpdate t m k v)(ht:P.underlying t=some (.map kt et))(hk:OX P kt=some sh)
  (hcm:Z4 P t m=some m') (hck:Z4 P kt k=some k') (hcv:Z4 P et v=some v') (hm:opnd G s.sl m'=some (.map g)) (hka:opnd G s.sl k'=some ka) (hva:opnd G s.sl v'=some va) (hg:s.hp[g]? = some (.map es)) (hfit:Ur sh ka=true) (hvf:va.flat1=true)
  (hf:∃ r,find sh ka es=some r) (hu:update sh ka va es=some es'):KJ P E { s with hp:=s.hp.set g (.map es'),ef := s.note g 0 } .undef a w o:=by
 obtain ⟨r,hf⟩:=hf
 have k1:=(Zh hG hI hcm hm).1
 have hkc:=IB (Zh hG hI hck hka).1 (IM hfit)
 have hvc:=(Zh hG hI hcv hva).1.conc1 hvf
 generalize hq:a.eval m=q at k1
 cases k1 with
 | map _ b hb =>
  obtain ⟨b',ms,clk,h1,h2,h3,h4⟩:=hI.rw.objs g _ hg
  obtain rfl:=hI.rw.inj b b' g hb h1
  obtain ⟨q,e1,e2⟩:=II hk w (Po h3 h4) hf
  have hlt:=lt_of_some h2
  have step:∀ (ms':Array MapEntry) (clk':Nat),(ms'.size=es'.length∧∀ (i:Nat) (e:AV×AV),es'[i]? = some e→∃ m,ms'[i]? = some m∧e.1.flat=true∧e.2.flat1=true∧m.key=e.1.conc∧m.val=e.2.conc1) →
    Inv E { s with hp:=s.hp.set g (.map es'),ef := s.note g 0 } Γ a { w with heap:=w.heap.setIfInBounds b (.map ms' clk') }:=fun ms' clk' hrel=>by
   have same:∀ b',b'≠b→({ w with heap:=w.heap.setIfInBounds b (.map ms' clk') }:World).heap[b']? = w.heap[b']?:=fun b' hne=>by simp [Ne.symm hne]
   refine hI.update hb ⟨rfl,rfl,rfl,by simp,fun b' _ hne=>⟨rfl,same b' hne⟩,fun b' q y k1 k2=>⟨k1,?_⟩,.refl _⟩ (Jb s g 0) (by simp) ⟨b,ms',clk',hb,by simp [hlt],hrel.1,hrel.2⟩
   have:b'≠b:=by
    rintro rfl
    unfold Jf at k1
    rw [hb] at k1
    exact k1
   exact (WZ (same b' this)).trans k2
  have hexec:∀ w',(Instr.mapUpdate t (.map (some b)) ka.conc va.conc1).run P w=.ok () w'→(execOp a.eval o).run P w=.ok .skip w':=fun w' hr=>by
   simp only [execOp,ho,hq,hkc,hvc]
   rw [Sem.run_bind,hr]; rfl
  have hchk:=Ru hk hfit false w
  cases r with
  | none =>
   obtain ⟨rfl,hup⟩:=e2.no rfl
   have:=(hup va).symm.trans hu
   obtain rfl:=Option.some.inj this
   refine ⟨Γ,Go.undef,_,.inr ⟨hexec { w with heap:=w.heap.setIfInBounds b (.map (ms.push { key := ka.conc,val := va.conc1,born := clk }) (clk + 1)) } ?_,rfl⟩,step _ _ ⟨by simp [h3],fun i e he=>?_⟩,.undef,.of_ne (by simp)⟩
   ·simp only [Instr.mapUpdate,Sem.run_bind,run_underlying ht,Result.andThen_ok,MapKept.run_getObj_map h2,hchk,e1,MapKept.run_setObj_map _ h2]
   ·rw [List.getElem?_append] at he
    split at he
    ·rename_i hi
     obtain ⟨m,a1,a2⟩:=h4 i e he
     exact ⟨m,by rw [Array.getElem?_push,if_neg (by omega)]; exact a1,a2⟩
    ·rename_i hi
     have hi':i=es.length:=by
      rcases Nat.lt_or_ge (i - es.length) 1 with h' | h'
      ·omega
      ·rw [List.getElem?_eq_none (by simpa using h')] at he; cases he
     subst hi'
     simp only [Nat.sub_self,List.getElem?_cons_zero,Option.some.injEq] at he
     subst he
     exact ⟨_,by rw [Array.getElem?_push,if_pos h3.symm],IM hfit,hvf,rfl,rfl⟩
  | some u =>
   obtain ⟨i,k2,rfl,_,hei,hkk,hup⟩:=e2.yes u rfl
   have:=(hup va).symm.trans hu
   obtain rfl:=Option.some.inj this
   obtain ⟨mi,a1,a2,a3,a4,a5⟩:=h4 i _ hei
   have hkeep:(Instr.keyThatStays (((ms[0 + i]?).map (·.key)).getD ka.conc) ka.conc).run P w=.ok ka.conc w:=by
    rw [Nat.zero_add,a1]
    simp only [Option.map_some,Option.getD_some,a4]
    unfold Instr.keyThatStays
    rw [← hkk,if_pos (ZaD hfit)]
    rfl
   refine ⟨Γ,Go.undef,_,.inr ⟨hexec { w with heap:=w.heap.setIfInBounds b (.map (ms.modify (0 + i) fun e=>{ e with key:=ka.conc,val := va.conc1 }) clk) } ?_,rfl⟩,step _ _ ⟨by simp [h3],fun j e he=>?_⟩,.undef,.of_ne (by simp)⟩
   ·simp only [Instr.mapUpdate,Sem.run_bind,run_underlying ht,Result.andThen_ok,MapKept.run_getObj_map h2,hchk,e1,hkeep,MapKept.run_setObj_map _ h2]
   ·rw [Nat.zero_add,Array.getElem?_modify]
    rw [List.getElem?_set] at he
    split at he
    ·rename_i hij
     subst hij
     split at he
     ·obtain rfl:=Option.some.inj he
      refine ⟨{ mi with key:=ka.conc,val := va.conc1 },by rw [if_pos rfl,a1]; rfl,a2,hvf,hkk,rfl⟩
     ·cases he
    ·rename_i hij
     obtain ⟨m,b1,b2⟩:=h4 j e he
     exact ⟨m,by rw [if_neg hij]; exact b1,b2⟩
end
end Go.Proofs.YtleomfgijkapfaaGreatDoor.Abs
end
section
namespace Go.Proofs.YtleomfgijkapfaaGreatDoor.Abs
open Go Go.RowKit
theorem Eb {sh:KSh}{k v:AV}:∀ {es es':List (AV×AV)},update sh k v es=some es'→∃ r,find sh k es=some r
 | [],_,_=>⟨none,rfl⟩
 | (k',v') :: l,es',h=>by
  simp only [update] at h
  simp only [find]
  split at h
  ·exact ⟨_,rfl⟩
  ·obtain ⟨l',h',_⟩:=Option.map_eq_some_iff.1 h
   exact Eb h'
  ·cases h
theorem Yr {α β:Type}{x:Option α}{s s':β}{v:α}(h:x.map (·,s)=some (v,s')):x=some v∧s'=s:=by
 obtain ⟨y,h1,h2⟩:=Option.map_eq_some_iff.1 h
 cases h2
 exact ⟨h1,rfl⟩
section
variable {P:Program}{G:Nat→Option (List AV)}{call:FuncId→List AV→List Zp→Option (AV×List Zp×Eff)}{E:Entry}{s s':Za}{Γ:Zo}{a:Act}{w:World}{o:Oper}{hand:Nat→Bool}{draw:Bool}{ao:AOp}{v:AV}
theorem ZnK (hG:GOk G E.W0)(hI:Inv E s Γ a w){x:Operand}(hop:o.op=.move x)(hc:cOp P hand draw o=some ao)(h:Zb G call s ao=some (v,s')):Ua P E Γ s s' v a w o ao:=by
 simp only [cOp,hop] at hc
 split at hc
 ·rename_i t
  split at hc
  ·obtain rfl:=Option.some.inj hc
   simp only [Zb] at h
   split at h <;> first | (cases h; done) | skip
   rename_i u hu
   cases h
   exact (ZiR hI (.inl hop) hu).fit
  ·obtain rfl:=Option.some.inj hc
   replace h:=Yr h; obtain ⟨h,hss⟩:=h
   subst hss
   exact (Zld (t := 0) hG hI (.inl hop) rfl h).fit hI
 ·obtain ⟨y,hy,rfl⟩:=Option.map_eq_some_iff.1 hc
  replace h:=Yr h; obtain ⟨h,hss⟩:=h
  subst hss
  exact (Zld hG hI (.inl hop) hy h).fit hI
theorem ZiS (hG:GOk G E.W0)(hI:Inv E s Γ a w){x:Operand}(hop:o.op=.assign x)(hc:cOp P hand draw o=some ao)(h:Zb G call s ao=some (v,s')):Ua P E Γ s s' v a w o ao:=by
 simp only [cOp,hop] at hc
 split at hc
 ·rename_i t
  split at hc
  ·obtain rfl:=Option.some.inj hc
   replace h:=Yr h; obtain ⟨h,hss⟩:=h
   subst hss
   exact (Zld (t := 0) hG hI (.inr hop) rfl h).fit hI
  ·obtain rfl:=Option.some.inj hc
   simp only [Zb] at h
   split at h <;> first | (cases h; done) | skip
   rename_i u hu
   cases h
   exact (ZiR hI (.inr hop) hu).fit
 ·obtain ⟨y,hy,rfl⟩:=Option.map_eq_some_iff.1 hc
  replace h:=Yr h; obtain ⟨h,hss⟩:=h
  subst hss
  exact (Zld hG hI (.inr hop) hy h).fit hI
theorem ZnL (hG:GOk G E.W0)(hI:Inv E s Γ a w){c x y:Operand}(hop:o.op=.pick c x y)(hc:cOp P hand draw o=some ao)(h:Zb G call s ao=some (v,s')):Ua P E Γ s s' v a w o ao:=by
 simp only [cOp,hop] at hc
 split at hc <;> first | (cases hc; done) | skip
 rename_i c' x' y' h1 h2 h3
 obtain rfl:=Option.some.inj hc
 simp only [Zb] at h
 split at h <;> first | (cases h; done) | skip
 ·rename_i hb
  replace h:=Yr h; obtain ⟨h,hss⟩:=h
  subst hss
  exact (ZiP (b := true) hG hI hop h1 h2 h3 hb h).fit hI
 ·rename_i hb
  replace h:=Yr h; obtain ⟨h,hss⟩:=h
  subst hss
  exact (ZiP (b := false) hG hI hop h1 h2 h3 hb h).fit hI
theorem Zmn (hG:GOk G E.W0)(hI:Inv E s Γ a w)(hop:(∃ e,o.op=.alloc e)∨(∃ e x,o.op=.box e x))(hc:cOp P hand draw o=some ao)(h:Zb G call s ao=some (v,s')):Ua P E Γ s s' v a w o ao:=by
 rcases hop with ⟨e,hop⟩ | ⟨e,x,hop⟩
 ·simp only [cOp,hop] at hc
  split at hc <;> first | (cases hc; done) | skip
  rename_i z hz
  split at hc <;> first | (cases hc; done) | skip
  rename_i h1
  obtain rfl:=Option.some.inj hc
  simp only [Zb] at h
  cases h
  exact (Zrr hI hop hz h1).fit
 ·simp only [cOp,hop] at hc
  obtain ⟨y,hy,rfl⟩:=Option.map_eq_some_iff.1 hc
  simp only [Zb] at h
  split at h <;> first | (cases h; done) | skip
  rename_i u hu
  split at h <;> first | (cases h; done) | skip
  rename_i hl
  cases h
  exact (Zp8 hG hI hop hy hu hl.2).fit
theorem Zlg (hG:GOk G E.W0)(hI:Inv E s Γ a w){t:TypeId}{parts:Array (Nat×Operand)}(hop:o.op=.build t parts)(hc:cOp P hand draw o=some ao)(h:Zb G call s ao=some (v,s')):Ua P E Γ s s' v a w o ao:=by
 simp only [cOp,hop] at hc
 split at hc <;> first | (cases hc; done) | skip
 rename_i hs
 split at hc <;> first | (cases hc; done) | skip
 rename_i z ps hz hp
 obtain rfl:=Option.some.inj hc
 simp only [Zb] at h
 split at h <;> first | (cases h; done) | skip
 rename_i vs hv
 obtain ⟨cs,h1,h2⟩:=Option.map_eq_some_iff.1 h
 cases h2
 exact (Zla hG hI hop hs hz hp hv h1).fit
theorem ZpH (hG:GOk G E.W0)(hI:Inv E s Γ a w){t:TypeId}{len:Nat}{parts:Array (Nat×Operand)}(hop:o.op=.buildSlice t len parts)(hc:cOp P hand draw o=some ao)(h:Zb G call s ao=some (v,s')):Ua P E Γ s s' v a w o ao:=by
 simp only [cOp,hop] at hc
 split at hc <;> first | (cases hc; done) | skip
 rename_i e ht
 split at hc <;> first | (cases hc; done) | skip
 rename_i hx
 obtain ⟨h1,h2,h3,h4⟩:=hx
 obtain ⟨ps,hp,rfl⟩:=Option.map_eq_some_iff.1 hc
 by_cases hm:(hand Gq || hand (Gq + 1 + e))=true
 ·simp only [hm,if_true,Zb] at h ⊢
  split at h <;> first | (cases h; done) | skip
  rename_i vs hv
  split at h <;> first | (cases h; done) | skip
  rename_i hall
  cases h
  exact (ZiO hG hI hop ht h1 h2 h4 hp hv hall).fit
 ·simp only [if_neg hm,Zb] at h ⊢
  split at h <;> first | (cases h; done) | skip
  rename_i vs hv
  split at h
  ·rename_i hall
   cases h
   exact (ZpE hG hI hop ht h1 h2 h3 h4 hp hv hall).fit
  ·split at h <;> first | (cases h; done) | skip
   rename_i hall
   cases h
   exact (ZiO hG hI hop ht h1 h2 h4 hp hv hall).fit
theorem ZnJ (hG:GOk G E.W0)(hI:Inv E s Γ a w){t:TypeId}{p:Operand}(hop:o.op=.load t p)(hc:cOp P hand draw o=some ao)(h:Zb G call s ao=some (v,s')):Ua P E Γ s s' v a w o ao:=by
 simp only [cOp,hop] at hc
 split at hc <;> first | (cases hc; done) | skip
 rename_i p' hp
 split at hc
 ·rename_i ht
  obtain rfl:=Option.some.inj hc
  simp only [Zb] at h
  split at h <;> first | (cases h; done) | skip
  rename_i x hx
  replace h:=Yr h; obtain ⟨h,hss⟩:=h
  subst hss
  exact (ZpB hG hI hop ht hp hx h).fit hI
 ·rename_i ht
  have ht:Vq P t=false:=by simpa using ht
  split at hc <;> first | (cases hc; done) | skip
  rename_i hu
  split at hc
  ·obtain rfl:=Option.some.inj hc
   simp only [Zb] at h
   split at h <;> first | (cases h; done) | skip
   rename_i g q hx
   split at h <;> first | (cases h; done) | skip
   rename_i cs t' hg
   split at h <;> first | (cases h; done) | skip
   rename_i u hv
   cases h
   exact (ZpD hG hI hop ht hu hp hx hg hv).fit
  ·obtain rfl:=Option.some.inj hc
   simp only [Zb] at h
   split at h <;> first | (cases h; done) | skip
   rename_i x hx
   replace h:=Yr h; obtain ⟨h,hss⟩:=h
   subst hss
   exact (ZpC hG hI hop ht hu hp hx h).fit hI
theorem Zli (hG:GOk G E.W0)(hI:Inv E s Γ a w){t:TypeId}{p x:Operand}(hop:o.op=.store t p x)(hc:cOp P hand draw o=some ao)(h:Zb G call s ao=some (v,s')):Ua P E Γ s s' v a w o ao:=by
 simp only [cOp,hop] at hc
 split at hc
 ·cases hc
 rename_i hti
 have hi:∃ i,P.info? t=some i:=by
  cases hq:P.info? t with
  | none=>rw [hq] at hti; exact absurd rfl hti
  | some i=>exact ⟨i,rfl⟩
 obtain ⟨i,hi⟩:=hi
 split at hc <;> first | (cases hc; done) | skip
 rename_i p' hp
 have st:∀ {y},Z4 P t x=some y→Zb G call s (.st (P.cellsOf t) p' y)=some (v,s')→Ua P E Γ s s' v a w o (.st (P.cellsOf t) p' y):=by
  intro y hy h
  simp only [Zb] at h
  split at h <;> first | (cases h; done) | skip
  rename_i g q u hpp hx
  split at h <;> first | (cases h; done) | skip
  rename_i cs t' hg
  split at h <;> first | (cases h; done) | skip
  rename_i hn
  cases h
  exact (Zrs hG hI hi hop hp hy hpp hx hg hn).fit
 split at hc
 ·rename_i hag
  simp only [Bool.and_eq_true,Bool.not_eq_true',beq_iff_eq] at hag
  split at hc
  ·rename_i sl hsl
   have hx:x=.tmp sl:=by
    cases x <;> simp only [ZkE] at hsl <;> first | (cases hsl; done) | (cases hsl; rfl)
   subst hx
   obtain rfl:=Option.some.inj hc
   simp only [Zb] at h
   split at h <;> first | (cases h; done) | skip
   rename_i g q u hpp hx
   split at h <;> first | (cases h; done) | skip
   rename_i cs t' hg
   split at h <;> first | (cases h; done) | skip
   rename_i hn
   cases h
   exact (ZpF hG hI hi hag.2 hop hp hpp hx hg hn).fit
  ·obtain ⟨y,hy,rfl⟩:=Option.map_eq_some_iff.1 hc
   exact st hy h
 ·obtain ⟨y,hy,rfl⟩:=Option.map_eq_some_iff.1 hc
  exact st hy h
theorem N7 (hG:GOk G E.W0)(hI:Inv E s Γ a w)(hop:(∃ x,o.op=.nilCheck x)∨(∃ op t x y t',o.op=.binOp op t x y t')∨(∃ op t x,o.op=.unOp op t x))(hc:cOp P hand draw o=some ao)(h:Zb G call s ao=some (v,s')):Ua P E Γ s s' v a w o ao:=by
 rcases hop with ⟨x,hop⟩ | ⟨op,t,x,y,t',hop⟩ | ⟨op,t,x,hop⟩
 ·simp only [cOp,hop] at hc
  obtain ⟨y,hy,rfl⟩:=Option.map_eq_some_iff.1 hc
  simp only [Zb] at h
  split at h <;> first | (cases h; done) | skip
  ·rename_i hx; cases h; exact (Nz hG hI hop hy hx (.inl ⟨_,rfl⟩)).fit hI
  ·rename_i hx; cases h; exact (Nz hG hI hop hy hx (.inr (.inl ⟨_,_,rfl⟩))).fit hI
  ·rename_i hx; cases h; exact (Nz hG hI hop hy hx (.inr (.inr ⟨_,_,_,rfl⟩))).fit hI
 ·simp only [cOp,hop] at hc
  split at hc <;> first | (cases hc; done) | skip
  rename_i sh x' y' h1 h2 h3
  obtain rfl:=Option.some.inj hc
  simp only [Zb] at h
  split at h <;> first | (cases h; done) | skip
  rename_i u u' hx hy
  replace h:=Yr h; obtain ⟨h,hss⟩:=h
  subst hss
  exact (Zp7 hG hI hop h1 h2 h3 hx hy h).fit hI
 ·simp only [cOp,hop] at hc
  obtain ⟨y,hy,rfl⟩:=Option.map_eq_some_iff.1 hc
  simp only [Zb] at h
  split at h <;> first | (cases h; done) | skip
  rename_i u hx
  replace h:=Yr h; obtain ⟨h,hss⟩:=h
  subst hss
  exact (Zrt hG hI hop hy hx h).fit hI
theorem ZgH (hG:GOk G E.W0)(hI:Inv E s Γ a w){src dst:TypeId}{x:Operand}(hop:o.op=.convert src dst x)(hc:cOp P hand draw o=some ao)(h:Zb G call s ao=some (v,s')):Ua P E Γ s s' v a w o ao:=by
 simp only [cOp,hop] at hc
 split at hc <;> first | (cases hc; done) | skip
 ·rename_i x' k k' hx' hs hd
  obtain rfl:=Option.some.inj hc
  simp only [Zb] at h
  split at h <;> first | (cases h; done) | skip
  rename_i u hu
  replace h:=Yr h; obtain ⟨h,hss⟩:=h
  subst hss
  cases u <;> simp only [Jo] at h <;> first | (cases h; done) | skip
  obtain rfl:=Option.some.inj h
  exact (ZdB hG hI hop hs hd hx' hu).fit
 ·rename_i x' hx' hs hd
  obtain rfl:=Option.some.inj hc
  simp only [Zb] at h
  split at h <;> first | (cases h; done) | skip
  rename_i u hu
  replace h:=Yr h; obtain ⟨h,hss⟩:=h
  subst hss
  cases u <;> simp only [Jo] at h <;> first | (cases h; done) | skip
  obtain rfl:=Option.some.inj h
  exact (ZdC hG hI hop hs hd hx' hu).fit
 ·rename_i x' e hx' hs hd
  split at hc <;> first | (cases hc; done) | skip
  rename_i he
  obtain rfl:=Option.some.inj hc
  simp only [Zb] at h
  split at h <;> first | (cases h; done) | skip
  rename_i u hu
  replace h:=Yr h; obtain ⟨h,hss⟩:=h
  subst hss
  cases u <;> simp only [Jo] at h <;> first | (cases h; done) | skip
  obtain rfl:=Option.some.inj h
  exact (Zan hG hI hop hs hd he hx' hu).fit
 ·rename_i x' e hx' hs hd
  split at hc <;> first | (cases hc; done) | skip
  rename_i he
  obtain rfl:=Option.some.inj hc
  simp only [Zb] at h
  split at h <;> first | (cases h; done) | skip
  rename_i u hu
  replace h:=Yr h; obtain ⟨h,hss⟩:=h
  subst hss
  simp only [Jo] at h
  split at h <;> first | (cases h; done) | skip
  rename_i r hr
  obtain ⟨l,hl,rfl⟩:=Option.map_eq_some_iff.1 h
  exact (Ny hG hI hop hs hd he hx' hu hr hl).fit
theorem ZdF (hG:GOk G E.W0)(hI:Inv E s Γ a w)(hop:(∃ fn x y,o.op=.makeFunc fn x y)∨(∃ t r,o.op=.makeMap t r)∨(∃ t l c,o.op=.makeSlice t l c))(hc:cOp P hand draw o=some ao)(h:Zb G call s ao=some (v,s')):Ua P E Γ s s' v a w o ao:=by
 rcases hop with ⟨fn,x,y,hop⟩ | ⟨t,r,hop⟩ | ⟨t,l,c,hop⟩
 ·cases fn with
  | func f =>
   simp only [cOp,hop] at hc
   split at hc <;> first | (cases hc; done) | skip
   rename_i us vs h1 h2
   obtain rfl:=Option.some.inj hc
   simp only [Zb] at h
   split at h <;> first | (cases h; done) | skip
   rename_i u1 u2 h3 h4
   cases h
   exact (ZnD hG hI hop h1 h2 h3 h4).fit
  | _=>simp only [cOp,hop] at hc; cases hc
 ·cases r with
  | none =>
   simp only [cOp,hop] at hc
   obtain rfl:=Option.some.inj hc
   simp only [Zb] at h
   cases h
   exact (Zlc hI hop).fit
  | some r=>simp only [cOp,hop] at hc; cases hc
 ·have fin:∀ {e:TypeId} {z:AV} {i:TypeInfo} {n:ZR},P.underlying t=some (.slice e)→zeroOf P e=some z→P.info? e=some i→(z.cells.all AV.one=true∧z.cells.length=i.size∧i.bytes≤16384∧0 < i.size) →
    (∀ kd m,opnd G s.sl n=some (.int kd m)→a.eval l=.int kd m∧a.eval c=.int kd m)→Zb G call s (.mksl e z.cells n)=some (v,s')→Ua P E Γ s s' v a w o (.mksl e z.cells n):=by
   intro e z i n ht hz hi hx hev h
   simp only [Zb] at h
   split at h <;> first | (cases h; done) | skip
   rename_i kd m hm
   split at h <;> first | (cases h; done) | skip
   rename_i hb
   cases h
   exact (ZnE hI ⟨l,c,hop,(hev kd m hm).1,(hev kd m hm).2⟩ ht hi hz hx.1 hx.2.1 hx.2.2.2 hx.2.2.1 hb.1 hb.2).fit
  have slot:∀ {q:Nat} {kd:IntKind} {m:Int},opnd G s.sl (.tmp q)=some (.int kd m)→a.eval (.tmp q)=.int kd m:=fun {q kd m} hm=>by
   have:=(Zh (P := P) (t := 0) (x := .tmp q) (y := .tmp q) hG hI rfl hm).1
   generalize a.eval (.tmp q)=u at this
   cases this; rfl
  cases l <;> cases c <;> simp only [cOp,hop] at hc <;> first | (cases hc; done) | skip
  ·split at hc <;> first | (cases hc; done) | skip
   rename_i hlc
   subst hlc
   split at hc <;> first | (cases hc; done) | skip
   rename_i e ht
   split at hc <;> first | (cases hc; done) | skip
   rename_i z i hz hi
   split at hc <;> first | (cases hc; done) | skip
   rename_i hx
   obtain rfl:=Option.some.inj hc
   exact fin ht hz hi hx (fun kd m hm=>⟨slot hm,slot hm⟩) h
  ·rename_i x y
   cases x <;> cases y <;> simp only at hc <;> first | (cases hc; done) | skip
   split at hc <;> first | (cases hc; done) | skip
   rename_i hlc
   obtain ⟨rfl,rfl⟩:=hlc
   split at hc <;> first | (cases hc; done) | skip
   rename_i e ht
   split at hc <;> first | (cases hc; done) | skip
   rename_i z i hz hi
   split at hc <;> first | (cases hc; done) | skip
   rename_i hx
   obtain rfl:=Option.some.inj hc
   exact fin ht hz hi hx (fun kd m hm=>by cases hm; exact ⟨rfl,rfl⟩) h
theorem Zlh (hG:GOk G E.W0)(hI:Inv E s Γ a w){t:TypeId}{x:Operand}{lo hi mx:Option Operand}(hop:o.op=.slice t x lo hi mx)(hc:cOp P hand draw o=some ao)(h:Zb G call s ao=some (v,s')):Ua P E Γ s s' v a w o ao:=by
 cases mx with
 | some m =>
  cases lo with
  | some l=>simp only [cOp,hop] at hc; cases hc
  | none =>
   cases hi with
   | none=>simp only [cOp,hop] at hc; cases hc
   | some hi =>
    simp only [cOp,hop] at hc
    split at hc <;> first | (cases hc; done) | skip
    rename_i sh x' hi' mx' h1 h2 h3 h4
    obtain rfl:=Option.some.inj hc
    simp only [Zb] at h
    split at h <;> first | (cases h; done) | skip
    rename_i u vh vm k1 k2 k3
    replace h:=Yr h; obtain ⟨h,hss⟩:=h
    subst hss
    exact (ZiQ hG hI hop h1 h2 h3 h4 k1 k2 k3 h).fit hI
 | none =>
  simp only [cOp,hop] at hc
  split at hc <;> first | (cases hc; done) | skip
  rename_i sh x' lo' hi' h1 h2 h3 h4
  obtain rfl:=Option.some.inj hc
  simp only [Zb] at h
  split at h <;> first | (cases h; done) | skip
  rename_i u vl vh k1 k2 k3
  replace h:=Yr h; obtain ⟨h,hss⟩:=h
  subst hss
  exact (ok_slice hG hI hop h1 h2 h3 h4 k1 k2 k3 h).fit hI
theorem Zao (hG:GOk G E.W0)(hI:Inv E s Γ a w)(hop:(∃ t x f,o.op=.fieldAddr t x f)∨(∃ t x f,o.op=.field t x f)∨(∃ t x i,o.op=.indexAddr t x i)∨(∃ t x i,o.op=.index t x i))(hc:cOp P hand draw o=some ao)(h:Zb G call s ao=some (v,s')):Ua P E Γ s s' v a w o ao:=by
 rcases hop with ⟨t,x,f,hop⟩ | ⟨t,x,f,hop⟩ | ⟨t,x,i,hop⟩ | ⟨t,x,i,hop⟩
 ·simp only [cOp,hop] at hc
  split at hc <;> first | (cases hc; done) | skip
  rename_i off n agg x' h1 h2
  obtain rfl:=Option.some.inj hc
  simp only [Zb] at h
  split at h <;> first | (cases h; done) | skip
  rename_i u hx
  replace h:=Yr h; obtain ⟨h,hss⟩:=h
  subst hss
  exact (Zrp hG hI hop h1 h2 hx h).fit hI
 ·simp only [cOp,hop] at hc
  split at hc <;> first | (cases hc; done) | skip
  rename_i off n agg x' h1 h2
  obtain rfl:=Option.some.inj hc
  simp only [Zb] at h
  split at h <;> first | (cases h; done) | skip
  rename_i u hx
  replace h:=Yr h; obtain ⟨h,hss⟩:=h
  subst hss
  exact (Zp9 hG hI hop h1 h2 hx h).fit hI
 ·simp only [cOp,hop] at hc
  split at hc <;> first | (cases hc; done) | skip
  all_goals
   rename_i x' i' h1 h2 h3
   obtain rfl:=Option.some.inj hc
   simp only [Zb] at h
   split at h <;> first | (cases h; done) | skip
   rename_i u n hx hi
   replace h:=Yr h; obtain ⟨h,hss⟩:=h
   subst hss
   exact (Zrq hG hI hop h1 h2 h3 hx hi h).fit hI
 ·simp only [cOp,hop] at hc
  split at hc <;> first | (cases hc; done) | skip
  rename_i x' i' h1 h2 h3
  obtain rfl:=Option.some.inj hc
  simp only [Zb] at h
  split at h <;> first | (cases h; done) | skip
  rename_i u n hx hi
  replace h:=Yr h; obtain ⟨h,hss⟩:=h
  subst hss
  exact (ZpA hG hI hop h1 h2 h3 hx hi h).fit hI
theorem Zmm (hG:GOk G E.W0)(hI:Inv E s Γ a w)(hop:(∃ t x i ok,o.op=.lookup t x i ok)∨(∃ t m k x,o.op=.mapUpdate t m k x))(hc:cOp P hand draw o=some ao)(h:Zb G call s ao=some (v,s')):Ua P E Γ s s' v a w o ao:=by
 rcases hop with ⟨t,x,i,ok,hop⟩ | ⟨t,m,k,x,hop⟩
 ·simp only [cOp,hop] at hc
  split at hc <;> first | (cases hc; done) | skip
  rename_i kt et ht
  split at hc <;> first | (cases hc; done) | skip
  rename_i sh z x' i' h1 h2 h3 h4
  split at hc <;> first | (cases hc; done) | skip
  rename_i hz
  obtain rfl:=Option.some.inj hc
  simp only [Zb] at h
  split at h <;> first | (cases h; done) | skip
  rename_i u n hx hi
  replace h:=Yr h; obtain ⟨h,hss⟩:=h
  subst hss
  exact (ZnC hG hI hop ht h1 h2 hz h3 h4 hx hi h).fit
 ·simp only [cOp,hop] at hc
  split at hc <;> first | (cases hc; done) | skip
  rename_i kt et ht
  split at hc <;> first | (cases hc; done) | skip
  rename_i sh m' k' x' h1 h2 h3 h4
  obtain rfl:=Option.some.inj hc
  simp only [Zb] at h
  split at h <;> first | (cases h; done) | skip
  rename_i g ka va hm hk hv
  split at h <;> first | (cases h; done) | skip
  rename_i es hg
  split at h <;> first | (cases h; done) | skip
  rename_i hf
  simp only [Bool.and_eq_true] at hf
  split at h <;> first | (cases h; done) | skip
  rename_i es' hu
  cases h
  exact (ZnF hG hI hop ht h1 h2 h3 h4 hm hk hv hg hf.1 hf.2 (Eb hu) hu).fit
theorem ZdE (hG:GOk G E.W0)(hI:Inv E s Γ a w)(hop:(∃ t x,o.op=.range t x)∨(∃ x b,o.op=.next x b)∨(∃ x i,o.op=.extract x i))(hc:cOp P hand draw o=some ao)(h:Zb G call s ao=some (v,s')):Ua P E Γ s s' v a w o ao:=by
 rcases hop with ⟨t,x,hop⟩ | ⟨x,b,hop⟩ | ⟨x,i,hop⟩
 ·simp only [cOp,hop] at hc
  split at hc <;> first | (cases hc; done) | skip
  rename_i ht
  obtain ⟨x',hx',rfl⟩:=Option.map_eq_some_iff.1 hc
  simp only [Zb] at h
  split at h <;> first | (cases h; done) | skip
  rename_i l hx
  cases h
  exact (Zle hG hI hop ht hx' hx).fit
 ·cases b with
  | false=>simp only [cOp,hop] at hc; cases hc
  | true =>
   simp only [cOp,hop] at hc
   obtain ⟨x',hx',rfl⟩:=Option.map_eq_some_iff.1 hc
   simp only [Zb] at h
   split at h <;> first | (cases h; done) | skip
   rename_i g hx
   split at h <;> first | (cases h; done) | skip
   rename_i l pos hg
   split at h
   ·rename_i hlt
    cases h
    exact (ZnG hG hI hop hx' hx hg hlt).fit
   ·rename_i hlt
    cases h
    exact (ZdD hG hI hop hx' hx hg hlt).fit
 ·simp only [cOp,hop] at hc
  obtain ⟨x',hx',rfl⟩:=Option.map_eq_some_iff.1 hc
  simp only [Zb] at h
  split at h <;> first | (cases h; done) | skip
  rename_i vs hx
  obtain ⟨u,h1,h2⟩:=Option.map_eq_some_iff.1 h
  cases h2
  exact (ZgF hG hI hop hx' hx h1).fit hI
end
end Go.Proofs.YtleomfgijkapfaaGreatDoor.Abs
end
section
namespace Go.Proofs.YtleomfgijkapfaaGreatDoor.Abs
open Go Go.RowKit
def ZjJ (P:Program)(f:FuncId)(xs:Array Value)(w:World)(R:Value→World→Prop):Prop :=
 (callFunc f xs).run P w=.ok (.enter f xs) w∧Calls P f xs w fun e w''=>∃ v,e=.returned v∧R v w''
theorem ZjJ.mono {P:Program}{f:FuncId}{xs:Array Value}{w:World}{R R':Value→World→Prop}(h:ZjJ P f xs w R)(hr:∀ v w',R v w'→R' v w'):ZjJ P f xs w R' :=
 ⟨h.1,h.2.mono fun _ w'' ⟨v,hv,h⟩=>⟨v,hv,hr v w'' h⟩⟩
structure Tidy (Γ:Zo)(n:Nat):Prop where
 res:∀ b m,Γ b≠.list m .res
 arg:∀ b m j,Γ b≠.list m (.arg j)
 cell:∀ b m g i,Γ b=.list m (.cell g i)→g < n
def Z5 (P:Program)(W0:World)(F:FuncId→List AV→List Zp→Option (AV×List Zp×Eff)):Prop :=
 ∀ f args hp v hp' e,F f args hp=some (v,hp',e)→∀ (Γ:Zo) (w:World) (xs:Array Value),RW W0 Γ w hp→Tidy Γ hp.length→xs.size=args.length →
  (∀ j x,args[j]? = some x→Rep Γ w x (xs.getD j Go.undef)∧OwnAt Γ w (.slot j) x (xs.getD j Go.undef)) →
  ZjJ P f xs w fun cv w'=>∃ Γ',RW W0 Γ' w' hp'∧Rep Γ' w' v cv∧OwnAt Γ' w' .res v cv∧Frame Γ w Γ' w' e∧hp.length≤hp'.length∧∀ b g,Γ' b=.own g→g < hp.length→Γ b=.own g
theorem WO.own {o g:Nat}:¬ WO o (.own g):=fun h=>h
theorem RW.alike {W0 w:World}{Γ Γ':Zo}{hp:List Zp}(h:RW W0 Γ w hp)(hf:ZO Γ w Γ' w)(ho:∀ b g,Γ b=.own g↔Γ' b=.own g)
  (hc:∀ b n g i,g < hp.length→Γ b=.list n (.cell g i)→Γ' b=.list n (.cell g i)) (hi:∀ b,Γ b=.imm→Γ' b=.imm):RW W0 Γ' w hp:=by
 have hom:Yh Γ Γ':=fun b g hb=>(ho b g).1 hb
 refine ⟨fun g o hg=>?_,fun b b' g h1 h2=>h.inj b b' g ((ho b g).2 h1) ((ho b' g).2 h2),fun b hb=>hi b (h.fresh b hb),fun b g hb=>h.lt b g ((ho b g).2 hb),h.old,fun b hb=>hi b (h.oldImm b hb),fun g hg b hb=>h.dead g hg b ((ho b g).2 hb)⟩
 have hlt:=Ze hg
 have:=h.objs g o hg
 cases o with
 | dead=>trivial
 | cells cs t =>
  obtain ⟨b,C,h1,h2,h3,h4⟩:=this
  refine ⟨b,C,hom b g h1,h2,h3,fun i c hc'=>?_⟩
  obtain ⟨a1,a2,a3⟩:=h4 i c hc'
  exact ⟨a1,a2.mono hf hom,a3.mono hf hom fun b n hb=>⟨hc b n g i hlt hb,rfl⟩⟩
 | map es =>
  obtain ⟨b,ms,clk,h1,h2,h3,h4⟩:=this
  exact ⟨b,ms,clk,hom b g h1,h2,h3,h4⟩
 | iter s pos =>
  obtain ⟨b,h1,h2⟩:=this
  exact ⟨b,hom b g h1,h2⟩
 | buf _ _ _ =>
  obtain ⟨b,C,h1,h2,h3⟩:=this
  exact ⟨b,C,hom b g h1,h2,h3.mono fun b n i hb=>⟨hc b n g i hlt hb,rfl⟩⟩
def Q5 (n:Nat):Kind→Kind
 | .list m (.slot _)=>.list m .outer
 | .list m .res=>.list m .outer
 | .list m (.arg j)=>.list m (.slot j)
 | .list m (.cell g i)=>if g < n then .list m (.cell g i) else .imm
 | k=>k
def BC:Kind→Kind→Kind
 | .list m (.slot t),_=>.list m (.slot t)
 | _,.list _ (.slot _)=>.imm
 | _,.list _ (.arg _)=>.imm
 | _,k=>k
theorem Sj {n o:Nat}{k:Kind}(h:WO o k):WO o (Q5 n k):=by
 cases k with
 | imm=>trivial
 | own g=>exact h.elim
 | list m l =>
  cases l <;> simp only [Q5] <;> first | exact h | skip
  split
  ·exact h
  ·trivial
theorem TM {n g:Nat}{k:Kind}:k=.own g↔Q5 n k=.own g:=by
 cases k with
 | imm=>simp [Q5]
 | own g=>simp [Q5]
 | list m l =>
  cases l <;> simp only [Q5] <;> try simp
  split <;> simp
theorem Zj0 {n:Nat}{k:Kind}(h:k=.imm):Q5 n k=.imm:=by subst h; rfl
theorem Zj1 (Γ:Zo)(n:Nat):Tidy (fun b=>Q5 n (Γ b)) n:=by
 refine ⟨fun b m h=>?_,fun b m j h=>?_,fun b m g i h=>?_⟩ <;> revert h <;> cases Γ b with
 | imm=>simp [Q5]
 | own g=>simp [Q5]
 | list m l =>
  cases l <;> simp only [Q5] <;> try simp
  try (split <;> simp <;> try omega)
theorem RW.seen {W0 w:World}{Γ:Zo}{hp:List Zp}(h:RW W0 Γ w hp):RW W0 (fun b=>Q5 hp.length (Γ b)) w hp :=
 h.alike (fun _ _ _ h1 h2=>⟨Sj h1,h2⟩) (fun _ _=>TM) (fun b n g i hl hb=>by simp [hb,Q5,hl]) (fun _=>Zj0)
end Go.Proofs.YtleomfgijkapfaaGreatDoor.Abs
end
section
namespace Go.Proofs.YtleomfgijkapfaaGreatDoor.Abs
open Go Go.RowKit
section
variable {P:Program}{G:Nat→Option (List AV)}{E:Entry}{s:Za}{Γ:Zo}{a:Act}{w:World}
theorem Inv.hand (h:Inv E s Γ a w)(m:Loc)(t:Nat){v:AV}(hv:s.sl[t]? = some v) :
  ∃ Γ',Inv E (s.let_ t) Γ' a w∧Rep Γ' w v (a.tmps.getD t Go.undef)∧OwnAt Γ' w m v (a.tmps.getD t Go.undef)∧ZO Γ w Γ' w∧Yh Γ Γ'∧∀ b n j,Γ b=.list n (.arg j)→Γ' b=.list n (.arg j):=by
 have f1:=Qd (Γ := Γ) (w := w) (l := .slot t) (Y9 (l := m))
 have o1:Yh Γ (relab Γ (.slot t) (Ug m)):=YD
 refine ⟨relab Γ (.slot t) (Ug m),⟨h.defers,⟨by simpa [Za.let_] using h.slots.size,fun u x hx=>?_,fun u x hx=>?_⟩,h.rw.relab Y9 Yu (by simp),h.fr.relab (l := .slot t) Y9 trivial,h.base,h.base2,h.le,fun b g hb=>h.back b g (ZN Yu hb)⟩,?_,?_,f1,o1,fun b n j hb=>Wn hb (by simp)⟩
 ·simp only [Za.let_,List.getElem?_modify] at hx
  obtain ⟨y,hy,e⟩:=Option.map_eq_some_iff.1 hx
  have:=(h.slots.rep u y hy).mono f1 o1
  split at e
  ·subst e; exact this.ro
  ·subst e; exact this
 ·simp only [Za.let_,List.getElem?_modify] at hx
  obtain ⟨y,hy,e⟩:=Option.map_eq_some_iff.1 hx
  split at e
  ·subst e; exact .of_ro _ _ _ _ _
  ·rename_i ne
   subst e
   exact (h.slots.own u y hy).mono f1 o1 fun b n hb=>⟨Wn hb (by simp; omega),rfl⟩
 ·exact (h.slots.rep t v hv).mono f1 o1
 ·exact (h.slots.own t v hv).mono f1 o1 fun b n hb=>⟨He hb,rfl⟩
theorem ZmA (hG:GOk G E.W0):∀ {args:List (Nat ⊕ ZR)} {ts:List TypeId} {xs:List Operand} {hand:Nat→Bool} {vs sl:List AV} (k:Nat) {s:Za} {Γ:Zo},Inv E s Γ a w→OJ P hand ts xs=some args→Wl G s.sl args=some (vs,sl) →
  ∃ Γ',Inv E { s with sl:=sl } Γ' a w∧ZO Γ w Γ' w∧Yh Γ Γ'∧(∀ b n j,j < k→Γ b=.list n (.arg j)→Γ' b=.list n (.arg j))∧vs.length=xs.length ∧
   ∀ j v,vs[j]? = some v→∃ x,xs[j]? = some x∧Rep Γ' w v (a.eval x)∧OwnAt Γ' w (.arg (k + j)) v (a.eval x):=by
 intro args
 induction args with
 | nil =>
  intro ts xs hand vs sl k s Γ hI hc h
  simp only [Wl,Option.some.injEq,Prod.mk.injEq] at h
  obtain ⟨rfl,rfl⟩:=h
  have:xs=[]:=by
   cases xs with
   | nil=>rfl
   | cons x xs =>
    cases ts with
    | nil=>simp [OJ] at hc
    | cons t ts =>
     simp only [OJ] at hc
     split at hc <;> simp at hc
  subst this
  exact ⟨Γ,hI,.refl _ _,.refl _,fun _ _ _ _ h=>h,rfl,fun j v hv=>by simp at hv⟩
 | cons p args ih =>
  intro ts xs hand vs sl k s Γ hI hc h
  cases xs with
  | nil=>cases ts <;> simp [OJ] at hc
  | cons x xs =>
   cases ts with
   | nil=>simp [OJ] at hc
   | cons t ts =>
    simp only [OJ] at hc
    split at hc
    case h_2=>cases hc
    rename_i y l hy hl
    obtain ⟨rfl,rfl⟩:=List.cons.inj (Option.some.inj hc)
    have step:∀ (v:AV) (s1:Za) (Γ1:Zo) (vs1:List AV),Inv E s1 Γ1 a w→s1.hp=s.hp→s1.ef=s.ef→s1.bs=s.bs→ZO Γ w Γ1 w→Yh Γ Γ1→(∀ b n j,j < k→Γ b=.list n (.arg j)→Γ1 b=.list n (.arg j)) →
      Rep Γ1 w v (a.eval x)→OwnAt Γ1 w (.arg k) v (a.eval x)→Wl G s1.sl l=some (vs1,sl)→vs=v :: vs1 →
      ∃ Γ',Inv E { s with sl:=sl } Γ' a w∧ZO Γ w Γ' w∧Yh Γ Γ'∧(∀ b n j,j < k→Γ b=.list n (.arg j)→Γ' b=.list n (.arg j))∧vs.length=(x :: xs).length ∧
       ∀ j v,vs[j]? = some v→∃ x',(x :: xs)[j]? = some x'∧Rep Γ' w v (a.eval x')∧OwnAt Γ' w (.arg (k + j)) v (a.eval x'):=by
     intro v s1 Γ1 vs1 i1 e1 e2 e3 f1 o1 k1 r1 w1 h1 hvs
     obtain ⟨Γ2,i2,f2,o2,k2,hlen,hall⟩:=ih (k + 1) i1 hl h1
     subst hvs
     refine ⟨Γ2,by rw [← e1,← e2,← e3]; exact i2,f1.trans f2,o1.trans o2,fun b n j hj hb=>k2 b n j (by omega) (k1 b n j hj hb),by simp [hlen],fun j u hu=>?_⟩
     cases j with
     | zero =>
      obtain rfl:=Option.some.inj hu
      exact ⟨x,rfl,r1.mono f2 o2,w1.mono f2 o2 fun b n hb=>⟨k2 b n k (by omega) hb,rfl⟩⟩
     | succ j =>
      obtain ⟨x',hx',hr,ho⟩:=hall j u (by simpa using hu)
      exact ⟨x',by simpa using hx',hr,by rw [show k + (j + 1)=k + 1 + j by omega]; exact ho⟩
    have plain:∀ (q:ZR),Z4 P t x=some q∨(∃ i,x=.tmp i∧q=.tmp i)→y=.inr q →
      ∃ Γ',Inv E { s with sl:=sl } Γ' a w∧ZO Γ w Γ' w∧Yh Γ Γ'∧(∀ b n j,j < k→Γ b=.list n (.arg j)→Γ' b=.list n (.arg j))∧vs.length=(x :: xs).length ∧
       ∀ j v,vs[j]? = some v→∃ x',(x :: xs)[j]? = some x'∧Rep Γ' w v (a.eval x')∧OwnAt Γ' w (.arg (k + j)) v (a.eval x'):=by
     intro q hq hp
     subst hp
     have hq:Z4 P t x=some q:=by
      rcases hq with h | ⟨i,rfl,rfl⟩
      ·exact h
      ·rfl
     simp only [Wl] at h
     split at h
     case h_2=>cases h
     rename_i v hv
     obtain ⟨p1,h1,h2⟩:=Option.map_eq_some_iff.1 h
     obtain ⟨rfl,rfl⟩:=Prod.mk.inj h2
     exact step v s Γ p1.1 hI rfl rfl rfl (.refl _ _) (.refl _) (fun _ _ _ _ h=>h) (Zh hG hI hq hv).1 (ZhF hG hI _ hq hv) h1 rfl
    split at hy
    ·rename_i i
     split at hy
     ·obtain rfl:=Option.some.inj hy
      simp only [Wl] at h
      split at h
      case h_2=>cases h
      rename_i v hv
      obtain ⟨p1,h1,h2⟩:=Option.map_eq_some_iff.1 h
      obtain ⟨rfl,rfl⟩:=Prod.mk.inj h2
      obtain ⟨Γ1,i1,r1,w1,f1,o1,k1⟩:=hI.hand (.arg k) i hv
      exact step v (s.let_ i) Γ1 p1.1 i1 rfl rfl rfl f1 o1 (fun b n j _ hb=>k1 b n j hb) r1 w1 h1 rfl
     ·exact plain _ (.inr ⟨i,rfl,rfl⟩) (Option.some.inj hy).symm
    ·obtain ⟨q,hq,rfl⟩:=Option.map_eq_some_iff.1 hy
     exact plain q (.inl hq) rfl
theorem Bc {s:Za}{e:Eff}{g:Nat}(hg:g < s.bs)(h:Kv (s.after e) g):Kv s.ef g∧Kv e g:=by
 cases e with
 | none=>exact ⟨h,fun _ _ e=>by cases e⟩
 | some p =>
  obtain ⟨x,y⟩:=p
  simp only [Za.after] at h
  split at h
  ·obtain ⟨h1,h2⟩:=Zc9 h
   exact ⟨h1,fun _ _ e=>by cases e; exact h2⟩
  ·exact ⟨h,fun _ _ e=>by cases e; omega⟩
theorem Inv.called (hI:Inv E s Γ a w){Γ':Zo}{w':World}{hp:List Zp}{e:Eff}{v:AV}{cv:Value}(hr:RW E.W0 Γ' w' hp)(hv:Rep Γ' w' v cv)(ho:OwnAt Γ' w' .res v cv)
  (hf:Frame (fun b=>Q5 s.hp.length (Γ b)) w Γ' w' e) (hle:s.hp.length≤hp.length∧∀ b g,Γ' b=.own g→g < s.hp.length→Q5 s.hp.length (Γ b)=.own g) :
  ∃ Γ'',Inv E { sl := s.sl,hp := hp,ef := s.after e,bs := s.bs } Γ'' a w'∧Rep Γ'' w' v cv∧OwnAt Γ'' w' .res v cv:=by
 have lt:∀ b,Γ b≠.imm→b < w.heap.size:=fun b hb=>by
  rcases Nat.lt_or_ge b w.heap.size with h' | h'
  ·exact h'
  ·exact absurd (hI.rw.fresh b h') hb
 have slot:∀ b m t,Γ b=.list m (.slot t)→Γ' b=.list m .outer∧w'.heap[b]? = w.heap[b]?:=fun b m t hb=>by
  obtain ⟨e1,e2⟩:=hf.keep b (lt b (by rw [hb]; simp)) (by simp only [hb,Q5,Kept])
  exact ⟨by rw [e1]; simp [hb,Q5],e2⟩
 have back:∀ b,(∃ m t,Γ b=.list m (.slot t)∧Γ' b=.list m .outer∧BC (Γ b) (Γ' b)=.list m (.slot t))∨((∀ m t,Γ b≠.list m (.slot t))∧∀ k,(∀ m t,k≠.list m (.slot t))→(∀ m t,k≠.list m (.arg t))→Γ' b=k→BC (Γ b) (Γ' b)=k):=by
  intro b
  cases hb:Γ b with
  | imm=>refine .inr ⟨by simp,fun k h1 h2 h3=>?_⟩; subst h3; cases hg:Γ' b with
   | list m l=>rw [hg] at h1 h2; cases l <;> first | rfl | exact absurd rfl (h1 _ _) | exact absurd rfl (h2 _ _)
   | _=>rfl
  | own g=>refine .inr ⟨by simp,fun k h1 h2 h3=>?_⟩; subst h3; cases hg:Γ' b with
   | list m l=>rw [hg] at h1 h2; cases l <;> first | rfl | exact absurd rfl (h1 _ _) | exact absurd rfl (h2 _ _)
   | _=>rfl
  | list n q =>
   cases q with
   | slot t=>exact .inl ⟨n,t,rfl,(slot b n t hb).1,rfl⟩
   | _ =>
    refine .inr ⟨by simp,fun k h1 h2 h3=>?_⟩; subst h3; cases hg:Γ' b with
    | list m l=>rw [hg] at h1 h2; cases l <;> first | rfl | exact absurd rfl (h1 _ _) | exact absurd rfl (h2 _ _)
    | _=>rfl
 have imm':∀ b,(∀ m t,Γ b≠.list m (.slot t))→(∃ m t,Γ' b=.list m (.slot t))∨(∃ m t,Γ' b=.list m (.arg t))→BC (Γ b) (Γ' b)=.imm:=by
  intro b h h2
  cases hb:Γ b with
  | imm=>rcases h2 with ⟨m,t,e⟩ | ⟨m,t,e⟩ <;> rw [e] <;> rfl
  | own g=>rcases h2 with ⟨m,t,e⟩ | ⟨m,t,e⟩ <;> rw [e] <;> rfl
  | list n q=>cases q with
   | slot t=>exact absurd hb (h n t)
   | _=>rcases h2 with ⟨m,t,e⟩ | ⟨m,t,e⟩ <;> rw [e] <;> rfl
 have f3:ZO Γ' w' (fun b=>BC (Γ b) (Γ' b)) w':=by
  intro b o v h1 h2
  refine ⟨?_,h2⟩
  unfold Jf at h1 ⊢
  rcases back b with ⟨m,t,e1,e2,e3⟩ | ⟨h,h'⟩
  ·show WO o (BC (Γ b) (Γ' b))
   rw [e3]
   rw [e2] at h1
   exact h1
  ·show WO o (BC (Γ b) (Γ' b))
   by_cases hs:(∃ m t,Γ' b=.list m (.slot t))∨(∃ m t,Γ' b=.list m (.arg t))
   ·rw [imm' b h hs]; trivial
   ·rw [h' (Γ' b) (fun m t e=>hs (.inl ⟨m,t,e⟩)) (fun m t e=>hs (.inr ⟨m,t,e⟩)) rfl]; exact h1
 have own':∀ b g,Γ' b=.own g↔BC (Γ b) (Γ' b)=.own g:=by
  intro b g
  rcases back b with ⟨m,t,e1,e2,e3⟩ | ⟨h,h'⟩
  ·rw [e3,e2]; simp
  ·by_cases hs:(∃ m t,Γ' b=.list m (.slot t))∨(∃ m t,Γ' b=.list m (.arg t))
   ·rw [imm' b h hs]
    rcases hs with ⟨m,t,e⟩ | ⟨m,t,e⟩ <;> rw [e] <;> simp
   ·rw [h' (Γ' b) (fun m t e=>hs (.inl ⟨m,t,e⟩)) (fun m t e=>hs (.inr ⟨m,t,e⟩)) rfl]
 have keepL:∀ b k,(∀ m,k≠.list m .outer)→(∀ m t,k≠.list m (.slot t))→(∀ m t,k≠.list m (.arg t))→Γ' b=k→BC (Γ b) (Γ' b)=k:=by
  intro b k h0 h1 h2 hb
  rcases back b with ⟨m,t,e1,e2,e3⟩ | ⟨h,h'⟩
  ·rw [e2] at hb; exact absurd hb.symm (h0 m)
  ·exact h' k h1 h2 hb
 have o3:Yh Γ' (fun b=>BC (Γ b) (Γ' b)):=fun b g hb=>(own' b g).1 hb
 have f1:ZO Γ w (fun b=>Q5 s.hp.length (Γ b)) w:=fun _ _ _ h1 h2=>⟨Sj h1,h2⟩
 have o1:Yh Γ (fun b=>Q5 s.hp.length (Γ b)):=fun b g hb=>TM.1 hb
 have fAll:=(f1.trans hf.fix).trans f3
 have oAll:=(o1.trans hf.own).trans o3
 refine ⟨fun b=>BC (Γ b) (Γ' b),⟨hI.defers,⟨hI.slots.size,fun t x hx=>(hI.slots.rep t x hx).mono fAll oAll,fun t x hx=>(hI.slots.own t x hx).mono fAll oAll fun b n hb=>?_⟩,?_,?_,hI.base,hI.base2,Nat.le_trans hI.le hle.1,fun b g hb hl=>hI.back b g (TM.2 (hle.2 b g ((own' b g).2 hb) (Nat.lt_of_lt_of_le hl hI.le))) hl⟩,hv.mono f3 o3,ho.mono f3 o3 fun b n hb=>⟨keepL b _ (by simp) (by simp) (by simp) hb,rfl⟩⟩
 ·refine ⟨?_,(slot b n t hb).2⟩
  show BC (Γ b) (Γ' b)=_
  rw [hb]; rfl
 ·exact hr.alike f3 own' (fun b n g i _ hb=>keepL b _ (by simp) (by simp) (by simp) hb) (fun b hb=>keepL b _ (by simp) (by simp) (by simp) hb)
 ·refine ⟨hf.os.trans hI.fr.os,hf.tape.trans hI.fr.tape,hf.output.trans hI.fr.output,Nat.le_trans hI.fr.size hf.size,hI.fr.fix.trans fAll,hI.fr.own.trans oAll,fun b hb hk=>?_⟩
  have hb':=Nat.lt_of_lt_of_le hb hI.fr.size
  cases hg:E.Γ0 b with
  | imm =>
   obtain ⟨e1,e2⟩:=hI.fr.keep b hb (by rw [hg]; trivial)
   rw [hg] at e1
   obtain ⟨e3,e4⟩:=hf.keep b hb' (by simp only [e1,Q5,Kept])
   simp only [e1,Q5] at e3
   exact ⟨keepL b _ (by simp) (by simp) (by simp) e3,e4.trans e2⟩
  | own g =>
   rw [hg] at hk
   obtain ⟨s1,s2⟩:=Bc (hI.base b g hg) hk
   obtain ⟨e1,e2⟩:=hI.fr.keep b hb (by rw [hg]; exact s1)
   rw [hg] at e1
   obtain ⟨e3,e4⟩:=hf.keep b hb' (by simp only [e1,Q5,Kept]; exact s2)
   simp only [e1,Q5] at e3
   exact ⟨keepL b _ (by simp) (by simp) (by simp) e3,e4.trans e2⟩
  | list n m =>
   rw [hg] at hk
   cases m with
   | outer =>
    obtain ⟨e1,e2⟩:=hI.fr.keep b hb (by rw [hg]; trivial)
    rw [hg] at e1
    obtain ⟨e3,e4⟩:=hf.keep b hb' (by simp only [e1,Q5,Kept])
    simp only [e1,Q5] at e3
    refine ⟨?_,e4.trans e2⟩
    show BC (Γ b) (Γ' b)=_
    rw [e1,e3]; rfl
   | cell g i =>
    have hgb:=hI.base2 b n g i hg
    obtain ⟨s1,s2⟩:=Bc hgb hk
    obtain ⟨e1,e2⟩:=hI.fr.keep b hb (by rw [hg]; exact s1)
    rw [hg] at e1
    have hlt:g < s.hp.length:=Nat.lt_of_lt_of_le hgb hI.le
    obtain ⟨e3,e4⟩:=hf.keep b hb' (by simp only [e1,Q5,if_pos hlt,Kept]; exact s2)
    simp only [e1,Q5,if_pos hlt] at e3
    exact ⟨keepL b _ (by simp) (by simp) (by simp) e3,e4.trans e2⟩
   | slot t=>exact hk.elim
   | res=>exact hk.elim
   | arg j=>exact hk.elim
end
end Go.Proofs.YtleomfgijkapfaaGreatDoor.Abs
end
section
namespace Go.Proofs.YtleomfgijkapfaaGreatDoor.Abs
open Go Go.RowKit
section
variable {P:Program}{G:Nat→Option (List AV)}{call:FuncId→List AV→List Zp→Option (AV×List Zp×Eff)}{E:Entry}{s s':Za}{Γ:Zo}{a:Act}{w:World}{o:Oper}{hand:Nat→Bool}{draw:Bool}{ao:AOp}{v:AV}
theorem Zdh {c:Call}{b:Callee}{xs:List Operand}{ts:List TypeId}(h0:c.callee=b)(h1:c.args.toList=xs)(h2:c.argTypes.toList=ts):c={ callee := b,args := xs.toArray,argTypes := ts.toArray }:=by
 cases c with
 | mk q xs' ts'=>subst h0 h1 h2; simp
theorem ZgG (hG:GOk G E.W0)(hI:Inv E s Γ a w){c:Call}(hop:o.op=.call c)(hnv:∀ f,c.callee≠.value f)(hc:cOp P hand draw o=some ao)(h:Zb G call s ao=some (v,s')):Ua P E Γ s s' v a w o ao:=by
 simp only [cOp,hop] at hc
 split at hc
 ·rename_i f hf; exact absurd hf (hnv f)
 ·rename_i hf
  split at hc <;> first | (cases hc; done) | skip
  rename_i x t hx ht
  rw [Zdh hf hx ht] at hop
  split at hc <;> first | (cases hc; done) | skip
  all_goals
   rename_i hu
   obtain ⟨x',hx',rfl⟩:=Option.map_eq_some_iff.1 hc
   simp only [Zb] at h
   split at h <;> first | (cases h; done) | skip
   rename_i u hu'
   replace h:=Yr h
   obtain ⟨h,hss⟩:=h
   subst hss
  ·exact (ZiN (sh := .str) hG hI hop hu hx' hu' h).fit hI
  ·exact (ZiN (sh := .slice) hG hI hop ⟨_,hu⟩ hx' hu' h).fit hI
  ·exact (ZiN (sh := .map) hG hI hop ⟨_,_,hu⟩ hx' hu' h).fit hI
 ·rename_i hf
  split at hc <;> first | (cases hc; done) | skip
  rename_i q x t u hx ht
  rw [Zdh hf hx ht] at hop
  split at hc <;> first | (cases hc; done) | skip
  rename_i e hu
  split at hc <;> first | (cases hc; done) | skip
  rename_i i z hi hz
  split at hc
  case isFalse =>
   split at hc <;> first | (cases hc; done) | skip
   rename_i hk
   obtain ⟨hk1,hk2,hk3,hk4⟩:=hk
   split at hc <;> first | (cases hc; done) | skip
   rename_i sl x' hx'
   obtain rfl:=Option.some.inj hc
   simp only [Zb] at h
   split at h <;> first | (cases h; done) | skip
   rename_i k' r l hsl hy
   split at h <;> first | (cases h; done) | skip
   rename_i hh
   obtain ⟨rfl,hb⟩:=hh
   cases h
   exact (ZnA hG hI hop hu (ZkC hk4) hi hz (by rw [hk2,hk1]) hk1 hk3 hx' hsl hy hb).fit
  rename_i hk
  obtain ⟨rfl,hk1,hk2,hk3⟩:=hk
  split at hc <;> first | (cases hc; done) | skip
  ·rename_i sl x' hx'
   obtain rfl:=Option.some.inj hc
   simp only [Zb] at h
   split at h <;> first | (cases h; done) | skip
   rename_i k' r y hsl hy
   split at h <;> first | (cases h; done) | skip
   rename_i k'' r' hr
   split at h <;> first | (cases h; done) | skip
   rename_i hh
   obtain ⟨rfl,rfl,hid,hb⟩:=hh
   cases h
   exact (Zp6 hG hI hop hu hi hz hk2 hk1 hk3 hx' hsl hy hr hid hb).fit
  ·rename_i x' hx'
   obtain rfl:=Option.some.inj hc
   simp only [Zb] at h
   split at h <;> first | (cases h; done) | skip
   rename_i y hy
   split at h <;> first | (cases h; done) | skip
   rename_i k'' r' hr
   split at h <;> first | (cases h; done) | skip
   rename_i hh
   obtain ⟨rfl,hid,hb⟩:=hh
   cases h
   exact (Zn9 hG hI hop hu hi hz hk2 hk1 hk3 hx' hy hr hid hb).fit
 ·rename_i hf
  split at hc <;> first | (cases hc; done) | skip
  rename_i q x t u hx ht
  rw [Zdh hf hx ht] at hop
  split at hc <;> first | (cases hc; done) | skip
  rename_i e hu
  split at hc <;> first | (cases hc; done) | skip
  rename_i i hi
  split at hc <;> first | (cases hc; done) | skip
  rename_i hk
  obtain ⟨rfl,hk1⟩:=hk
  split at hc <;> first | (cases hc; done) | skip
  rename_i d' x' hd' hx'
  obtain rfl:=Option.some.inj hc
  simp only [Zb] at h
  split at h <;> first | (cases h; done) | skip
  ·rename_i g off len k'' y hd hy
   split at h <;> first | (cases h; done) | skip
   rename_i k' r cs t' hr hg
   split at h <;> first | (cases h; done) | skip
   rename_i hh
   obtain ⟨rfl,rfl,hfit,hone⟩:=hh
   cases h
   exact (ZnB hG hI hop hu hi hk1 hd' hx' hd hy hr hg hfit hone).fit
  ·rename_i k'' y hd hy
   split at h <;> first | (cases h; done) | skip
   rename_i k' r hr
   split at h <;> first | (cases h; done) | skip
   rename_i hh
   subst hh
   cases h
   exact (Zlb hG hI hop hu hi hd' hx' hd hy hr).fit
 ·rename_i hf
  split at hc <;> first | (cases hc; done) | skip
  rename_i t l ht
  split at hc <;> first | (cases hc; done) | skip
  obtain ⟨ps,hps,rfl⟩:=Option.map_eq_some_iff.1 hc
  simp only [Zb] at h
  split at h <;> first | (cases h; done) | skip
  rename_i n vs hv
  obtain ⟨r,hr,e⟩:=Option.map_eq_some_iff.1 h
  cases e
  exact (Zcd (isMax := false) hG hI (by rw [hop]; cases c; simp only at hf; subst hf; rfl) hps hv hr).fit
 ·rename_i hf
  split at hc <;> first | (cases hc; done) | skip
  rename_i t l ht
  split at hc <;> first | (cases hc; done) | skip
  obtain ⟨ps,hps,rfl⟩:=Option.map_eq_some_iff.1 hc
  simp only [Zb] at h
  split at h <;> first | (cases h; done) | skip
  rename_i n vs hv
  obtain ⟨r,hr,e⟩:=Option.map_eq_some_iff.1 h
  cases e
  exact (Zcd (isMax := true) hG hI (by rw [hop]; cases c; simp only at hf; subst hf; rfl) hps hv hr).fit
 ·cases hc
theorem Zml (hG:GOk G E.W0)(hI:Inv E s Γ a w)(hnv:∀ c f,o.op=.call c→c.callee≠.value f)(hc:cOp P hand draw o=some ao)(h:Zb G call s ao=some (v,s')):Ua P E Γ s s' v a w o ao:=by
 cases hop:o.op with
 | move x=>exact ZnK hG hI hop hc h
 | assign x=>exact ZiS hG hI hop hc h
 | pick c x y=>exact ZnL hG hI hop hc h
 | alloc e=>exact Zmn hG hI (.inl ⟨_,hop⟩) hc h
 | box e x=>exact Zmn hG hI (.inr ⟨_,_,hop⟩) hc h
 | build t ps=>exact Zlg hG hI hop hc h
 | buildSlice t n ps=>exact ZpH hG hI hop hc h
 | load t p=>exact ZnJ hG hI hop hc h
 | store t p x=>exact Zli hG hI hop hc h
 | nilCheck x=>exact N7 hG hI (.inl ⟨_,hop⟩) hc h
 | binOp op t x y t'=>exact N7 hG hI (.inr (.inl ⟨_,_,_,_,_,hop⟩)) hc h
 | unOp op t x=>exact N7 hG hI (.inr (.inr ⟨_,_,_,hop⟩)) hc h
 | convert src dst x=>exact ZgH hG hI hop hc h
 | makeFunc fn x y=>exact ZdF hG hI (.inl ⟨_,_,_,hop⟩) hc h
 | makeMap t r=>exact ZdF hG hI (.inr (.inl ⟨_,_,hop⟩)) hc h
 | makeSlice t l c=>exact ZdF hG hI (.inr (.inr ⟨_,_,_,hop⟩)) hc h
 | slice t x lo hi mx=>exact Zlh hG hI hop hc h
 | fieldAddr t x f=>exact Zao hG hI (.inl ⟨_,_,_,hop⟩) hc h
 | field t x f=>exact Zao hG hI (.inr (.inl ⟨_,_,_,hop⟩)) hc h
 | indexAddr t x i=>exact Zao hG hI (.inr (.inr (.inl ⟨_,_,_,hop⟩))) hc h
 | index t x i=>exact Zao hG hI (.inr (.inr (.inr ⟨_,_,_,hop⟩))) hc h
 | lookup t x i ok=>exact Zmm hG hI (.inl ⟨_,_,_,_,hop⟩) hc h
 | mapUpdate t m k x=>exact Zmm hG hI (.inr ⟨_,_,_,_,hop⟩) hc h
 | range t x=>exact ZdE hG hI (.inl ⟨_,_,hop⟩) hc h
 | next x b=>exact ZdE hG hI (.inr (.inl ⟨_,_,hop⟩)) hc h
 | extract x i=>exact ZdE hG hI (.inr (.inr ⟨_,_,hop⟩)) hc h
 | call c=>exact ZgG hG hI hop (fun f=>hnv c f hop) hc h
 | _=>simp [cOp,hop] at hc
end
end Go.Proofs.YtleomfgijkapfaaGreatDoor.Abs
end
section
namespace Go.Proofs.YtleomfgijkapfaaGreatDoor.Abs
open Go Go.RowKit
section
variable {P:Program}{G:Nat→Option (List AV)}{call:FuncId→List AV→List Zp→Option (AV×List Zp×Eff)}{E:Entry}{s s':Za}{Γ:Zo}{a:Act}{w:World}{o:Oper}{hand:Nat→Bool}{draw:Bool}{ao:AOp}{v:AV}
theorem Us {x:AV}{k:Nat}{r:List (List AV)}:x.nm≠.own k r:=by cases x <;> simp [AV.nm]
theorem three {first vs caps:List AV}{fv cv:Array Value}{xs:Array Value}(h1:fv.size=first.length)(h2:xs.size=vs.length)(h3:cv.size=caps.length){R:Nat→AV→Value→Prop}
  (k1:∀ j x,first[j]? = some x→R j x.nm (fv.getD j Go.undef)) (k2:∀ j x,vs[j]? = some x→R (first.length + j) x (xs.getD j Go.undef)) (k3:∀ j x i,caps[j]? = some x→R i x.nm (cv.getD j Go.undef)) :
  ((fv ++ xs) ++ cv).size=(first.map AV.nm ++ vs ++ caps.map AV.nm).length∧∀ j x,(first.map AV.nm ++ vs ++ caps.map AV.nm)[j]? = some x→R j x (((fv ++ xs) ++ cv).getD j Go.undef):=by
 refine ⟨by simp [h1,h2,h3],fun j x hx=>?_⟩
 have hget:∀ i,((fv ++ xs) ++ cv).getD i Go.undef=if i < first.length then fv.getD i Go.undef else if i < first.length + vs.length then xs.getD (i - first.length) Go.undef else cv.getD (i - (first.length + vs.length)) Go.undef:=by
  intro i
  simp only [Array.getD_eq_getD_getElem?,Array.getElem?_append,Array.size_append,h1,h2]
  split
  ·split
   ·rfl
   ·rfl
  ·rename_i hge
   rw [if_neg (by omega)]
 rw [hget]
 by_cases c1:j < first.length
 ·rw [if_pos c1]
  rw [List.append_assoc,List.getElem?_append_left (by simpa using c1),List.getElem?_map] at hx
  obtain ⟨y,hy,rfl⟩:=Option.map_eq_some_iff.1 hx
  exact k1 j y hy
 ·rw [if_neg c1]
  by_cases c2:j < first.length + vs.length
  ·rw [if_pos c2]
   rw [List.append_assoc,List.getElem?_append_right (by simpa using c1),List.getElem?_append_left (by simp; omega)] at hx
   simp only [List.length_map] at hx
   have:=k2 _ x hx
   rwa [show first.length + (j - first.length)=j by omega] at this
  ·rw [if_neg c2]
   rw [List.getElem?_append_right (by simp; omega),List.getElem?_map] at hx
   simp only [List.length_append,List.length_map] at hx
   obtain ⟨y,hy,rfl⟩:=Option.map_eq_some_iff.1 hx
   exact k3 _ y j hy
theorem ZeX {c:Call}{f:Operand}(hop:o.op=.call c)(hcal:c.callee=.value f){g:FuncId}{fv cv:Array Value}(hf:a.eval f=.func (.func g) fv cv)(w:World) :
  (execOp a.eval o).run P w=(callFunc g ((fv ++ c.args.map a.eval) ++ cv)).run P w:=by
 simp only [execOp,hop]
 simp only [resolve,hcal,Deferred.ofValue,hf,Sem.run_bind,Sem.run_pure,Result.andThen_ok,invoke]
theorem ZnI (hG:GOk G E.W0)(hS:Z5 P E.W0 call)(hI:Inv E s Γ a w){c:Call}{f:Operand}(hop:o.op=.call c)(hcal:c.callee=.value f)(hc:cOp P hand draw o=some ao)(h:Zb G call s ao=some (v,s'))
  {K:Act→World→Prop} {Q:Exit→Act→World→Prop} (hK:∀ Γ' cv w',Inv E s' Γ' a w'→Rep Γ' w' v cv→OwnAt Γ' w' .res v cv→K (a.put o.dst cv) w'):o.wp P a w K Q:=by
 simp only [cOp,hop,hcal] at hc
 split at hc <;> first | (cases hc; done) | skip
 rename_i f' args hf hargs
 obtain rfl:=Option.some.inj hc
 simp only [Zb] at h
 split at h <;> first | (cases h; done) | skip
 rename_i g first caps vs sl hfv hvs
 split at h <;> first | (cases h; done) | skip
 rename_i u hp e hcall
 cases h
 obtain ⟨Γ1,i1,f1,o1,_,hlen,hall⟩:=ZmA hG first.length hI hargs hvs
 have hfn:=((Zh hG hI hf hfv).1).mono f1 o1
 generalize hq:a.eval f=q at hfn
 cases hfn with
 | fn _ _ _ fv cv hs1 hr1 hs hr =>
  have f2:ZO Γ1 w (fun b=>Q5 s.hp.length (Γ1 b)) w:=fun _ _ _ h1 h2=>⟨Sj h1,h2⟩
  have o2:Yh Γ1 (fun b=>Q5 s.hp.length (Γ1 b)):=fun b g hb=>TM.1 hb
  obtain ⟨t1,t2⟩:=three (first := first) (vs := vs) (caps := caps) (fv := fv) (cv := cv) (xs := c.args.map a.eval) hs1 (by simp [hlen]) hs
   (R := fun j x y=>Rep (fun b=>Q5 s.hp.length (Γ1 b)) w x y∧OwnAt (fun b=>Q5 s.hp.length (Γ1 b)) w (.slot j) x y)
   (fun j x hx=>⟨((hr1 j x hx).mono f2 o2).nm,.of_ne fun _ _=>Us⟩)
   (fun j x hx=>by
    obtain ⟨y,hy,hr,ho⟩:=hall j x hx
    have:(c.args.map a.eval).getD j Go.undef=a.eval y:=by
     rw [Array.getElem?_toList] at hy
     rw [Array.getD_eq_getD_getElem?,Array.getElem?_map,hy]; rfl
    rw [this]
    exact ⟨hr.mono f2 o2,ho.mono f2 o2 fun b n hb=>⟨by simp [hb,Q5],rfl⟩⟩)
   (fun j x i hx=>⟨((hr j x hx).mono f2 o2).nm,.of_ne fun _ _=>Us⟩)
  have hw:=hS g _ _ _ _ _ hcall _ w _ i1.rw.seen (Zj1 Γ1 _) t1 t2
  unfold Oper.wp
  rw [ZeX hop hcal hq]
  have fin:∀ cv w',(∃ Γ',RW E.W0 Γ' w' hp∧Rep Γ' w' v cv∧OwnAt Γ' w' .res v cv∧Frame (fun b=>Q5 s.hp.length (Γ1 b)) w Γ' w' e∧s.hp.length≤hp.length∧∀ b g,Γ' b=.own g→g < s.hp.length→Q5 s.hp.length (Γ1 b)=.own g)→K (a.put o.dst cv) w':=by
   rintro cv w' ⟨Γ',r1,r2,r3,r4,r5⟩
   obtain ⟨Γ'',j1,j2,j3⟩:=i1.called r1 r2 r3 r4 r5
   exact hK Γ'' cv w' j1 j2 j3
  obtain ⟨hrun,hw⟩:=hw
  rw [hrun,Oper.upon_enter]
  refine hw.mono fun en w'' ⟨cv',hv,hR⟩=>?_
  subst hv
  exact fin cv' w'' hR
theorem ZiU (hG:GOk G E.W0)(hS:Z5 P E.W0 call)(hI:Inv E s Γ a w)(hc:cOp P hand draw o=some ao)(h:Zb G call s ao=some (v,s'))
  {K:Act→World→Prop} {Q:Exit→Act→World→Prop} (hK:∀ Γ' cv w',Inv E s' Γ' a w'→Rep Γ' w' v cv→OwnAt Γ' w' .res v cv→K (a.put o.dst cv) w'):o.wp P a w K Q:=by
 by_cases hv:∃ c f,o.op=.call c∧c.callee=.value f
 ·obtain ⟨c,f,h1,h2⟩:=hv
  exact ZnI hG hS hI h1 h2 hc h hK
 ·exact (Zml hG hI (fun c f h1 h2=>hv ⟨c,f,h1,h2⟩) hc h).1.wp hK
structure Behind (W w:World):Prop where
 os:w.os=W.os
 tape:w.tape=W.tape
 output:w.output=W.output
 size:W.heap.size≤w.heap.size
 upon:Upon W w
theorem Behind.inv (hI:Inv E s Γ a w){w':World}(h:Behind w w'):Inv E s Γ a w' :=
 hI.plain (X := fun _=>False) ⟨h.os,h.tape,h.output,h.size,fun b hb _=>⟨rfl,h.upon b hb⟩,fun _ _ _ h1 h2=>⟨h1,h.upon.cell h2⟩,.refl _⟩ (fun _ hx=>hx.elim) (fun _ _ h=>h) (fun b hb=>hI.rw.fresh b (Nat.le_trans h.size hb))
def QI (n:Nat):Kind→Kind
 | .list m (.cell g i)=>if g < n then .list m (.cell g i) else .imm
 | .list m _=>.list m .outer
 | k=>k
theorem Fh {n o:Nat}{k:Kind}(h:WO o k):WO o (QI n k):=by
 cases k with
 | imm=>trivial
 | own g=>exact h.elim
 | list m l =>
  cases l <;> simp only [QI] <;> first | exact h | skip
  split
  ·exact h
  ·trivial
theorem Fj {n g:Nat}{k:Kind}:k=.own g↔QI n k=.own g:=by
 cases k with
 | imm=>simp [QI]
 | own g=>simp [QI]
 | list m l =>
  cases l <;> simp only [QI] <;> try simp
  split <;> simp
theorem ZgX (Γ:Zo)(n:Nat):Tidy (fun b=>QI n (Γ b)) n:=by
 refine ⟨fun b m h=>?_,fun b m j h=>?_,fun b m g i h=>?_⟩ <;> revert h <;> cases Γ b with
 | imm=>simp [QI]
 | own g=>simp [QI]
 | list m l =>
  cases l <;> simp only [QI] <;> try simp
  try (split <;> simp <;> try omega)
theorem ZgW (n:Nat)(k:Kind):Kept none (QI n k):=by
 cases k with
 | imm=>trivial
 | own g=>exact fun _ _ e=>by cases e
 | list m l =>
  cases l <;> simp only [QI] <;> try trivial
  split
  ·exact fun _ _ e=>by cases e
  ·trivial
theorem RW.quiet {W0 w:World}{Γ:Zo}{hp:List Zp}(h:RW W0 Γ w hp):RW W0 (fun b=>QI hp.length (Γ b)) w hp :=
 h.alike (fun _ _ _ h1 h2=>⟨Fh h1,h2⟩) (fun _ _=>Fj) (fun b n g i hl hb=>by simp [hb,QI,hl]) (fun b hb=>by simp [hb,QI])
theorem Aq (hG:GOk G E.W0)(hI:Inv E s Γ a w):∀ {args:List (Nat ⊕ ZR)} {ts:List TypeId} {xs:List Operand} {hand:Nat→Bool} {vs sl:List AV},OJ P hand ts xs=some args→noHand (.call (.glob 0) args)=true →
  Wl G s.sl args=some (vs,sl)→sl=s.sl∧vs.length=xs.length∧∀ (j:Nat) (v:AV),vs[j]? = some v→∃ x,xs[j]? = some x∧Rep Γ w v (a.eval x)∧∀ k r,v=.own k r→r=[]∧a.eval x=.slice none 0 0:=by
 intro args
 induction args with
 | nil =>
  intro ts xs hand vs sl hc _ h
  simp only [Wl,Option.some.injEq,Prod.mk.injEq] at h
  obtain ⟨rfl,rfl⟩:=h
  have:xs=[]:=by
   cases xs with
   | nil=>rfl
   | cons x xs =>
    cases ts with
    | nil=>simp [OJ] at hc
    | cons t ts =>
     simp only [OJ] at hc
     split at hc <;> simp at hc
  subst this
  exact ⟨rfl,rfl,fun j v hv=>by simp at hv⟩
 | cons p args ih =>
  intro ts xs hand vs sl hc hq h
  cases xs with
  | nil=>cases ts <;> simp [OJ] at hc
  | cons x xs =>
   cases ts with
   | nil=>simp [OJ] at hc
   | cons t ts =>
    simp only [OJ] at hc
    split at hc
    case h_2=>cases hc
    rename_i y l hy hl
    obtain ⟨rfl,rfl⟩:=List.cons.inj (Option.some.inj hc)
    simp only [noHand,List.all_cons,Bool.and_eq_true] at hq
    cases y with
    | inl i=>exact absurd hq.1 (by simp)
    | inr q =>
     have hqx:Z4 P t x=some q:=by
      split at hy
      ·rename_i i
       split at hy
       ·cases hy
       ·cases hy; rfl
      ·obtain ⟨q',h1,h2⟩:=Option.map_eq_some_iff.1 hy
       cases h2; exact h1
     simp only [Wl] at h
     split at h
     case h_2=>cases h
     rename_i v hv
     obtain ⟨p1,h1,h2⟩:=Option.map_eq_some_iff.1 h
     obtain ⟨rfl,rfl⟩:=Prod.mk.inj h2
     obtain ⟨e1,e2,e3⟩:=ih hl hq.2 h1
     obtain ⟨r1,r2⟩:=Zh hG hI hqx hv
     refine ⟨e1,by simp [e2],fun j u hu=>?_⟩
     cases j with
     | zero =>
      obtain rfl:=Option.some.inj hu
      exact ⟨x,rfl,r1,r2⟩
     | succ j =>
      obtain ⟨x',hx',hr⟩:=e3 j u (by simpa using hu)
      exact ⟨x',by simpa using hx',hr⟩
theorem Um {Γ Γ':Zo}{w w':World}{v:AV}{cv:Value}(h:Rep Γ w v cv)(hf:v.flat1=true):Rep Γ' w' v cv:=by
 rw [h.conc1 hf]; exact Xu hf Γ' w'
theorem Zfl {Γ Γ':Zo}{w w':World}{v:AV}{cv:Value}(h:Rep Γ w v cv)(hf:v.flat=true):Rep Γ' w' v cv:=by
 cases h with
 | agg cells cv hs h1 hn hr =>
  simp only [AV.flat,List.all_eq_true] at hf
  exact .agg cells cv hs h1 hn fun j c hc=>Um (hr j c hc) (hf c (List.mem_of_getElem? hc))
 | tup vs cv hs hr =>
  simp only [AV.flat,List.all_eq_true] at hf
  exact .tup vs cv hs fun j c hc=>Um (hr j c hc) (hf c (List.mem_of_getElem? hc))
 | fn f fst caps fv cv hs1 hr1 hs hr=>exact Um (Rep.fn f fst caps fv cv hs1 hr1 hs hr) hf
 | undef=>exact .undef
 | bool=>exact .bool _
 | int=>exact .int _ _
 | str=>exact .str _
 | nilp=>exact .nilp
 | nilf=>exact .nilf
 | nilm=>exact .nilm
 | nili=>exact .nili
 | _=>cases hf
theorem Behind.refl (w:World):Behind w w:=⟨rfl,rfl,rfl,Nat.le_refl _,.refl w⟩
theorem Zkv {v:AV}(h:v.flat=true):∀ k r,v≠.own k r:=by cases v <;> first | (cases h; done) | simp
theorem Zf5 (hG:GOk G E.W0)(hS:Z5 P E.W0 call)(hI:Inv E s Γ a w)(hc:cOp P hand draw o=some ao)(hq:NK ao=true)(hn:noHand ao=true)(h:Zb G (WE call) s ao=some (v,s'))
  {K:Act→Prop} (hK:∀ cv,s'=s→Rep Γ w v cv→(∀ l,OwnAt Γ w l v cv)→K (a.put o.dst cv)):o.quiet P a (Behind w) K:=by
 by_cases hv:∃ c f,o.op=.call c∧c.callee=.value f
 ·obtain ⟨c,f,hop,hcal⟩:=hv
  simp only [cOp,hop,hcal] at hc
  split at hc <;> first | (cases hc; done) | skip
  rename_i f' args hf hargs
  obtain rfl:=Option.some.inj hc
  simp only [Zb] at h
  split at h <;> first | (cases h; done) | skip
  rename_i g first caps vs sl hfv hvs
  split at h <;> first | (cases h; done) | skip
  rename_i u hp e hcall
  cases h
  unfold WE at hcall
  split at hcall <;> first | (cases hcall; done) | skip
  rename_i u' hp1 hcall1
  split at hcall <;> first | (cases hcall; done) | skip
  rename_i hflat
  cases hcall
  obtain ⟨q1,q2,q3⟩:=Aq hG hI hargs hn hvs
  subst q1
  have main:∀ w',Behind w w'→o.quietAt P a (Behind w) w' v.conc∧∃ Γ' w'',Rep Γ' w'' v v.conc:=by
   intro w' hw'
   have hI':=hw'.inv hI
   obtain ⟨_,_,q3⟩:=Aq hG hI' hargs hn hvs
   have hfn:=(Zh hG hI' hf hfv).1
   generalize hq:a.eval f=q at hfn
   cases hfn with
   | fn _ _ _ fv cv hs1 hr1 hs hr =>
    have f2:ZO Γ w' (fun b=>QI s.hp.length (Γ b)) w':=fun _ _ _ h1 h2=>⟨Fh h1,h2⟩
    have o2:Yh Γ (fun b=>QI s.hp.length (Γ b)):=fun b g hb=>Fj.1 hb
    obtain ⟨t1,t2⟩:=three (first := first) (vs := vs) (caps := caps) (fv := fv) (cv := cv) (xs := c.args.map a.eval) hs1 (by simp [q2]) hs
     (R := fun j x y=>Rep (fun b=>QI s.hp.length (Γ b)) w' x y∧OwnAt (fun b=>QI s.hp.length (Γ b)) w' (.slot j) x y)
     (fun j x hx=>⟨((hr1 j x hx).mono f2 o2).nm,.of_ne fun _ _=>Us⟩)
     (fun j x hx=>by
      obtain ⟨y,hy,hr,ho⟩:=q3 j x hx
      have:(c.args.map a.eval).getD j Go.undef=a.eval y:=by
       rw [Array.getElem?_toList] at hy
       rw [Array.getD_eq_getD_getElem?,Array.getElem?_map,hy]; rfl
      rw [this]
      exact ⟨hr.mono f2 o2,.nil ho⟩)
     (fun j x i hx=>⟨((hr j x hx).mono f2 o2).nm,.of_ne fun _ _=>Us⟩)
    have hw:=hS g _ _ _ _ _ hcall1 _ w' _ hI'.rw.quiet (ZgX Γ _) t1 t2
    unfold Oper.quietAt
    rw [ZeX hop hcal hq]
    have fin:∀ cv w'',(∃ Γ',RW E.W0 Γ' w'' hp1∧Rep Γ' w'' v cv∧OwnAt Γ' w'' .res v cv∧Frame (fun b=>QI s.hp.length (Γ b)) w' Γ' w'' none∧s.hp.length≤hp1.length∧∀ b g,Γ' b=.own g→g < s.hp.length→QI s.hp.length (Γ b)=.own g)→cv=v.conc∧Behind w w''∧Upon w' w'':=by
     rintro cv w'' ⟨Γ',r1,r2,r3,r4,r5⟩
     have hup:Upon w' w'':=fun b hb=>(r4.keep b hb (ZgW _ _)).2
     exact ⟨IB r2 hflat,⟨r4.os.trans hw'.os,r4.tape.trans hw'.tape,r4.output.trans hw'.output,Nat.le_trans hw'.size r4.size,fun b hb=>(hup b (Nat.lt_of_lt_of_le hb hw'.size)).trans (hw'.upon b hb)⟩,hup⟩
    obtain ⟨hrun,hw⟩:=hw
    obtain ⟨en,w1,_,⟨cv1,_,hR1⟩,_⟩:=hw []
    rw [hrun]
    refine ⟨⟨rfl,hw.mono fun en w'' ⟨cv',hv,hR⟩=>?_⟩,?_⟩
    ·subst hv
     obtain ⟨e1,e2,_⟩:=fin cv' w'' hR
     exact ⟨by rw [e1],e2⟩
    ·obtain ⟨e1,_,_⟩:=fin cv1 w1 hR1
     obtain ⟨Γ',_,r2,_⟩:=hR1
     rw [e1] at r2
     exact ⟨Γ',w1,r2⟩
  obtain ⟨Γ',w'',hrep⟩:=(main w (.refl w)).2
  exact ⟨v.conc,fun w' hw'=>(main w' hw').1,hK _ rfl (Zfl hrep hflat) fun l=>.of_ne (Zkv hflat)⟩
 ·obtain ⟨h1,h2⟩:=Zml hG hI (fun c f h1 h2=>hv ⟨c,f,h1,h2⟩) hc h
  obtain ⟨e,cv,hr,r1,r2⟩:=h2 hq
  exact ⟨cv,fun w' hw'=>by
   unfold Oper.quietAt
   rw [hr w' hw'.upon]
   exact ⟨rfl,rfl⟩,hK cv e r1 fun l=>.nil r2⟩
end
end Go.Proofs.YtleomfgijkapfaaGreatDoor.Abs
end
section
namespace Go.Proofs.YtleomfgijkapfaaGreatDoor.Abs
open Go Go.RowKit
structure MG (W:List Nat)(f:List AV→List AV):Prop where
 len:∀ l,(f l).length=l.length
 out:∀ (l:List AV) (i:Nat),i ∉ W→(f l)[i]? = l[i]?
 on:∀ (l m:List AV) (i:Nat),i ∈ W→l.length=m.length→l[i]? = m[i]?→(f l)[i]? = (f m)[i]?
theorem MG.id (W:List Nat):MG W id:=⟨fun _=>rfl,fun _ _ _=>rfl,fun _ _ _ _ _ h=>h⟩
theorem MG.set (d:Nat)(v:AV):MG [d] (fun l=>l.set d v):=by
 refine ⟨fun l=>by simp,fun l i hi=>?_,fun l m i hi hl h=>?_⟩
 ·have:d≠i:=fun e=>hi (by simp [e])
  rw [List.getElem?_set_ne this]
 ·have:i=d:=by simpa using hi
  subst this
  simp only [List.getElem?_set_self']
  rw [h]
theorem MG.mod (t:Nat):MG [t] (fun l=>l.modify t AV.ro):=by
 refine ⟨fun l=>by simp,fun l i hi=>?_,fun l m i hi hl h=>?_⟩
 ·have:t≠i:=fun e=>hi (by simp [e])
  rw [List.getElem?_modify]; simp [this]
 ·rw [List.getElem?_modify,List.getElem?_modify,h]
theorem MG.comp {V W:List Nat}{f g:List AV→List AV}(hf:MG V f)(hg:MG W g):MG (W ++ V) (fun l=>g (f l)):=by
 refine ⟨fun l=>by rw [hg.len,hf.len],fun l i hi=>?_,fun l m i hi hl h=>?_⟩
 ·rw [List.mem_append,not_or] at hi
  rw [hg.out _ _ hi.1,hf.out _ _ hi.2]
 ·have hfi:(f l)[i]? = (f m)[i]?:=by
   by_cases h2:i ∈ V
   ·exact hf.on l m i h2 hl h
   ·rw [hf.out _ _ h2,hf.out _ _ h2,h]
  by_cases h1:i ∈ W
  ·exact hg.on _ _ i h1 (by rw [hf.len,hf.len,hl]) hfi
  ·rw [hg.out _ _ h1,hg.out _ _ h1,hfi]
theorem MG.swap {V W:List Nat}{f g:List AV→List AV}(hf:MG V f)(hg:MG W g)(hd:apartB V W=true)(l:List AV):f (g l)=g (f l):=by
 have hd':∀ i,i ∈ V→i ∉ W:=fun i hi hw=>by
  have:=List.all_eq_true.1 hd i hi
  simp at this
  exact this hw
 refine List.ext_getElem? fun i=>?_
 by_cases h1:i ∈ V
 ·have h2:=hd' i h1
  rw [hg.out (f l) i h2,hf.on (g l) l i h1 (hg.len l) (hg.out l i h2)]
 ·rw [hf.out (g l) i h1]
  by_cases h2:i ∈ W
  ·exact (hg.on (f l) l i h2 (hf.len l) (hf.out l i h1)).symm
  ·rw [hg.out l i h2,hg.out (f l) i h2,hf.out l i h1]
def Agree (R:List Nat)(l m:List AV):Prop:=∀ i ∈ R,l[i]? = m[i]?
theorem Agree.left {R S:List Nat}{l m:List AV}(h:Agree (R ++ S) l m):Agree R l m:=fun i hi=>h i (List.mem_append_left _ hi)
theorem Agree.right {R S:List Nat}{l m:List AV}(h:Agree (R ++ S) l m):Agree S l m:=fun i hi=>h i (List.mem_append_right _ hi)
theorem Agree.of_loc {W R:List Nat}{f:List AV→List AV}(hf:MG W f)(hd:apartB W R=true)(l:List AV):Agree R l (f l):=fun i hi=>by
 refine (hf.out l i fun hw=>?_).symm
 have:=List.all_eq_true.1 hd i hw
 simp at this
 exact this hi
theorem Agree.symm {R:List Nat}{l m:List AV}(h:Agree R l m):Agree R m l:=fun i hi=>(h i hi).symm
section
variable {G:Nat→Option (List AV)}
theorem Zl {x:ZR}{l m:List AV}(h:Agree (oR x) l m):opnd G l x=opnd G m x:=by
 cases x with
 | tmp t=>simp only [opnd]; rw [h t (by simp [oR])]
 | const v=>rfl
 | glob g=>rfl
theorem XN:∀ {xs:List ZR} {l m:List AV},Agree (oRs xs) l m→opnds G l xs=opnds G m xs
 | [],_,_,_=>rfl
 | x :: xs,l,m,h=>by
  have h':Agree (oR x ++ oRs xs) l m:=by simpa [oRs] using h
  simp only [opnds]
  rw [Zl h'.left,XN h'.right]
theorem Tm {x:Option ZR}{l m:List AV}(h:Agree (oRo x) l m):optOpnd G l x=optOpnd G m x:=by
 cases x with
 | none=>rfl
 | some x=>simp only [optOpnd]; rw [Zl h]
theorem UA:∀ {args:List (Nat ⊕ ZR)} {l m:List AV} {vs sl:List AV},(args.all fun | .inr _=>true | .inl _=>false)=true →
  Agree (args.flatMap fun x=>match x with | .inl t=>[t] | .inr x=>oR x) l m→Wl G l args=some (vs,sl)→sl=l∧Wl G m args=some (vs,m)
 | [],l,m,vs,sl,_,_,h=>by
  simp only [Wl,Option.some.injEq,Prod.mk.injEq] at h ⊢
  exact ⟨h.2.symm,h.1,trivial⟩
 | .inl t :: args,_,_,_,_,hn,_,_=>by simp at hn
 | .inr x :: args,l,m,vs,sl,hn,ha,h=>by
  simp only [List.all_cons,Bool.and_eq_true] at hn
  have ha':Agree (oR x ++ (args.flatMap fun x=>match x with | .inl t=>[t] | .inr x=>oR x)) l m:=by simpa using ha
  simp only [Wl] at h ⊢
  rw [← Zl (G := G) ha'.left]
  split at h <;> first | (cases h; done) | skip
  rename_i v hv
  obtain ⟨p,h1,h2⟩:=Option.map_eq_some_iff.1 h
  obtain ⟨rfl,rfl⟩:=Prod.mk.inj h2
  obtain ⟨e1,e2⟩:=UA hn.2 ha'.right h1
  refine ⟨e1,?_⟩
  simp only [hv,e2,Option.map_some]
end
def Qo (h h':List Zp):Prop:=(∀ p v,KD h p=some v→KD h' p=some v)∧∀ n p v,KC h n p=some v→KC h' n p=some v
theorem Qo.refl (h:List Zp):Qo h h:=⟨fun _ _ h=>h,fun _ _ _ h=>h⟩
theorem Qo.of_get {h h':List Zp}(hg:∀ (g:Nat) (cs:List AV) (t:TypeId),h[g]? = some (Zp.cells cs t)→∃ (cs':List AV) (t':TypeId),h'[g]? = some (Zp.cells cs' t')∧cs'.map AV.ro=cs.map AV.ro):Qo h h':=by
 refine ⟨fun p v hv=>?_,fun n p v hv=>?_⟩
 ·unfold KD at hv ⊢
  split at hv <;> first | exact hv | (cases hv; done) | skip
  split at hv <;> first | (cases hv; done) | skip
  rename_i g o _ cs t hcs
  obtain ⟨cs',t',h1,h2⟩:=hg _ _ _ hcs
  simp only [h1]
  rw [← List.getElem?_map] at hv ⊢
  rw [h2]; exact hv
 ·unfold KC at hv ⊢
  split at hv <;> first | exact hv | (cases hv; done) | skip
  split at hv <;> first | (cases hv; done) | skip
  rename_i g o _ cs t hcs
  obtain ⟨cs',t',h1,h2⟩:=hg _ _ _ hcs
  simp only [h1]
  have hl:cs'.length=cs.length:=by have:=congrArg List.length h2; simpa using this
  rw [hl]
  rw [List.map_take,List.map_drop] at hv ⊢
  rw [h2]; exact hv
theorem Qo.app (h:List Zp)(o:Zp):Qo h (h ++ [o]):=.of_get fun g cs t hg=>⟨cs,t,by rw [List.getElem?_append_left (List.getElem?_eq_some_iff.1 hg).1]; exact hg,rfl⟩
theorem BJ (v:AV):v.ro.ro=v.ro:=by cases v <;> rfl
theorem AY (cs:List AV)(o:Nat)(v:AV)(h:cs[o]? = some v):(cs.set o v.ro).map AV.ro=cs.map AV.ro:=by
 refine List.ext_getElem? fun i=>?_
 rw [List.getElem?_map,List.getElem?_map,List.getElem?_set]
 split
 ·rename_i e
  subst e
  have hl:=(List.getElem?_eq_some_iff.1 h).1
  rw [if_pos hl,h]
  simp [BJ]
 ·rfl
theorem Qo.mark {h:List Zp}{g o:Nat}{cs:List AV}{t:TypeId}{v:AV}(h1:h[g]? = some (.cells cs t))(h2:cs[o]? = some v):Qo h (h.set g (.cells (cs.set o v.ro) t))∧Qo (h.set g (.cells (cs.set o v.ro) t)) h:=by
 have hl:=(List.getElem?_eq_some_iff.1 h1).1
 constructor
 ·refine .of_get fun g' cs' t' hg=>?_
  rw [List.getElem?_set]
  split
  ·rename_i e; subst e
   rw [h1] at hg; cases hg
   exact ⟨cs.set o v.ro,t,by simp [hl],AY cs o v h2⟩
  ·exact ⟨_,_,hg,rfl⟩
 ·refine .of_get fun g' cs' t' hg=>?_
  rw [List.getElem?_set] at hg
  split at hg
  ·rename_i e; subst e
   simp only [hl,if_true,Option.some.injEq,Zp.cells.injEq] at hg
   obtain ⟨rfl,rfl⟩:=hg
   exact ⟨_,_,h1,(AY cs o v h2).symm⟩
  ·exact ⟨_,_,hg,rfl⟩
section
variable {G:Nat→Option (List AV)}{call:FuncId→List AV→List Zp→Option (AV×List Zp×Eff)}
def tkF (ao:AOp)(l:List AV):List AV :=
 match XM ao with
 | [t]=>l.modify t AV.ro
 | _=>l
theorem Zoy (ao:AOp):MG (XM ao) (tkF ao):=by
 cases ao <;> first | exact MG.id _ | exact MG.mod _
structure O3 (G:Nat→Option (List AV))(call:FuncId→List AV→List Zp→Option (AV×List Zp×Eff))(ao:AOp)(k:HK)(s:Za)(v:AV)(s':Za):Prop where
 sl:s'.sl=tkF ao s.sl
 bs:s'.bs=s.bs
 any:∀ t,Agree (Qq ao) s.sl t.sl→t.hp=s.hp→t.ef=s.ef→t.bs=s.bs→Zb G call t ao=some (v,⟨tkF ao t.sl,s'.hp,s'.ef,t.bs⟩)
 still:(match k with | .free | .look | .read=>True | _=>False)→s'.hp=s.hp∧s'.ef=s.ef
 free:k=.free→∀ t,Agree (Qq ao) s.sl t.sl→Zb G call t ao=some (v,⟨tkF ao t.sl,t.hp,t.ef,t.bs⟩)
 look:k=.look→∀ t,Agree (Qq ao) s.sl t.sl→Qo s.hp t.hp→Zb G call t ao=some (v,⟨tkF ao t.sl,t.hp,t.ef,t.bs⟩)
 read:(match k with | .free | .look | .read=>True | _=>False)→∀ t,Agree (Qq ao) s.sl t.sl→t.hp=s.hp→Zb G call t ao=some (v,⟨tkF ao t.sl,t.hp,t.ef,t.bs⟩)
 alloc:k=.alloc→s'.ef=s.ef∧∃ obs,s'.hp=s.hp ++ obs∧∀ t,Agree (Qq ao) s.sl t.sl→t.hp.length=s.hp.length→Zb G call t ao=some (v,⟨tkF ao t.sl,t.hp ++ obs,t.ef,t.bs⟩)
 mark:k=.mark→s'.hp.length=s.hp.length∧Qo s.hp s'.hp∧Qo s'.hp s.hp∧∀ t obs,Agree (Qq ao) s.sl t.sl→t.hp=s.hp ++ obs→t.ef=s.ef→t.bs=s.bs→Zb G call t ao=some (v,⟨tkF ao t.sl,s'.hp ++ obs,s'.ef,t.bs⟩)
theorem O3.of_free {ao:AOp}{s:Za}{v:AV}{s':Za}(h:s'=⟨tkF ao s.sl,s.hp,s.ef,s.bs⟩)(hf:∀ t,Agree (Qq ao) s.sl t.sl→Zb G call t ao=some (v,⟨tkF ao t.sl,t.hp,t.ef,t.bs⟩)):O3 G call ao .free s v s':=by
 subst h
 refine ⟨rfl,rfl,fun t ha h1 h2 h3=>?_,fun _=>⟨rfl,rfl⟩,fun _=>hf,(fun h=>by cases h),fun _ t ha _=>hf t ha,(fun h=>by cases h),(fun h=>by cases h)⟩
 rw [hf t ha,h1,h2]
theorem O3.of_read {ao:AOp}{s:Za}{v:AV}{s':Za}(h:s'=⟨tkF ao s.sl,s.hp,s.ef,s.bs⟩)(hf:∀ t,Agree (Qq ao) s.sl t.sl→t.hp=s.hp→Zb G call t ao=some (v,⟨tkF ao t.sl,t.hp,t.ef,t.bs⟩)):O3 G call ao .read s v s':=by
 subst h
 refine ⟨rfl,rfl,fun t ha h1 h2 h3=>?_,fun _=>⟨rfl,rfl⟩,(fun h=>by cases h),(fun h=>by cases h),fun _ t ha h1=>hf t ha h1,(fun h=>by cases h),(fun h=>by cases h)⟩
 rw [hf t ha h1,h1,h2]
theorem O3.of_look {ao:AOp}{s:Za}{v:AV}{s':Za}(h:s'=⟨tkF ao s.sl,s.hp,s.ef,s.bs⟩)(hf:∀ t,Agree (Qq ao) s.sl t.sl→Qo s.hp t.hp→Zb G call t ao=some (v,⟨tkF ao t.sl,t.hp,t.ef,t.bs⟩)):O3 G call ao .look s v s':=by
 subst h
 refine ⟨rfl,rfl,fun t ha h1 h2 h3=>?_,fun _=>⟨rfl,rfl⟩,(fun h=>by cases h),fun _=>hf,fun _ t ha h1=>hf t ha (h1 ▸ .refl _),(fun h=>by cases h),(fun h=>by cases h)⟩
 rw [hf t ha (h1 ▸ .refl _),h1,h2]
theorem O3.of_set {ao:AOp}{s:Za}{v:AV}{s':Za}(h1:s'.sl=tkF ao s.sl)(h2:s'.bs=s.bs)(hf:∀ t,Agree (Qq ao) s.sl t.sl→t.hp=s.hp→t.ef=s.ef→t.bs=s.bs→Zb G call t ao=some (v,⟨tkF ao t.sl,s'.hp,s'.ef,t.bs⟩)):O3 G call ao .set s v s' :=
 ⟨h1,h2,hf,(fun h=>h.elim),(fun h=>by cases h),(fun h=>by cases h),(fun h=>h.elim),(fun h=>by cases h),(fun h=>by cases h)⟩
theorem YZ {α:Type}{x:Option AV}{s:α}{v:AV}{s':α}(h:x.map (·,s)=some (v,s')):x=some v∧s'=s:=by
 cases x with
 | none=>cases h
 | some a=>cases h; exact ⟨rfl,rfl⟩
theorem ZiT (hq:∀ f args hp v hp' e,call f args hp=some (v,hp',e)→hp'=hp∧e=none){ao:AOp}{k:HK}{s:Za}{v:AV}{s':Za}(hk:hkind ao=some k)(h:Zb G call s ao=some (v,s')):O3 G call ao k s v s':=by
 cases ao <;> simp only [hkind,Option.some.injEq,reduceCtorEq] at hk <;> try subst hk
 case un op x =>
  simp only [Zb] at h
  split at h <;> first | (cases h; done) | skip
  rename_i a ha
  obtain ⟨h1,rfl⟩:=YZ h
  refine .of_free rfl fun t ht=>?_
  simp only [Zb,← Zl (G := G) (x := x) ht,ha,h1,Option.map_some]
  rfl
 case fa off x =>
  simp only [Zb] at h
  split at h <;> first | (cases h; done) | skip
  rename_i a ha
  obtain ⟨h1,rfl⟩:=YZ h
  refine .of_free rfl fun t ht=>?_
  simp only [Zb,← Zl (G := G) (x := x) ht,ha,h1,Option.map_some]
  rfl
 case fld off n agg x =>
  simp only [Zb] at h
  split at h <;> first | (cases h; done) | skip
  rename_i a ha
  obtain ⟨h1,rfl⟩:=YZ h
  refine .of_free rfl fun t ht=>?_
  simp only [Zb,← Zl (G := G) (x := x) ht,ha,h1,Option.map_some]
  rfl
 case mv x =>
  simp only [Zb] at h
  obtain ⟨h1,rfl⟩:=YZ h
  refine .of_free rfl fun t ht=>?_
  simp only [Zb,← Zl (G := G) (x := x) ht,h1,Option.map_some]
  rfl
 case take i =>
  simp only [Zb] at h
  split at h <;> first | (cases h; done) | skip
  rename_i a ha
  cases h
  refine .of_free rfl fun t ht=>?_
  simp only [Zb,← ht i (by simp [Qq]),ha]
  rfl
 case pick c a b =>
  simp only [Zb] at h
  split at h <;> first | (cases h; done) | skip
  ·rename_i hc
   obtain ⟨h1,rfl⟩:=YZ h
   refine .of_free rfl fun t ht=>?_
   simp only [Zb,← Zl (G := G) (x := c) ht.left,← Zl (G := G) (x := a) ht.right.left,hc,h1,Option.map_some]
   rfl
  ·rename_i hc
   obtain ⟨h1,rfl⟩:=YZ h
   refine .of_free rfl fun t ht=>?_
   simp only [Zb,← Zl (G := G) (x := c) ht.left,← Zl (G := G) (x := b) ht.right.right,hc,h1,Option.map_some]
   rfl
 case nilchk x =>
  simp only [Zb] at h
  split at h <;> first | (cases h; done) | skip
  all_goals
   rename_i hc
   cases h
   refine .of_free rfl fun t ht=>?_
   simp only [Zb,← Zl (G := G) (x := x) ht,hc]
   rfl
 case extract x i =>
  simp only [Zb] at h
  split at h <;> first | (cases h; done) | skip
  rename_i vs hc
  obtain ⟨u,h1,h2⟩:=Option.map_eq_some_iff.1 h
  cases h2
  refine .of_free rfl fun t ht=>?_
  simp only [Zb,← Zl (G := G) (x := x) ht,hc,h1,Option.map_some]
  rfl
 case slice sh x lo hi =>
  simp only [Zb] at h
  split at h <;> first | (cases h; done) | skip
  rename_i a b c h0 h1 h2
  obtain ⟨h3,rfl⟩:=YZ h
  refine .of_free rfl fun t ht=>?_
  simp only [Zb,← Zl (G := G) (x := x) ht.left,← Tm (G := G) (x := lo) ht.right.left,← Tm (G := G) (x := hi) ht.right.right,h0,h1,h2,h3,Option.map_some]
  rfl
 case slice3 sh x hi mx =>
  simp only [Zb] at h
  split at h <;> first | (cases h; done) | skip
  rename_i a b c h0 h1 h2
  obtain ⟨h3,rfl⟩:=YZ h
  refine .of_free rfl fun t ht=>?_
  simp only [Zb,← Zl (G := G) (x := x) ht.left,← Zl (G := G) (x := hi) ht.right.left,← Zl (G := G) (x := mx) ht.right.right,h0,h1,h2,h3,Option.map_some]
  rfl
 case build zero parts =>
  simp only [Zb] at h
  split at h <;> first | (cases h; done) | skip
  rename_i vs hvs
  obtain ⟨u,h1,h2⟩:=Option.map_eq_some_iff.1 h
  cases h2
  refine .of_free rfl fun t ht=>?_
  simp only [Zb,← XN (G := G) (xs := List.map (fun (p:Nat×Nat×ZR)=>p.2.2) parts) ht,hvs,h1,Option.map_some]
  rfl
 case bin op sh x y =>
  simp only [Zb] at h
  split at h <;> first | (cases h; done) | skip
  rename_i a b ha hb
  obtain ⟨h1,rfl⟩:=YZ h
  refine .of_free rfl fun t ht=>?_
  simp only [Zb,← Zl (G := G) (x := x) ht.left,← Zl (G := G) (x := y) ht.right,ha,hb,h1,Option.map_some]
  rfl
 case ia sh x y =>
  simp only [Zb] at h
  split at h <;> first | (cases h; done) | skip
  rename_i a b ha hb
  obtain ⟨h1,rfl⟩:=YZ h
  refine .of_free rfl fun t ht=>?_
  simp only [Zb,← Zl (G := G) (x := x) ht.left,← Zl (G := G) (x := y) ht.right,ha,hb,h1,Option.map_some]
  rfl
 case idx x y =>
  simp only [Zb] at h
  split at h <;> first | (cases h; done) | skip
  rename_i a b ha hb
  obtain ⟨h1,rfl⟩:=YZ h
  refine .of_free rfl fun t ht=>?_
  simp only [Zb,← Zl (G := G) (x := x) ht.left,← Zl (G := G) (x := y) ht.right,ha,hb,h1,Option.map_some]
  rfl
 case min xs =>
  simp only [Zb] at h
  split at h <;> first | (cases h; done) | skip
  rename_i n l hxs
  obtain ⟨u,h1,h2⟩:=Option.map_eq_some_iff.1 h
  cases h2
  refine .of_free rfl fun t ht=>?_
  simp only [Zb,← XN (G := G) (xs := xs) ht,hxs,h1,Option.map_some]
  rfl
 case max xs =>
  simp only [Zb] at h
  split at h <;> first | (cases h; done) | skip
  rename_i n l hxs
  obtain ⟨u,h1,h2⟩:=Option.map_eq_some_iff.1 h
  cases h2
  refine .of_free rfl fun t ht=>?_
  simp only [Zb,← XN (G := G) (xs := xs) ht,hxs,h1,Option.map_some]
  rfl
 case ldc x =>
  simp only [Zb] at h
  split at h <;> first | (cases h; done) | skip
  rename_i a ha
  obtain ⟨h1,rfl⟩:=YZ h
  refine .of_look rfl fun t ht hl=>?_
  simp only [Zb,← Zl (G := G) (x := x) ht,ha,hl.1 _ _ h1,Option.map_some]
  rfl
 case lda n x =>
  simp only [Zb] at h
  split at h <;> first | (cases h; done) | skip
  rename_i a ha
  obtain ⟨h1,rfl⟩:=YZ h
  refine .of_look rfl fun t ht hl=>?_
  simp only [Zb,← Zl (G := G) (x := x) ht,ha,hl.2 _ _ _ h1,Option.map_some]
  rfl
 case len sh x =>
  simp only [Zb] at h
  split at h <;> first | (cases h; done) | skip
  rename_i a ha
  obtain ⟨h1,rfl⟩:=YZ h
  refine .of_read rfl fun t ht hl=>?_
  have e:Ih t.hp sh a=some v:=by rw [hl]; exact h1
  simp only [Zb,← Zl (G := G) (x := x) ht,ha,e,Option.map_some]
  rfl
 case conv c x =>
  simp only [Zb] at h
  split at h <;> first | (cases h; done) | skip
  rename_i a ha
  obtain ⟨h1,rfl⟩:=YZ h
  refine .of_read rfl fun t ht hl=>?_
  have e:Jo t.hp c a=some v:=by rw [hl]; exact h1
  simp only [Zb,← Zl (G := G) (x := x) ht,ha,e,Option.map_some]
  rfl
 case app k b i x =>
  simp only [Zb] at h
  split at h <;> first | (cases h; done) | skip
  rename_i k' r a h0 ha
  split at h <;> first | (cases h; done) | skip
  rename_i k'' r' h1
  split at h <;> first | (cases h; done) | skip
  rename_i hc
  cases h
  refine .of_read rfl fun t ht hl=>?_
  have e0:=ht i (by simp [Qq])
  have e1:Agree (oR x) s.sl t.sl:=fun j hj=>ht j (List.mem_cons_of_mem _ hj)
  have e:rowsOf t.hp a=some (k'',r'):=by rw [hl]; exact h1
  simp only [Zb,← Zl (G := G) (x := x) e1,← e0,h0,ha,e]
  rw [if_pos hc]
  rfl
 case apps b i x =>
  simp only [Zb] at h
  split at h <;> first | (cases h; done) | skip
  rename_i k' r l h0 ha
  split at h <;> first | (cases h; done) | skip
  rename_i hc
  cases h
  refine .of_free rfl fun t ht=>?_
  have e0:=ht i (by simp [Qq])
  have e1:Agree (oR x) s.sl t.sl:=fun j hj=>ht j (List.mem_cons_of_mem _ hj)
  simp only [Zb,← Zl (G := G) (x := x) e1,← e0,h0,ha]
  rw [if_pos hc]
  rfl
 case appn k b x =>
  simp only [Zb] at h
  split at h <;> first | (cases h; done) | skip
  rename_i a ha
  split at h <;> first | (cases h; done) | skip
  rename_i k'' r' h1
  split at h <;> first | (cases h; done) | skip
  rename_i hc
  cases h
  refine .of_read rfl fun t ht hl=>?_
  have e:rowsOf t.hp a=some (k'',r'):=by rw [hl]; exact h1
  simp only [Zb,← Zl (G := G) (x := x) ht,ha,e]
  rw [if_pos hc]
  rfl
 case call f args =>
  split at hk <;> first | (cases hk; done) | skip
  rename_i hn
  cases hk
  simp only [Zb] at h
  split at h <;> first | (cases h; done) | skip
  rename_i g first caps vs sl hf hvs
  split at h <;> first | (cases h; done) | skip
  rename_i u hp e hcall
  cases h
  obtain ⟨rfl,rfl⟩:=hq _ _ _ _ _ _ hcall
  have hall:(args.all fun | .inr _=>true | .inl _=>false)=true:=hn
  obtain ⟨rfl,_⟩:=UA (G := G) (m := s.sl) hall (fun _ _=>rfl) hvs
  refine .of_read rfl fun t ht hl=>?_
  obtain ⟨_,e2⟩:=UA (G := G) hall ht.right hvs
  have hcall':=hcall
  rw [← hl] at hcall'
  simp only [Zb,← Zl (G := G) (x := f) ht.left,hf,e2,hcall']
  rfl
 case st n x y =>
  simp only [Zb] at h
  split at h <;> first | (cases h; done) | skip
  rename_i g o a ha hb
  split at h <;> first | (cases h; done) | skip
  rename_i cs ty hg
  split at h <;> first | (cases h; done) | skip
  rename_i hc
  cases h
  refine .of_set rfl rfl fun t ht h1 h2 h3=>?_
  simp only [Zb,← Zl (G := G) (x := x) ht.left,← Zl (G := G) (x := y) ht.right,ha,hb,h1,hg,Za.note,h2,h3]
  rw [if_pos hc]
  rfl
 case stt x i =>
  simp only [Zb] at h
  split at h <;> first | (cases h; done) | skip
  rename_i g o a ha hb
  split at h <;> first | (cases h; done) | skip
  rename_i cs ty hg
  split at h <;> first | (cases h; done) | skip
  rename_i hc
  cases h
  refine .of_set rfl rfl fun t ht h1 h2 h3=>?_
  have e0:=ht i (by simp [Qq])
  have e1:Agree (oR x) s.sl t.sl:=fun j hj=>ht j (List.mem_cons_of_mem _ hj)
  simp only [Zb,← Zl (G := G) (x := x) e1,← e0,ha,hb,h1,hg,Za.note,Za.let_,h2,h3]
  rw [if_pos hc]
  rfl
 case copy k x y =>
  simp only [Zb] at h
  split at h <;> first | (cases h; done) | skip
  ·rename_i g off len k'' a ha hb
   split at h <;> first | (cases h; done) | skip
   rename_i k' r cs ty hr hg
   split at h <;> first | (cases h; done) | skip
   rename_i hc
   cases h
   refine .of_set rfl rfl fun t ht h1 h2 h3=>?_
   simp only [Zb,← Zl (G := G) (x := x) ht.left,← Zl (G := G) (x := y) ht.right,ha,hb,h1,hr,hg,Za.note,h2,h3]
   rw [if_pos hc]
   rfl
  ·rename_i a ha hb
   split at h <;> first | (cases h; done) | skip
   rename_i k' r hr
   split at h <;> first | (cases h; done) | skip
   rename_i hc
   cases h
   refine .of_set rfl rfl fun t ht h1 h2 h3=>?_
   simp only [Zb,← Zl (G := G) (x := x) ht.left,← Zl (G := G) (x := y) ht.right,ha,hb,h1,hr]
   rw [if_pos hc,← h1,← h2]
   rfl
 case ldt x =>
  simp only [Zb] at h
  split at h <;> first | (cases h; done) | skip
  rename_i g o ha
  split at h <;> first | (cases h; done) | skip
  rename_i cs ty hg
  split at h <;> first | (cases h; done) | skip
  rename_i u hu
  cases h
  obtain ⟨l1,l2⟩:=Qo.mark hg hu
  have hlt:=(List.getElem?_eq_some_iff.1 hg).1
  refine ⟨rfl,rfl,fun t ht h1 h2 h3=>?_,(fun h=>h.elim),(fun h=>by cases h),(fun h=>by cases h),(fun h=>h.elim),(fun h=>by cases h),fun _=>⟨by simp,l1,l2,fun t obs ht h1 h2 h3=>?_⟩⟩
  ·simp only [Zb,← Zl (G := G) (x := x) ht,ha,h1,hg,hu,Za.note,h2,h3]
   rfl
  ·have e:(s.hp ++ obs)[g]? = some (.cells cs ty):=by rw [List.getElem?_append_left hlt]; exact hg
   simp only [Zb,← Zl (G := G) (x := x) ht,ha,h1,e,hu,Za.note,h2,h3,List.set_append_left _ _ hlt]
   rfl
 case lit e k parts =>
  cases parts with
  | nil =>
   simp only [hkind,Option.some.injEq] at hk
   subst hk
   have key:∀ t:Za,Zb G call t (.lit e k [])=some (.own k [],t):=fun t=>rfl
   rw [key] at h
   cases h
   exact .of_free rfl fun t _=>key t
  | cons p0 ps =>
  simp only [hkind,Option.some.injEq] at hk
  subst hk
  generalize hps:p0 :: ps=parts at *
  simp only [Zb] at h
  split at h <;> first | (cases h; done) | skip
  rename_i vs hvs
  split at h
  ·rename_i hc
   cases h
   have key:∀ t:Za,Agree (Qq (.lit e k parts)) s.sl t.sl→Zb G call t (.lit e k parts)=some (.own k (vs.map fun v=>v.cells.map AV.ro),t):=fun t ht=>by
    simp only [Zb,← XN (G := G) (xs := parts) ht,hvs]
    rw [if_pos hc]
   refine ⟨rfl,rfl,fun t ht h1 h2 h3=>?_,(fun h=>h.elim),(fun h=>by cases h),(fun h=>by cases h),(fun h=>h.elim),fun _=>⟨rfl,[],by simp,fun t ht _=>?_⟩,(fun h=>by cases h)⟩
   ·rw [key t ht,← h1,← h2]; rfl
   ·rw [key t ht,List.append_nil]; rfl
  ·rename_i hc0
   split at h <;> first | (cases h; done) | skip
   rename_i hc
   cases h
   have key:∀ t:Za,Agree (Qq (.lit e k parts)) s.sl t.sl→Zb G call t (.lit e k parts)=some (.arr t.hp.length 0 vs.length k,{ t with hp:=t.hp ++ [.cells (vs.map AV.cells).flatten e] }):=fun t ht=>by
    simp only [Zb,← XN (G := G) (xs := parts) ht,hvs]
    rw [if_neg hc0,if_pos hc]
   refine ⟨rfl,rfl,fun t ht h1 h2 h3=>?_,(fun h=>h.elim),(fun h=>by cases h),(fun h=>by cases h),(fun h=>h.elim),fun _=>⟨rfl,_,rfl,fun t ht hl=>?_⟩,(fun h=>by cases h)⟩
   ·rw [key t ht,h1,h2]; rfl
   ·rw [key t ht,hl]; rfl
theorem ZcJ {s t:Za}{g:Option (Nat×Bool)}(h:Agree (match g with | some (i,_)=>[i] | none=>[]) s.sl t.sl):Yv s g=Yv t g:=by
 cases g with
 | none=>rfl
 | some p =>
  obtain ⟨i,b⟩:=p
  simp only [Yv]
  rw [h i (by simp)]
def NF (d:Option Nat)(v:AV)(l:List AV):List AV:=match d with | some d=>l.set d v | none=>l
theorem GY (d:Option Nat)(v:AV):MG d.toList (NF d v):=by
 cases d with
 | none=>exact MG.id _
 | some d=>exact MG.set d v
theorem Yc (s:Za)(d:Option Nat)(v:AV):s.put d v=⟨NF d v s.sl,s.hp,s.ef,s.bs⟩:=by cases d <;> rfl
structure StepA (G:Nat→Option (List AV))(call:FuncId→List AV→List Zp→Option (AV×List Zp×Eff))(o:ZH)(k:HK)(s s':Za)(f:List AV→List AV):Prop where
 loc:MG (Qi o) f
 sl:s'.sl=f s.sl
 bs:s'.bs=s.bs
 any:∀ t,Agree (YY o) s.sl t.sl→t.hp=s.hp→t.ef=s.ef→t.bs=s.bs→Zq G call o t=some ⟨f t.sl,s'.hp,s'.ef,t.bs⟩
 still:(match k with | .free | .look | .read=>True | _=>False)→s'.hp=s.hp∧s'.ef=s.ef
 free:k=.free→∀ t,Agree (YY o) s.sl t.sl→Zq G call o t=some ⟨f t.sl,t.hp,t.ef,t.bs⟩
 look:k=.look→∀ t,Agree (YY o) s.sl t.sl→Qo s.hp t.hp→Zq G call o t=some ⟨f t.sl,t.hp,t.ef,t.bs⟩
 read:(match k with | .free | .look | .read=>True | _=>False)→∀ t,Agree (YY o) s.sl t.sl→t.hp=s.hp→Zq G call o t=some ⟨f t.sl,t.hp,t.ef,t.bs⟩
 alloc:k=.alloc→s'.ef=s.ef∧∃ obs,s'.hp=s.hp ++ obs∧∀ t,Agree (YY o) s.sl t.sl→t.hp.length=s.hp.length→Zq G call o t=some ⟨f t.sl,t.hp ++ obs,t.ef,t.bs⟩
 mark:k=.mark→s'.hp.length=s.hp.length∧Qo s.hp s'.hp∧Qo s'.hp s.hp∧∀ t obs,Agree (YY o) s.sl t.sl→t.hp=s.hp ++ obs→t.ef=s.ef→t.bs=s.bs→Zq G call o t=some ⟨f t.sl,s'.hp ++ obs,s'.ef,t.bs⟩
theorem Sv (hq:∀ f args hp v hp' e,call f args hp=some (v,hp',e)→hp'=hp∧e=none){o:ZH}{k:HK}{s s':Za}(hk:hkind o.op=some k)(h:Zq G call o s=some s'):∃ f,StepA G call o k s s' f:=by
 have wg:∀ t:Za,Agree (YY o) s.sl t.sl→Yv t o.guard=Yv s o.guard:=fun t ht=>(ZcJ ht.left).symm
 simp only [Zq] at h
 split at h <;> first | (cases h; done) | skip
 ·rename_i hw
  split at h <;> first | (cases h; done) | skip
  rename_i v s1 he
  obtain rfl:=Option.some.inj h
  have S:=ZiT hq hk he
  have run:∀ (t:Za) (hp:List Zp) (ef:Eff),Yv t o.guard=some true→Zb G call t o.op=some (v,⟨tkF o.op t.sl,hp,ef,t.bs⟩)→Zq G call o t=some ⟨NF o.dst v (tkF o.op t.sl),hp,ef,t.bs⟩:=fun t hp ef h1 h2=>by
   simp only [Zq,h1,h2,Yc]
  refine ⟨fun l=>NF o.dst v (tkF o.op l),(Zoy o.op).comp (GY o.dst v),by rw [Yc,S.sl],by rw [Yc]; exact S.bs,fun t ht h1 h2 h3=>?_,fun hs=>?_,fun hk t ht=>?_,fun hk t ht hl=>?_,fun hk t ht hl=>?_,fun hk=>?_,fun hk=>?_⟩
  ·rw [Yc]; exact run t _ _ ((wg t ht).trans hw) (S.any t ht.right h1 h2 h3)
  ·rw [Yc]; exact S.still hs
  ·exact run t _ _ ((wg t ht).trans hw) (S.free hk t ht.right)
  ·exact run t _ _ ((wg t ht).trans hw) (S.look hk t ht.right hl)
  ·exact run t _ _ ((wg t ht).trans hw) (S.read hk t ht.right hl)
  ·obtain ⟨e1,obs,e2,e3⟩:=S.alloc hk
   rw [Yc]
   exact ⟨e1,obs,e2,fun t ht hl=>run t _ _ ((wg t ht).trans hw) (e3 t ht.right hl)⟩
  ·obtain ⟨e1,e2,e3,e4⟩:=S.mark hk
   rw [Yc]
   exact ⟨e1,e2,e3,fun t obs ht h1 h2 h3=>run t _ _ ((wg t ht).trans hw) (e4 t obs ht.right h1 h2 h3)⟩
 ·rename_i hw
  obtain rfl:=Option.some.inj h
  have run:∀ t:Za,Yv t o.guard=some false→Zq G call o t=some ⟨NF o.dst .undef t.sl,t.hp,t.ef,t.bs⟩:=fun t h1=>by
   simp only [Zq,h1,Yc]
  have hl:MG (Qi o) (NF o.dst .undef):=by
   have:=(MG.id (XM o.op)).comp (GY o.dst .undef)
   exact this
  rw [Yc]
  refine ⟨NF o.dst .undef,hl,rfl,rfl,fun t ht h1 h2 h3=>?_,fun _=>⟨rfl,rfl⟩,fun _ t ht=>run t ((wg t ht).trans hw),fun _ t ht _=>run t ((wg t ht).trans hw),fun _ t ht _=>run t ((wg t ht).trans hw),fun _=>⟨rfl,[],by simp,fun t ht _=>?_⟩,fun _=>⟨rfl,.refl _,.refl _,fun t obs ht h1 h2 h3=>?_⟩⟩
  ·rw [run t ((wg t ht).trans hw),h1,h2]
  ·rw [run t ((wg t ht).trans hw),List.append_nil]
  ·rw [run t ((wg t ht).trans hw),h1,h2]
theorem ZlA (hq:∀ f args hp v hp' e,call f args hp=some (v,hp',e)→hp'=hp∧e=none){o1 o2:ZH}{s s1 s2:Za}(hc:Zb8 o1 o2=true)(h1:Zq G call o1 s=some s1)(h2:Zq G call o2 s1=some s2) :
  ∃ u,Zq G call o2 s=some u∧Zq G call o1 u=some s2:=by
 simp only [Zb8,Bool.and_eq_true] at hc
 obtain ⟨⟨⟨hk,ha⟩,hb⟩,hd⟩:=hc
 split at hk <;> first | (cases hk; done) | skip
 rename_i k1 k2 hk1 hk2
 obtain ⟨f1,S1⟩:=Sv hq hk1 h1
 obtain ⟨f2,S2⟩:=Sv hq hk2 h2
 have A2:Agree (YY o2) s1.sl s.sl:=by rw [S1.sl]; exact (Agree.of_loc S1.loc ha s.sl).symm
 have A1:∀ u:Za,u.sl=f2 s.sl→Agree (YY o1) s.sl u.sl:=fun u hu=>by rw [hu]; exact Agree.of_loc S2.loc hd s.sl
 have fin:∀ (u:Za) (hp:List Zp) (ef:Eff),u.sl=f2 s.sl→u.bs=s.bs→hp=s2.hp→ef=s2.ef→Zq G call o1 u=some ⟨f1 u.sl,hp,ef,u.bs⟩→Zq G call o1 u=some s2:=fun u hp ef e1 e2 e3 e4 h=>by
  rw [h]
  have q1:f1 u.sl=s2.sl:=by rw [e1,S2.sl,S1.sl]; exact S1.loc.swap S2.loc hb s.sl
  have q2:u.bs=s2.bs:=by rw [e2,S2.bs,S1.bs]
  rw [q1,q2,e3,e4]
 cases k1 with
 | free =>
  obtain ⟨p1,p2⟩:=S1.still trivial
  have e:=S2.any s A2 p1.symm p2.symm S1.bs.symm
  exact ⟨_,e,fin _ _ _ rfl rfl rfl rfl (S1.free rfl _ (A1 _ rfl))⟩
 | look =>
  obtain ⟨p1,p2⟩:=S1.still trivial
  have e:=S2.any s A2 p1.symm p2.symm S1.bs.symm
  cases k2 with
  | free=>obtain ⟨q1,q2⟩:=S2.still trivial; exact ⟨_,e,fin _ _ _ rfl rfl rfl rfl (S1.look rfl _ (A1 _ rfl) (by show Qo s.hp s2.hp; rw [q1,p1]; exact .refl _))⟩
  | look=>obtain ⟨q1,q2⟩:=S2.still trivial; exact ⟨_,e,fin _ _ _ rfl rfl rfl rfl (S1.look rfl _ (A1 _ rfl) (by show Qo s.hp s2.hp; rw [q1,p1]; exact .refl _))⟩
  | read=>obtain ⟨q1,q2⟩:=S2.still trivial; exact ⟨_,e,fin _ _ _ rfl rfl rfl rfl (S1.look rfl _ (A1 _ rfl) (by show Qo s.hp s2.hp; rw [q1,p1]; exact .refl _))⟩
  | mark=>obtain ⟨_,q2,_⟩:=S2.mark rfl; exact ⟨_,e,fin _ _ _ rfl rfl rfl rfl (S1.look rfl _ (A1 _ rfl) (by show Qo s.hp s2.hp; rw [← p1]; exact q2))⟩
  | alloc =>
   obtain ⟨_,obs,q2,_⟩:=S2.alloc rfl
   refine ⟨_,e,fin _ _ _ rfl rfl rfl rfl (S1.look rfl _ (A1 _ rfl) ?_)⟩
   show Qo s.hp s2.hp
   rw [q2,p1]
   exact .of_get fun g cs t hg=>⟨cs,t,by rw [List.getElem?_append_left (List.getElem?_eq_some_iff.1 hg).1]; exact hg,rfl⟩
  | set=>cases hk
 | read =>
  obtain ⟨p1,p2⟩:=S1.still trivial
  have e:=S2.any s A2 p1.symm p2.symm S1.bs.symm
  cases k2 with
  | free=>obtain ⟨q1,q2⟩:=S2.still trivial; exact ⟨_,e,fin _ _ _ rfl rfl rfl rfl (S1.read trivial _ (A1 _ rfl) (q1.trans p1))⟩
  | look=>obtain ⟨q1,q2⟩:=S2.still trivial; exact ⟨_,e,fin _ _ _ rfl rfl rfl rfl (S1.read trivial _ (A1 _ rfl) (q1.trans p1))⟩
  | read=>obtain ⟨q1,q2⟩:=S2.still trivial; exact ⟨_,e,fin _ _ _ rfl rfl rfl rfl (S1.read trivial _ (A1 _ rfl) (q1.trans p1))⟩
  | mark=>cases hk
  | alloc=>cases hk
  | set=>cases hk
 | set =>
  cases k2 with
  | free =>
   obtain ⟨q1,q2⟩:=S2.still trivial
   have e:=S2.free rfl s A2
   exact ⟨_,e,fin _ _ _ rfl rfl q1.symm q2.symm (S1.any _ (A1 _ rfl) rfl rfl rfl)⟩
  | _=>cases hk
 | alloc =>
  cases k2 with
  | free =>
   obtain ⟨q1,q2⟩:=S2.still trivial
   have e:=S2.free rfl s A2
   exact ⟨_,e,fin _ _ _ rfl rfl q1.symm q2.symm (S1.any _ (A1 _ rfl) rfl rfl rfl)⟩
  | _=>cases hk
 | mark =>
  obtain ⟨m1,m2,m3,m4⟩:=S1.mark rfl
  cases k2 with
  | free =>
   obtain ⟨q1,q2⟩:=S2.still trivial
   have e:=S2.free rfl s A2
   exact ⟨_,e,fin _ _ _ rfl rfl q1.symm q2.symm (S1.any _ (A1 _ rfl) rfl rfl rfl)⟩
  | look =>
   obtain ⟨q1,q2⟩:=S2.still trivial
   have e:=S2.look rfl s A2 m3
   exact ⟨_,e,fin _ _ _ rfl rfl q1.symm q2.symm (S1.any _ (A1 _ rfl) rfl rfl rfl)⟩
  | alloc =>
   obtain ⟨q1,obs,q2,q3⟩:=S2.alloc rfl
   have e:=q3 s A2 m1.symm
   refine ⟨_,e,fin _ _ _ rfl rfl q2.symm q1.symm (m4 _ obs (A1 _ rfl) rfl rfl rfl)⟩
  | _=>cases hk
end
end Go.Proofs.YtleomfgijkapfaaGreatDoor.Abs
end
section
namespace Go.Proofs.YtleomfgijkapfaaGreatDoor.Abs
open Go Go.RowKit
section
variable {P:Program}{G:Nat→Option (List AV)}{call:FuncId→List AV→List Zp→Option (AV×List Zp×Eff)}{E:Entry}{s s':Za}{Γ:Zo}{a:Act}{w:World}{hand:Nat→Bool}{draw:Bool}
def Ie (ops:Array Oper):Option (Nat×Bool)→Option (Option (Nat×Bool))
 | none=>some none
 | some (j,want)=>match (ops[j]?).bind (·.dst) with
  | some d=>some (some (d,want))
  | none=>none
theorem WI (hI:Inv E s Γ a w){ops:Array Oper}{o:Oper}{g:Option (Nat×Bool)}{b:Bool}(hg:Ie ops o.guard=some g)(h:Yv s g=some b):Region.wanted o (yielded ops a.tmps)=b:=by
 unfold Region.wanted
 cases hq:o.guard with
 | none =>
  rw [hq] at hg
  obtain rfl:=Option.some.inj hg
  simp only [Yv,Option.some.injEq] at h
  exact h
 | some p =>
  obtain ⟨j,want⟩:=p
  rw [hq] at hg
  simp only [Ie] at hg
  split at hg
  ·rename_i d hd
   obtain rfl:=Option.some.inj hg
   simp only [Yv] at h
   split at h <;> first | (cases h; done) | skip
   ·rename_i c hc
    obtain rfl:=Option.some.inj h
    have hr:=hI.slots.rep d _ hc
    have hlt:d < a.tmps.size:=by rw [hI.slots.size]; exact Ze hc
    have ht:a.tmps[d]? = some (a.tmps.getD d Go.undef):=Yd hlt
    generalize a.tmps.getD d Go.undef=u at hr ht
    cases hr
    simp only [yielded,hd,Option.bind_some,ht]
    cases c <;> cases want <;> rfl
   ·rename_i hc
    obtain rfl:=Option.some.inj h
    have hr:=hI.slots.rep d _ hc
    have hlt:d < a.tmps.size:=by rw [hI.slots.size]; exact Ze hc
    have ht:a.tmps[d]? = some (a.tmps.getD d Go.undef):=Yd hlt
    generalize a.tmps.getD d Go.undef=u at hr ht
    cases hr
    simp only [yielded,hd,Option.bind_some,ht]
    rfl
  ·cases hg
theorem I8 {ops:Array Oper}{o:Oper}{l:List Oper}{aops:List ZH}(h:Xd P hand draw ops (o :: l)=some aops) :
  ∃ g r,Ie ops o.guard=some g∧Xd P hand draw ops l=some r∧aops=⟨o.dst,(cOp P hand draw o).getD .bad,g⟩ :: r:=by
 simp only [Xd] at h
 split at h <;> first | (cases h; done) | skip
 rename_i g r h2 h3
 refine ⟨g,r,?_,h3,(Option.some.inj h).symm⟩
 rw [← h2]
 unfold Ie
 cases o.guard with
 | none=>rfl
 | some p=>rfl
theorem Qu {o:Oper}{s s':Za}{v:AV}{call:FuncId→List AV→List Zp→Option (AV×List Zp×Eff)}(h:Zb G call s ((cOp P hand draw o).getD .bad)=some (v,s')):cOp P hand draw o=some ((cOp P hand draw o).getD .bad):=by
 cases hc:cOp P hand draw o with
 | none=>rw [hc] at h; simp [Zb] at h
 | some ao=>rfl
theorem Zf7 (hG:GOk G E.W0)(hS:Z5 P E.W0 call){ops:Array Oper}{Q:Exit→Act→World→Prop}:∀ {l:List Oper} {aops:List ZH} (k:Nat) {s s':Za} {Γ:Zo} {a:Act} {w:World},(∀ j,l[j]? = ops[k + j]?) →
  Xd P hand draw ops l=some aops→Z8 G call aops s=some s'→Inv E s Γ a w→(∀ Γ a w,Inv E s' Γ a w→Q .normal a w)→wpOps P ops Q (List.range' k l.length) a w
 | [],aops,k,s,s',Γ,a,w,_,hc,h,hI,hQ=>by
  obtain rfl:=Option.some.inj (by simpa [Xd] using hc:some []=some aops)
  obtain rfl:=Option.some.inj (by simpa [Z8] using h:some s=some s')
  exact hQ Γ a w hI
 | o :: l,aops,k,s,s',Γ,a,w,hl,hc,h,hI,hQ=>by
  obtain ⟨g,r,h2,h3,rfl⟩:=I8 hc
  have ho:ops[k]? = some o:=by simpa using (hl 0).symm
  simp only [Z8] at h
  split at h <;> first | (cases h; done) | skip
  rename_i s1 he
  have hl':∀ j,l[j]? = ops[k + 1 + j]?:=fun j=>by
   have:=hl (j + 1)
   simpa [Nat.add_assoc,Nat.add_comm 1 j] using this
  simp only [List.length_cons,List.range'_succ,wpOps,ho]
  simp only [Zq] at he
  split at he <;> first | (cases he; done) | skip
  ·rename_i hw
   rw [WI hI h2 hw]
   split at he <;> first | (cases he; done) | skip
   rename_i v s2 hev
   obtain rfl:=Option.some.inj he
   simp only [if_true]
   refine .inl (ZiU hG hS hI (Qu hev) hev fun Γ' cv w' i1 r1 o1=>?_)
   obtain ⟨Γ2,i2⟩:=i1.put o.dst r1 o1
   exact Zf7 hG hS (k + 1) hl' h3 h i2 hQ
  ·rename_i hw
   rw [WI hI h2 hw]
   obtain rfl:=Option.some.inj he
   simp only [Bool.false_eq_true,if_false]
   obtain ⟨Γ2,i2⟩:=hI.put o.dst (v := .undef) (cv := Go.undef) .undef (.of_ne (by simp))
   exact Zf7 hG hS (k + 1) hl' h3 h i2 hQ
theorem N9 (hG:GOk G E.W0)(hS:Z5 P E.W0 call){ops:Array Oper}{Q:Exit→Act→World→Prop}{w:World}:∀ {l:List Oper} {aops:List ZH} {s s':Za} {Γ:Zo} {a:Act},
  Xd P hand draw ops l=some aops→BZ aops=true→Z8 G (WE call) aops s=some s'→Inv E s Γ a w→(∀ Γ a w,Inv E s' Γ a w→Q .normal a w) →
  wpQuiet P ops (Behind w) (fun a'=>∀ w',Behind w w'→Q .normal a' w') l a
 | [],aops,s,s',Γ,a,hc,_,h,hI,hQ=>by
  obtain rfl:=Option.some.inj (by simpa [Xd] using hc:some []=some aops)
  obtain rfl:=Option.some.inj (by simpa [Z8] using h:some s=some s')
  exact fun w' hw'=>hQ Γ a w' (hw'.inv hI)
 | o :: l,aops,s,s',Γ,a,hc,hq,h,hI,hQ=>by
  obtain ⟨g,r,h2,h3,rfl⟩:=I8 hc
  simp only [BZ,Bool.and_eq_true] at hq
  simp only [Z8] at h
  split at h <;> first | (cases h; done) | skip
  rename_i s1 he
  simp only [wpQuiet]
  simp only [Zq] at he
  split at he <;> first | (cases he; done) | skip
  ·rename_i hw
   rw [WI hI h2 hw]
   split at he <;> first | (cases he; done) | skip
   rename_i v s2 hev
   obtain rfl:=Option.some.inj he
   simp only [if_true]
   refine Zf5 hG hS hI (Qu hev) hq.1.1 hq.1.2 hev fun cv e r1 o1=>?_
   subst e
   obtain ⟨Γ2,i2⟩:=hI.put o.dst r1 (o1 .res)
   exact N9 hG hS h3 hq.2 h i2 hQ
  ·rename_i hw
   rw [WI hI h2 hw]
   obtain rfl:=Option.some.inj he
   simp only [Bool.false_eq_true,if_false]
   obtain ⟨Γ2,i2⟩:=hI.put o.dst (v := .undef) (cv := Go.undef) .undef (.of_ne (by simp))
   exact N9 hG hS h3 hq.2 h i2 hQ
theorem bubble (hq:∀ f args hp v hp' e,call f args hp=some (v,hp',e)→hp'=hp∧e=none){o:ZH}{l2:List ZH}{sF:Za}:∀ {l1:List ZH} {s:Za},(∀ x ∈ l1,Zb8 x o=true)→Z8 G call (l1 ++ o :: l2) s=some sF →
  ∃ u,Zq G call o s=some u∧Z8 G call (l1 ++ l2) u=some sF
 | [],s,_,h=>by
  simp only [List.nil_append,Z8] at h
  split at h <;> first | (cases h; done) | skip
  rename_i u hu
  exact ⟨u,hu,h⟩
 | x :: l1,s,hx,h=>by
  simp only [List.cons_append,Z8] at h
  split at h <;> first | (cases h; done) | skip
  rename_i s1 h1
  obtain ⟨u1,h2,h3⟩:=bubble hq (fun y hy=>hx y (List.mem_cons_of_mem _ hy)) h
  obtain ⟨u,h4,h5⟩:=ZlA hq (hx x (List.mem_cons_self ..)) h1 h2
  refine ⟨u,h4,?_⟩
  simp only [List.cons_append,Z8,h5]
  exact h3
theorem Fp:∀ f args hp v hp' e,WE call f args hp=some (v,hp',e)→hp'=hp∧e=none:=by
 intro f args hp v hp' e h
 unfold WE at h
 split at h <;> first | (cases h; done) | skip
 split at h <;> first | (cases h; done) | skip
 cases h
 exact ⟨rfl,rfl⟩
theorem Qy:∀ {l:List Oper} {aops:List ZH} {ops:Array Oper},Xd P hand draw ops l=some aops→l.length=aops.length∧∀ (i:Nat) (o:Oper),l[i]? = some o→∃ g,Ie ops o.guard=some g∧aops[i]? = some ⟨o.dst,(cOp P hand draw o).getD .bad,g⟩
 | [],aops,ops,h=>by
  obtain rfl:=Option.some.inj (by simpa [Xd] using h:some []=some aops)
  exact ⟨rfl,fun i o hi=>by simp at hi⟩
 | o :: l,aops,ops,h=>by
  obtain ⟨g,r,h2,h3,rfl⟩:=I8 h
  obtain ⟨h4,h5⟩:=Qy h3
  refine ⟨by simp [h4],fun i o' hi=>?_⟩
  cases i with
  | zero=>cases hi; exact ⟨g,h2,rfl⟩
  | succ i=>exact h5 i o' hi
theorem Zf6 (hG:GOk G E.W0)(hS:Z5 P E.W0 call){ops:Array Oper}{o:Oper}{g:Option (Nat×Bool)}{u:Za}{K:Act→World→Prop}{Q:Exit→Act→World→Prop}(hn:noHand ((cOp P hand draw o).getD .bad)=true)(h2:Ie ops o.guard=some g)
  (he:Zq G (WE call) ⟨o.dst,(cOp P hand draw o).getD .bad,g⟩ s=some u) (hI:Inv E s Γ a w) (hK:∀ Γ a w,Inv E u Γ a w→K a w) :
  if Region.wanted o (yielded ops a.tmps)=true then o.wp P a w K Q∨(o.asks P a w∧LetsOut Q) else K (a.put o.dst Go.undef) w:=by
 simp only [Zq] at he
 split at he <;> first | (cases he; done) | skip
 ·rename_i hw
  rw [WI hI h2 hw]
  split at he <;> first | (cases he; done) | skip
  rename_i v s2 hev
  obtain rfl:=Option.some.inj he
  simp only [if_true]
  refine .inl ?_
  by_cases hc:∃ f args,(cOp P hand draw o).getD .bad=.call f args
  ·obtain ⟨f,args,hcall⟩:=hc
   have hqt:NK ((cOp P hand draw o).getD .bad)=true:=by rw [hcall]; rfl
   refine Oper.wp_of_quiet (C := Behind w) (K := fun a'=>∀ w',Behind w w'→K a' w') (Behind.refl w) (fun a' w' hw' h=>h w' hw') ?_
   refine Zf5 hG hS hI (Qu hev) hqt hn hev fun cv e r1 o1=>?_
   subst e
   obtain ⟨Γ2,i2⟩:=hI.put o.dst r1 (o1 .res)
   exact fun w' hw'=>hK _ _ w' (hw'.inv i2)
  ·have hev':Zb G call s ((cOp P hand draw o).getD .bad)=some (v,s2):=by
    rw [← hev]
    cases hx:(cOp P hand draw o).getD .bad <;> first | rfl | exact absurd ⟨_,_,hx⟩ hc
   refine ZiU hG hS hI (Qu hev') hev' fun Γ' cv w' i1 r1 o1=>?_
   obtain ⟨Γ2,i2⟩:=i1.put o.dst r1 o1
   exact hK _ _ _ i2
 ·rename_i hw
  rw [WI hI h2 hw]
  obtain rfl:=Option.some.inj he
  simp only [Bool.false_eq_true,if_false]
  obtain ⟨Γ2,i2⟩:=hI.put o.dst (v := .undef) (cv := Go.undef) .undef (.of_ne (by simp))
  exact hK _ _ _ i2
theorem Un {listed:Array Bool}{i:Nat}(h:listed.getD i true=false):listed.getD i false=false:=by
 rcases Nat.lt_or_ge i listed.size with h' | h'
 ·simp [h'] at h ⊢; exact h
 ·simp [Array.getElem?_eq_none h'] at h
def YF (n:Nat)(listed:Array Bool):List Nat:=(List.range n).filter fun i=>!listed.getD i true
theorem WQ (n:Nat)(listed:Array Bool):(YF n listed).Pairwise (· < ·):=List.Pairwise.filter _ List.pairwise_lt_range
theorem Yf {n i:Nat}{listed:Array Bool}:i ∈ YF n listed↔i < n∧listed.getD i true=false:=by simp [YF]
theorem Vt {n i:Nat}{listed:Array Bool}{l1 l2:List Nat}(h:YF n listed=l1 ++ i :: l2)(hi:i < listed.size):YF n (listed.setIfInBounds i true)=l1 ++ l2:=by
 have hs:=WQ n listed
 rw [h] at hs
 have h1:∀ j ∈ l1,j≠i:=fun j hj=>Nat.ne_of_lt ((List.pairwise_append.1 hs).2.2 j hj i (List.mem_cons_self ..))
 have h2:∀ j ∈ l2,j≠i:=fun j hj=>Nat.ne_of_gt ((List.pairwise_cons.1 (List.pairwise_append.1 hs).2.1).1 j hj)
 have e:YF n (listed.setIfInBounds i true)=(YF n listed).filter fun j=>decide (j≠i):=by
  unfold YF
  rw [List.filter_filter]
  refine List.filter_congr fun j _=>?_
  by_cases hji:j=i
  ·subst hji
   have:(listed.setIfInBounds j true).getD j true=true:=by simp [hi]
   simp [this]
  ·rw [getD_set_ne true (Ne.symm hji)]; simp [hji]
 rw [e,h,List.filter_append,List.filter_cons]
 simp only [ne_eq,not_true_eq_false,decide_false,Bool.false_eq_true,if_false]
 rw [List.filter_eq_self.2 (fun j hj=>by simpa using h1 j hj),List.filter_eq_self.2 (fun j hj=>by simpa using h2 j hj)]
theorem ZnN (hG:GOk G E.W0)(hS:Z5 P E.W0 call){ops:Array Oper}{bops:List ZH}{Q:Exit→Act→World→Prop}{sF:Za}(hc:Xd P hand draw ops ops.toList=some bops)(hd:AC ops bops=true)(hQ:∀ Γ a w,Inv E sF Γ a w→Q .normal a w) :
  ∀ (fuel:Nat) {listed:Array Bool} {s:Za} {Γ:Zo} {a:Act} {w:World},listed.size=ops.size→XF ops listed→(YF ops.size listed).length=fuel→Z8 G (WE call) ((YF ops.size listed).map fun i=>bops.getD i ⟨none,.bad,none⟩) s=some sF→Inv E s Γ a w→wpAny P .any ops Q fuel listed a w:=by
 simp only [AC,Bool.and_eq_true,List.all_eq_true,List.mem_range] at hd
 obtain ⟨⟨hord,hnh⟩,hpair⟩:=hd
 obtain ⟨hlen,hget⟩:=Qy hc
 intro fuel
 induction fuel with
 | zero =>
  intro listed s Γ a w hsz hcl hl h hI
  have hn:=List.eq_nil_of_length_eq_zero hl
  rw [hn] at h
  obtain rfl:=Option.some.inj (by simpa [Z8] using h:some s=some sF)
  refine ⟨List.eq_nil_iff_forall_not_mem.2 fun i hi=>?_,hQ _ _ _ hI⟩
  obtain ⟨h1,o,h2,_⟩:=mem_ready.1 hi
  have:i ∈ YF ops.size listed:=Yf.2 ⟨(Array.getElem?_eq_some_iff.1 h2).1,h1⟩
  rw [hn] at this
  cases this
 | succ fuel ih =>
  intro listed s Γ a w hsz hcl hl h hI
  have hlisted:∀ j,j < ops.size→listed.getD j true≠false→listed.getD j false=true:=fun j hj h=>by
   have hj':j < listed.size:=by omega
   simp [hj'] at h ⊢; exact h
  refine ⟨fun hr=>?_,fun i hi=>?_⟩
  ·obtain ⟨i,r,hir⟩:∃ i r,YF ops.size listed=i :: r:=by
    cases hx:YF ops.size listed with
    | nil=>rw [hx] at hl; cases hl
    | cons i r=>exact ⟨i,r,rfl⟩
   have him:=Yf.1 (show i ∈ YF ops.size listed by rw [hir]; exact List.mem_cons_self ..)
   have hoi:ops[i]? = some ops[i]:=Array.getElem?_eq_getElem him.1
   have hready:i ∈ Region.ready .any ops listed:=by
    refine mem_ready.2 ⟨him.2,_,hoi,fun e he hb=>?_⟩
    have:=hord i him.1
    rw [hoi] at this
    have hlt:=Array.all_eq_true'.1 this e he
    rw [hb] at hlt
    simp only [Bool.not_true,Bool.false_or,decide_eq_true_eq] at hlt
    refine hlisted e.on (by omega) fun hun=>?_
    have hm:=Yf.2 ⟨show e.on < ops.size by omega,hun⟩
    rw [hir] at hm
    have hs:=WQ ops.size listed
    rw [hir] at hs
    rcases List.mem_cons.1 hm with he | hm
    ·omega
    ·have:=(List.pairwise_cons.1 hs).1 _ hm
     omega
   rw [hr] at hready
   cases hready
  ·obtain ⟨hun,o,ho,hdeps⟩:=mem_ready.1 hi
   have hin:=(Array.getElem?_eq_some_iff.1 ho).1
   obtain ⟨l1,l2,hsplit⟩:=List.append_of_mem (Yf.2 ⟨hin,hun⟩)
   have hs:=WQ ops.size listed
   rw [hsplit] at hs
   obtain ⟨g,hg1,hg2⟩:=hget i o (by simpa using ho)
   have hbi:bops.getD i ⟨none,.bad,none⟩=⟨o.dst,(cOp P hand draw o).getD .bad,g⟩:=by rw [List.getD_eq_getElem?_getD,hg2]; rfl
   have hcomm:∀ x ∈ l1.map (fun i=>bops.getD i ⟨none,.bad,none⟩),Zb8 x ⟨o.dst,(cOp P hand draw o).getD .bad,g⟩=true:=fun x hx=>by
    obtain ⟨j,hj,rfl⟩:=List.mem_map.1 hx
    have hji:j < i:=(List.pairwise_append.1 hs).2.2 j hj i (List.mem_cons_self ..)
    have hjm:=Yf.1 (show j ∈ YF ops.size listed by rw [hsplit]; exact List.mem_append_left _ hj)
    have:=hpair i hin j hji
    rw [Bool.or_eq_true] at this
    rcases this with h1 | h1
    ·exfalso
     have h2:=hcl.ready ho hdeps (TZ h1)
     rw [Un hjm.2] at h2
     cases h2
    ·rw [hg2] at h1
     split at h1
     ·rename_i x y hx hy
      cases hy
      rw [List.getD_eq_getElem?_getD,hx]
      exact h1
     ·cases h1
   rw [hsplit,List.map_append,List.map_cons,hbi] at h
   obtain ⟨u,hu1,hu2⟩:=bubble Fp hcomm h
   rw [← List.map_append,← Vt hsplit (by omega)] at hu2
   have hkk:noHand ((cOp P hand draw o).getD .bad)=true:=hnh _ (List.mem_of_getElem? hg2)
   have hlen2:(YF ops.size (listed.setIfInBounds i true)).length=fuel:=by
    rw [Vt hsplit (by omega)]
    rw [hsplit] at hl
    simp at hl ⊢
    omega
   unfold wpOp
   simp only [ho]
   exact Zf6 hG hS hkk hg1 hu1 hI fun Γ' a' w' hI'=>ih (by simp [hsz]) (hcl.list ho hdeps) hlen2 hu2 hI'
theorem ZiW (hG:GOk G E.W0)(hS:Z5 P E.W0 call){ops:Array Oper}{o:Oper}{g:Option (Nat×Bool)}{u:Za}{K:Act→World→Prop}{Q:Exit→Act→World→Prop}(h2:Ie ops o.guard=some g)
  (he:Zq G call ⟨o.dst,(cOp P hand draw o).getD .bad,g⟩ s=some u) (hI:Inv E s Γ a w) (hK:∀ Γ a w,Inv E u Γ a w→K a w) :
  if Region.wanted o (yielded ops a.tmps)=true then o.wp P a w K Q∨(o.asks P a w∧LetsOut Q) else K (a.put o.dst Go.undef) w:=by
 simp only [Zq] at he
 split at he <;> first | (cases he; done) | skip
 ·rename_i hw
  rw [WI hI h2 hw]
  split at he <;> first | (cases he; done) | skip
  rename_i v s2 hev
  obtain rfl:=Option.some.inj he
  simp only [if_true]
  refine .inl (ZiU hG hS hI (Qu hev) hev fun Γ' cv w' i1 r1 o1=>?_)
  obtain ⟨Γ2,i2⟩:=i1.put o.dst r1 o1
  exact hK _ _ _ i2
 ·rename_i hw
  rw [WI hI h2 hw]
  obtain rfl:=Option.some.inj he
  simp only [Bool.false_eq_true,if_false]
  obtain ⟨Γ2,i2⟩:=hI.put o.dst (v := .undef) (cv := Go.undef) .undef (.of_ne (by simp))
  exact hK _ _ _ i2
def U0 (n size:Nat)(listed:Array Bool):List Nat:=(List.range size).filter fun i=>decide (n≤i) && !listed.getD i true
theorem Zc0 (n size:Nat)(listed:Array Bool):(U0 n size listed).Pairwise (· < ·):=List.Pairwise.filter _ List.pairwise_lt_range
theorem Tf {n size i:Nat}{listed:Array Bool}:i ∈ U0 n size listed↔i < size∧n≤i∧listed.getD i true=false:=by simp [U0]
theorem Zcz {n size i:Nat}{listed:Array Bool}(hi:i < n):U0 n size (listed.setIfInBounds i true)=U0 n size listed:=by
 unfold U0
 refine List.filter_congr fun j _=>?_
 by_cases hj:n≤j
 ·rw [getD_set_ne true (show i≠j by omega)]
 ·simp [hj]
theorem Zl3 {n size i:Nat}{listed:Array Bool}(hi:i < listed.size)(hs:i < size)(hn:n≤i)(hun:listed.getD i true=false)(hb:∀ j,n≤j→j < i→listed.getD j true≠false):U0 n size listed=i :: U0 n size (listed.setIfInBounds i true):=by
 have e:U0 n size (listed.setIfInBounds i true)=(U0 n size listed).filter fun j=>decide (j≠i):=by
  unfold U0
  rw [List.filter_filter]
  refine List.filter_congr fun j _=>?_
  by_cases hji:j=i
  ·subst hji
   have:(listed.setIfInBounds j true).getD j true=true:=by simp [hi]
   simp [this]
  ·rw [getD_set_ne true (Ne.symm hji)]; simp [hji]
 obtain ⟨l1,l2,hsp⟩:=List.append_of_mem (Tf.2 ⟨hs,hn,hun⟩)
 have hso:=Zc0 n size listed
 rw [hsp] at hso
 have h1:l1=[]:=List.eq_nil_iff_forall_not_mem.2 fun j hj=>by
  have hlt:=(List.pairwise_append.1 hso).2.2 j hj i (List.mem_cons_self ..)
  have hm:=Tf.1 (show j ∈ U0 n size listed by rw [hsp]; exact List.mem_append_left _ hj)
  exact hb j hm.2.1 hlt hm.2.2
 subst h1
 rw [e,hsp,List.nil_append,List.filter_cons]
 simp only [ne_eq,not_true_eq_false,decide_false,Bool.false_eq_true,if_false]
 rw [List.filter_eq_self.2 fun j hj=>?_]
 have:=(List.pairwise_cons.1 hso).1 j hj
 have:j≠i:=by omega
 simpa using this
theorem ZnO (hG:GOk G E.W0)(hS:Z5 P E.W0 call){ops:Array Oper}{bops:List ZH}{n:Nat}{Q:Exit→Act→World→Prop}{sF:Za}(hc:Xd P hand draw ops ops.toList=some bops)(hd:Zlu ops bops n=true)(hQ:∀ Γ a w,Inv E sF Γ a w→Q .normal a w) :
  ∀ (fuel:Nat) {listed:Array Bool} {s s1:Za} {Γ:Zo} {a:Act} {w:World},listed.size=ops.size→XF ops listed→(YF n listed).length + (U0 n ops.size listed).length=fuel →
   Z8 G (WE call) ((YF n listed).map fun i=>bops.getD i ⟨none,.bad,none⟩) s=some s1→Z8 G call ((U0 n ops.size listed).map fun i=>bops.getD i ⟨none,.bad,none⟩) s1=some sF→Inv E s Γ a w→wpAny P .any ops Q fuel listed a w:=by
 simp only [Zlu,Bool.and_eq_true,List.all_eq_true,List.mem_range,decide_eq_true_eq] at hd
 obtain ⟨⟨⟨⟨hord,hnh⟩,hnle⟩,hpin⟩,hpair⟩:=hd
 obtain ⟨hlen,hget⟩:=Qy hc
 intro fuel
 induction fuel with
 | zero =>
  intro listed s s1 Γ a w hsz hcl hl h h' hI
  have hn1:=List.eq_nil_of_length_eq_zero (show (YF n listed).length=0 by omega)
  have hn2:=List.eq_nil_of_length_eq_zero (show (U0 n ops.size listed).length=0 by omega)
  rw [hn1] at h
  rw [hn2] at h'
  obtain rfl:=Option.some.inj (by simpa [Z8] using h:some s=some s1)
  obtain rfl:=Option.some.inj (by simpa [Z8] using h':some s=some sF)
  refine ⟨List.eq_nil_iff_forall_not_mem.2 fun i hi=>?_,hQ _ _ _ hI⟩
  obtain ⟨k1,o,k2,_⟩:=mem_ready.1 hi
  have hin:=(Array.getElem?_eq_some_iff.1 k2).1
  rcases Nat.lt_or_ge i n with hlt | hge
  ·have:i ∈ YF n listed:=Yf.2 ⟨hlt,k1⟩
   rw [hn1] at this; cases this
  ·have:i ∈ U0 n ops.size listed:=Tf.2 ⟨hin,hge,k1⟩
   rw [hn2] at this; cases this
 | succ fuel ih =>
  intro listed s s1 Γ a w hsz hcl hl h h' hI
  have hlisted:∀ j,j < ops.size→listed.getD j true≠false→listed.getD j false=true:=fun j hj h=>by
   have hj':j < listed.size:=by omega
   simp [hj'] at h ⊢; exact h
  refine ⟨fun hr=>?_,fun i hi=>?_⟩
  ·
   have hex:∃ i,i < ops.size∧listed.getD i true=false∧∀ j,j < i→listed.getD j true≠false:=by
    have hne:∃ i,i < ops.size∧listed.getD i true=false:=by
     cases hx:YF n listed with
     | cons i r =>
      have:=Yf.1 (show i ∈ YF n listed by rw [hx]; exact List.mem_cons_self ..)
      exact ⟨i,by omega,this.2⟩
     | nil =>
      cases hy:U0 n ops.size listed with
      | nil=>rw [hx,hy] at hl; simp at hl
      | cons i r =>
       have:=Tf.1 (show i ∈ U0 n ops.size listed by rw [hy]; exact List.mem_cons_self ..)
       exact ⟨i,this.1,this.2.2⟩
    obtain ⟨i,h1,h2⟩:=hne
    induction i using Nat.strongRecOn with
    | _ i ihi =>
     by_cases hx:∃ j,j < i∧listed.getD j true=false
     ·obtain ⟨j,hj1,hj2⟩:=hx
      exact ihi j hj1 (by omega) hj2
     ·exact ⟨i,h1,h2,fun j hj hq=>hx ⟨j,hj,hq⟩⟩
   obtain ⟨i,him,hun,hleast⟩:=hex
   have hoi:ops[i]? = some ops[i]:=Array.getElem?_eq_getElem him
   have hready:i ∈ Region.ready .any ops listed:=by
    refine mem_ready.2 ⟨hun,_,hoi,fun e he hb=>?_⟩
    have:=hord i him
    rw [hoi] at this
    have hlt:=Array.all_eq_true'.1 this e he
    rw [hb] at hlt
    simp only [Bool.not_true,Bool.false_or,decide_eq_true_eq] at hlt
    exact hlisted e.on (by omega) (hleast _ hlt)
   rw [hr] at hready
   cases hready
  ·obtain ⟨hun,o,ho,hdeps⟩:=mem_ready.1 hi
   have hin:=(Array.getElem?_eq_some_iff.1 ho).1
   obtain ⟨g,hg1,hg2⟩:=hget i o (by simpa using ho)
   have hbi:bops.getD i ⟨none,.bad,none⟩=⟨o.dst,(cOp P hand draw o).getD .bad,g⟩:=by rw [List.getD_eq_getElem?_getD,hg2]; rfl
   unfold wpOp
   simp only [ho]
   rcases Nat.lt_or_ge i n with hlt | hge
   ·obtain ⟨l1,l2,hsplit⟩:=List.append_of_mem (Yf.2 ⟨hlt,hun⟩)
    have hs:=WQ n listed
    rw [hsplit] at hs
    have hcomm:∀ x ∈ l1.map (fun i=>bops.getD i ⟨none,.bad,none⟩),Zb8 x ⟨o.dst,(cOp P hand draw o).getD .bad,g⟩=true:=fun x hx=>by
     obtain ⟨j,hj,rfl⟩:=List.mem_map.1 hx
     have hji:j < i:=(List.pairwise_append.1 hs).2.2 j hj i (List.mem_cons_self ..)
     have hjm:=Yf.1 (show j ∈ YF n listed by rw [hsplit]; exact List.mem_append_left _ hj)
     have:=hpair i hlt j hji
     rw [Bool.or_eq_true] at this
     rcases this with h1 | h1
     ·exfalso
      have h2:=hcl.ready ho hdeps (TZ h1)
      rw [Un hjm.2] at h2
      cases h2
     ·rw [hg2] at h1
      split at h1
      ·rename_i x y hx hy
       cases hy
       rw [List.getD_eq_getElem?_getD,hx]
       exact h1
      ·cases h1
    rw [hsplit,List.map_append,List.map_cons,hbi] at h
    obtain ⟨u,hu1,hu2⟩:=bubble Fp hcomm h
    rw [← List.map_append,← Vt hsplit (by omega)] at hu2
    have hkk:noHand ((cOp P hand draw o).getD .bad)=true:=by
     have hm:(⟨o.dst,(cOp P hand draw o).getD .bad,g⟩:ZH) ∈ bops.take n:=by
      refine List.mem_of_getElem? (i := i) ?_
      rw [List.getElem?_take_of_lt hlt]; exact hg2
     exact hnh _ hm
    rw [← Zcz (size := ops.size) (listed := listed) hlt] at h'
    refine Zf6 hG hS hkk hg1 hu1 hI fun Γ' a' w' hI'=>ih (by simp [hsz]) (hcl.list ho hdeps) ?_ hu2 h' hI'
    rw [Vt hsplit (by omega),Zcz hlt]
    rw [hsplit] at hl
    simp at hl ⊢
    omega
   ·have hall:∀ j,j < i→listed.getD j true≠false:=fun j hj hq=>by
     have hw:Bi ops i j=true:=by
      rcases Bool.or_eq_true _ _ ▸ hpin i hin with h1 | h1
      ·have:i < n:=by simpa using h1
       omega
      ·exact List.all_eq_true.1 h1 j (List.mem_range.2 hj)
     have h2:=hcl.ready ho hdeps (TZ hw)
     rw [Un hq] at h2
     cases h2
    have hnil:YF n listed=[]:=List.eq_nil_iff_forall_not_mem.2 fun j hj=>by
     have:=Yf.1 hj
     exact hall j (by omega) this.2
    have hnil2:YF n (listed.setIfInBounds i true)=[]:=List.eq_nil_iff_forall_not_mem.2 fun j hj=>by
     have hm:=Yf.1 hj
     rw [getD_set_ne true (show i≠j by omega)] at hm
     exact hall j (by omega) hm.2
    rw [hnil] at h
    obtain rfl:=Option.some.inj (by simpa [Z8] using h:some s=some s1)
    have hon:=Zl3 (n := n) (size := ops.size) (listed := listed) (by omega) hin hge hun (fun j _ hj=>hall j hj)
    rw [hon,List.map_cons,hbi] at h'
    simp only [Z8] at h'
    split at h' <;> first | (cases h'; done) | skip
    rename_i u hu
    refine ZiW hG hS hg1 hu hI fun Γ' a' w' hI'=>ih (s1 := u) (by simp [hsz]) (hcl.list ho hdeps) ?_ (by rw [hnil2]; rfl) h' hI'
    rw [hnil2]
    rw [hnil,hon] at hl
    simp at hl ⊢
    omega
end
end Go.Proofs.YtleomfgijkapfaaGreatDoor.Abs
end
section
namespace Go.Proofs.YtleomfgijkapfaaGreatDoor.Abs
open Go Go.RowKit
section
variable {G:Nat→Option (List AV)}{call:FuncId→List AV→List Zp→Option (AV×List Zp×Eff)}
theorem Gm:∀ f args hp v hp' e,ZT call f args hp=some (v,hp',e)→hp'=hp∧e=none:=by
 intro f args hp v hp' e h
 unfold ZT at h
 split at h <;> first | (cases h; done) | skip
 split at h <;> first | (cases h; done) | skip
 split at h <;> first | (cases h; done) | skip
 cases h
 exact ⟨rfl,rfl⟩
theorem ZjX {f:FuncId}{args:List AV}{hp:List Zp}{v:AV}{hp':List Zp}{e:Eff}(h:ZT call f args hp=some (v,hp',e))(h2:List Zp):ZT call f args h2=some (v,h2,none):=by
 unfold ZT at h ⊢
 split at h <;> first | (cases h; done) | skip
 rename_i hb
 rw [if_pos hb]
 split at h <;> first | (cases h; done) | skip
 rename_i hc
 split at h <;> first | (cases h; done) | skip
 cases h
 rfl
def Pfx (h h':List Zp):Prop:=∀ (g:Nat) (o:Zp),h[g]? = some o→h'[g]? = some o
theorem Pfx.take (n:Nat)(h:List Zp):Pfx (h.take n) h:=fun g o hg=>by
 rw [List.getElem?_take] at hg
 split at hg
 ·exact hg
 ·cases hg
theorem Pfx.look {h h':List Zp}(p:Pfx h h'):Qo h h':=.of_get fun g cs t hg=>⟨cs,t,p g _ hg,rfl⟩
theorem Pfx.rows {h h':List Zp}(p:Pfx h h'){x:AV}{r:Nat×List (List AV)}(hx:rowsOf h x=some r):rowsOf h' x=some r:=by
 unfold rowsOf at hx ⊢
 split at hx <;> first | exact hx | (cases hx; done) | skip
 split at hx <;> first | (cases hx; done) | skip
 rename_i hg
 rw [p _ _ hg]
 exact hx
theorem Pfx.len {h h':List Zp}(p:Pfx h h'){sh:Zgi}{x v:AV}(hx:Ih h sh x=some v):Ih h' sh x=some v:=by
 unfold Ih at hx ⊢
 split at hx <;> first | exact hx | (cases hx; done) | skip
 split at hx <;> first | (cases hx; done) | skip
 rename_i hg
 rw [p _ _ hg]
 exact hx
theorem Pfx.conv {h h':List Zp}(p:Pfx h h'){c:Conv}{x v:AV}(hx:Jo h c x=some v):Jo h' c x=some v:=by
 unfold Jo at hx ⊢
 split at hx <;> first | exact hx | (cases hx; done) | skip
 split at hx <;> first | (cases hx; done) | skip
 rename_i hg
 rw [p.rows hg]
 exact hx
theorem ZpI {ao:AOp}{k:HK}{s:Za}{v:AV}{s':Za}(hk:hkind ao=some k)(hk':k=.free∨k=.look∨k=.read)(h:Zb G (ZT call) s ao=some (v,s')){h2:List Zp}(p:Pfx s.hp h2) :
  s'.hp=s.hp∧s'.ef=s.ef∧s'.bs=s.bs∧Zb G (ZT call) { s with hp:=h2 } ao=some (v,{ s' with hp:=h2 }):=by
 have S:=ZiT Gm hk h
 have hst:s'.hp=s.hp∧s'.ef=s.ef:=S.still (by rcases hk' with rfl | rfl | rfl <;> trivial)
 refine ⟨hst.1,hst.2,S.bs,?_⟩
 have fin:Zb G (ZT call) { s with hp:=h2 } ao=some (v,⟨tkF ao s.sl,h2,s.ef,s.bs⟩)→Zb G (ZT call) { s with hp:=h2 } ao=some (v,{ s' with hp:=h2 }):=fun e=>by
  rw [e,← S.sl,← hst.2,← S.bs]
 refine fin ?_
 rcases hk' with rfl | rfl | rfl
 ·exact S.free rfl { s with hp:=h2 } (fun _ _=>rfl)
 ·exact S.look rfl { s with hp:=h2 } (fun _ _=>rfl) p.look
 ·cases ao <;> first | (simp only [hkind,Option.some.injEq,reduceCtorEq] at hk; done) | skip
  case lit e k parts=>cases parts <;> simp [hkind] at hk
  case len sh x =>
   simp only [Zb] at h ⊢
   split at h <;> first | (cases h; done) | skip
   rename_i y hy
   obtain ⟨h1,rfl⟩:=YZ h
   simp only [hy,p.len h1,Option.map_some]
   rfl
  case app k b t x =>
   simp only [Zb] at h ⊢
   split at h <;> first | (cases h; done) | skip
   rename_i k' r y h1 h2
   split at h <;> first | (cases h; done) | skip
   rename_i k2 r2 h3
   split at h <;> first | (cases h; done) | skip
   rename_i hc
   cases h
   simp only [h1,h2,p.rows h3]
   rw [if_pos hc]
   rfl
  case appn k b x =>
   simp only [Zb] at h ⊢
   split at h <;> first | (cases h; done) | skip
   rename_i y h2
   split at h <;> first | (cases h; done) | skip
   rename_i k2 r2 h3
   split at h <;> first | (cases h; done) | skip
   rename_i hc
   cases h
   simp only [h2,p.rows h3]
   rw [if_pos hc]
   rfl
  case conv c x =>
   simp only [Zb] at h ⊢
   split at h <;> first | (cases h; done) | skip
   rename_i y hy
   obtain ⟨h1,rfl⟩:=YZ h
   simp only [hy,p.conv h1,Option.map_some]
   rfl
  case call f args =>
   simp only [Zb] at h ⊢
   split at h <;> first | (cases h; done) | skip
   rename_i g first caps vs sl hf hv
   split at h <;> first | (cases h; done) | skip
   rename_i u hp' e hc
   obtain ⟨rfl,rfl⟩:=Gm _ _ _ _ _ _ hc
   cases h
   have hsl:=S.sl
   simp only at hsl
   simp only [hf,hv,ZjX hc h2,Za.after]
   rw [hsl]
variable (G call)(base:Nat)(al:List Nat)
def MZ (o:ZH)(s:Za):Option Za :=
 match Zq G (ZT call) o { s with hp:=s.hp.take base } with
 | some s'=>some { s' with hp:=s.hp }
 | none=>none
def Zir:Option Zp→Bool
 | some .dead=>true
 | _=>false
def Q3 (r:Nat)(o:ZH)(s:Za):Option Za :=
 if Zir s.hp[base + r]? = true∧s.bs≤base then
  match o.op with
  | .mk t cells=>some (({ s with hp:=s.hp.set (base + r) (.cells cells t) }:Za).put o.dst (.ptr (base + r) 0))
  | .box t n x=>match opnd G s.sl x with
   | some v=>if v.cells.length=n∧v.laid=true then some (({ s with hp:=s.hp.set (base + r) (.cells v.cells t) }:Za).put o.dst (.ptr (base + r) 0)) else none
   | none=>none
  | _=>none
 else none
def Ud (r:Nat)(o:ZH)(s:Za):Option Za :=
 match setSlot o with
 | some t=>match s.sl[t]? with
  | some (.ptr g 0)=>if g=base + r∧s.bs≤base then Zq G (ZT call) o s else none
  | _=>none
 | none=>none
def VM (o:ZH)(s:Za):Option Za :=
 match Ef al o with
 | .pre=>MZ G call base o s
 | .at r=>match Xw o with
  | true=>Q3 G base r o s
  | false=>Ud G call base r o s
 | .any=>Zq G (ZT call) o s
def Jp:List ZH→Za→Option Za
 | [],s=>some s
 | o :: l,s=>match VM G call base al o s with
  | some s'=>Jp l s'
  | none=>none
variable {G call base al}
structure ZqE (G:Nat→Option (List AV))(call:FuncId→List AV→List Zp→Option (AV×List Zp×Eff))(base:Nat)(al:List Nat)(o:ZH)(s s':Za)(f:List AV→List AV):Prop where
 loc:MG (Qi o) f
 sl:s'.sl=f s.sl
 bs:s'.bs=s.bs
 ef:s'.ef=s.ef
 pre:Ef al o=.pre→s'.hp=s.hp∧∀ t:Za,Agree (YY o) s.sl t.sl→t.hp.take base=s.hp.take base→VM G call base al o t=some ⟨f t.sl,t.hp,t.ef,t.bs⟩
 at_:∀ r,Ef al o=.at r→∃ x,s'.hp=s.hp.set (base + r) x∧∀ t:Za,Agree (YY o) s.sl t.sl→t.hp[base + r]? = s.hp[base + r]?→t.bs=s.bs→VM G call base al o t=some ⟨f t.sl,t.hp.set (base + r) x,t.ef,t.bs⟩
theorem Ld {o:ZH}(h:Zac o=true):∃ k,hkind o.op=some k∧(k=.free∨k=.look∨k=.read):=by
 unfold Zac at h
 split at h <;> first | (cases h; done) | skip
 ·exact ⟨_,by assumption,.inl rfl⟩
 ·exact ⟨_,by assumption,.inr (.inl rfl)⟩
 ·exact ⟨_,by assumption,.inr (.inr rfl)⟩
theorem Za6 {o:ZH}(h:Ef al o=.pre):Zac o=true:=by
 unfold Ef at h
 split at h
 ·split at h
  ·split at h <;> cases h
  ·cases h
 ·split at h
  ·split at h <;> cases h
  ·split at h
   ·assumption
   ·cases h
theorem Zoj {o:ZH}{r:Nat}(h:Ef al o=.at r):(Xw o=true∧∃ d,o.dst=some d∧idx d al=some r)∨(Xw o=false∧∃ t,setSlot o=some t∧idx t al=some r):=by
 unfold Ef at h
 split at h
 ·rename_i h1
  split at h
  ·split at h <;> cases h
   exact .inl ⟨h1,_,by assumption,by assumption⟩
  ·cases h
 ·rename_i h1
  split at h
  ·split at h <;> cases h
   exact .inr ⟨h1,_,by assumption,by assumption⟩
  ·split at h <;> cases h
theorem ZfU {o:ZH}{s s':Za}(hc:Ef al o≠.any)(h:VM G call base al o s=some s'):∃ f,ZqE G call base al o s s' f:=by
 cases hr:Ef al o with
 | any=>exact absurd hr hc
 | pre =>
  obtain ⟨k,hk,hk'⟩:=Ld (Za6 hr)
  have hev:∀ t,VM G call base al o t=MZ G call base o t:=fun t=>by unfold VM; rw [hr]
  rw [hev] at h
  unfold MZ at h
  split at h <;> first | (cases h; done) | skip
  rename_i s1 h1
  obtain rfl:=Option.some.inj h
  obtain ⟨f,S⟩:=Sv Gm hk h1
  have k1:=S.still (by rcases hk' with rfl | rfl | rfl <;> trivial)
  have k2:=S.read (by rcases hk' with rfl | rfl | rfl <;> trivial)
  refine ⟨f,S.loc,S.sl,S.bs,k1.2,fun _=>⟨rfl,fun t ht he=>?_⟩,fun r e=>by rw [hr] at e; cases e⟩
  rw [hev]
  unfold MZ
  rw [k2 { t with hp:=t.hp.take base } ht he]
 | «at» r =>
  have hev:∀ t,VM G call base al o t=(match Xw o with | true=>Q3 G base r o t | false=>Ud G call base r o t):=fun t=>by unfold VM; rw [hr]
  rw [hev] at h
  cases hal:Xw o with
  | true =>
   rw [hal] at h
   replace h:Q3 G base r o s=some s':=h
   have hg:o.guard=none:=by
    unfold Xw at hal
    split at hal <;> first | (cases hal; done) | assumption
   unfold Q3 at h
   split at h <;> first | (cases h; done) | skip
   rename_i hd
   split at h <;> first | (cases h; done) | skip
   ·rename_i t cells hop
    obtain rfl:=Option.some.inj h
    refine ⟨NF o.dst (.ptr (base + r) 0),⟨?_,by rw [Yc],by rw [Yc],by rw [Yc],fun e=>(by rw [hr] at e; cases e),fun q e=>?_⟩⟩
    ·have:=(MG.id (XM o.op)).comp (GY o.dst (.ptr (base + r) 0))
     exact this
    ·rw [hr] at e
     cases e
     refine ⟨.cells cells t,by rw [Yc],fun t' ht he hb=>?_⟩
     rw [hev,hal]
     show Q3 G base r o t'=_
     unfold Q3
     rw [he,hb,if_pos hd,hop]
     simp only [Yc,hb]
   ·rename_i t n x hop
    split at h <;> first | (cases h; done) | skip
    rename_i v hv
    split at h <;> first | (cases h; done) | skip
    rename_i hn
    obtain rfl:=Option.some.inj h
    refine ⟨NF o.dst (.ptr (base + r) 0),⟨?_,by rw [Yc],by rw [Yc],by rw [Yc],fun e=>(by rw [hr] at e; cases e),fun q e=>?_⟩⟩
    ·have:=(MG.id (XM o.op)).comp (GY o.dst (.ptr (base + r) 0))
     exact this
    ·rw [hr] at e
     cases e
     refine ⟨.cells v.cells t,by rw [Yc],fun t' ht he hb=>?_⟩
     have hx:opnd G t'.sl x=some v:=by
      rw [← hv]
      refine (Zl (G := G) (x := x) ?_).symm
      exact fun i hi=>ht i (List.mem_append_right _ (by rw [hop]; exact hi))
     rw [hev,hal]
     show Q3 G base r o t'=_
     unfold Q3
     rw [he,hb,if_pos hd,hop]
     simp only [hx,Yc,hb]
     rw [if_pos hn]
  | false =>
   rw [hal] at h
   replace h:Ud G call base r o s=some s':=h
   have hev':∀ t,VM G call base al o t=Ud G call base r o t:=fun t=>by rw [hev,hal]
   unfold Ud at h
   split at h <;> first | (cases h; done) | skip
   rename_i q hq
   split at h <;> first | (cases h; done) | skip
   rename_i g hs
   split at h <;> first | (cases h; done) | skip
   rename_i hg
   obtain ⟨rfl,hbs⟩:=hg
   have hgd:o.guard=none:=by
    unfold setSlot at hq
    split at hq <;> first | (cases hq; done) | assumption
   have hw:∀ t,Yv t o.guard=some true:=fun t=>by rw [hgd]; rfl
   simp only [Zq,hw] at h
   split at h <;> first | (cases h; done) | skip
   rename_i v s1 he
   obtain rfl:=Option.some.inj h
   have hpt:∀ t:Za,t.sl[q]? = s.sl[q]?→opnd G t.sl (.tmp q)=some (.ptr (base + r) 0):=fun t e=>by simp only [opnd,e,hs]; rfl
   have hnote:∀ t:Za,t.bs=s.bs→t.note (base + r) 0=t.ef:=fun t e=>by
    unfold Za.note
    rw [if_neg (by omega)]
   unfold setSlot at hq
   split at hq <;> first | (cases hq; done) | skip
   ·rename_i n q' x hop _
    obtain rfl:=Option.some.inj hq
    rw [hop] at he
    simp only [Zb,hpt s rfl] at he
    split at he <;> first | (cases he; done) | skip
    rename_i g0 o0 u h1 h2
    cases h1
    split at he <;> first | (cases he; done) | skip
    rename_i cs ty hcs
    split at he <;> first | (cases he; done) | skip
    rename_i hn
    cases he
    refine ⟨NF o.dst .undef,⟨?_,by rw [Yc],by rw [Yc],by rw [Yc]; exact hnote s rfl,fun e=>(by rw [hr] at e; cases e),fun q2 e=>?_⟩⟩
    ·have:=(MG.id (XM o.op)).comp (GY o.dst .undef)
     exact this
    ·rw [hr] at e
     cases e
     refine ⟨.cells (splice cs 0 u.cells) ty,by rw [Yc],fun t' ht he hb=>?_⟩
     have a0:Agree (oR (.tmp q') ++ oR x) s.sl t'.sl:=fun i hi=>ht i (List.mem_append_right _ (by rw [hop]; exact hi))
     have e1:=a0.left q' (.head _)
     rw [hev']
     unfold Ud setSlot
     rw [hop,hgd]
     simp only
     rw [← e1,hs]
     simp only
     rw [if_pos ⟨trivial,by omega⟩]
     simp only [Zq,hw]
     rw [hop]
     simp only [Zb,hpt t' e1.symm,← Zl (G := G) (x := x) a0.right,h2,he,hcs]
     rw [if_pos hn]
     simp only [Yc,hnote t' hb]
   ·rename_i q' x hop _
    obtain rfl:=Option.some.inj hq
    rw [hop] at he
    simp only [Zb,hpt s rfl] at he
    split at he <;> first | (cases he; done) | skip
    rename_i g0 o0 u h1 h2
    cases h1
    split at he <;> first | (cases he; done) | skip
    rename_i cs ty hcs
    split at he <;> first | (cases he; done) | skip
    rename_i hn
    cases he
    have hto:XM o.op=[x]:=by rw [hop]; rfl
    refine ⟨fun l=>NF o.dst .undef (l.modify x AV.ro),⟨?_,by rw [Yc]; rfl,by rw [Yc]; rfl,by rw [Yc]; exact hnote s rfl,fun e=>(by rw [hr] at e; cases e),fun q2 e=>?_⟩⟩
    ·have:=(MG.mod x).comp (GY o.dst .undef)
     unfold Qi
     rw [hto]
     exact this
    ·rw [hr] at e
     cases e
     refine ⟨.cells (cs.set 0 u) ty,by rw [Yc],fun t' ht he hb=>?_⟩
     have a0:Agree (x :: oR (.tmp q')) s.sl t'.sl:=fun i hi=>ht i (List.mem_append_right _ (by rw [hop]; exact hi))
     have e1:=a0 q' (.tail _ (.head _))
     have e2:=a0 x (.head _)
     rw [hev']
     unfold Ud setSlot
     rw [hop,hgd]
     simp only
     rw [← e1,hs]
     simp only
     rw [if_pos ⟨trivial,by omega⟩]
     simp only [Zq,hw]
     rw [hop]
     simp only [Zb,hpt t' e1.symm,← e2,h2,he,hcs]
     rw [if_pos hn]
     simp only [Yc,hnote t' hb]
     rfl
theorem Zr4 {o1 o2:ZH}{s s1 s2:Za}(hc:Zg2 al o1 o2=true)(h1:VM G call base al o1 s=some s1)(h2:VM G call base al o2 s1=some s2) :
  ∃ u,VM G call base al o2 s=some u∧VM G call base al o1 u=some s2:=by
 simp only [Zg2,F8,Bool.and_eq_true] at hc
 obtain ⟨hk,⟨ha,hb⟩,hd⟩:=hc
 have n1:Ef al o1≠.any:=fun e=>by rw [e] at hk; cases hk
 have n2:Ef al o2≠.any:=fun e=>by rw [e] at hk; cases h:Ef al o1 <;> rw [h] at hk <;> cases hk
 obtain ⟨f1,S1⟩:=ZfU n1 h1
 obtain ⟨f2,S2⟩:=ZfU n2 h2
 have A2:Agree (YY o2) s1.sl s.sl:=by rw [S1.sl]; exact (Agree.of_loc S1.loc ha s.sl).symm
 have A1:∀ u:Za,u.sl=f2 s.sl→Agree (YY o1) s.sl u.sl:=fun u hu=>by rw [hu]; exact Agree.of_loc S2.loc hd s.sl
 have fin:∀ (u:Za) (hp:List Zp),u.sl=f2 s.sl→u.bs=s.bs→u.ef=s.ef→hp=s2.hp→VM G call base al o1 u=some ⟨f1 u.sl,hp,u.ef,u.bs⟩→VM G call base al o1 u=some s2:=fun u hp e1 e2 e3 e4 h=>by
  rw [h]
  have q1:f1 u.sl=s2.sl:=by rw [e1,S2.sl,S1.sl]; exact S1.loc.swap S2.loc hb s.sl
  have q2:u.bs=s2.bs:=by rw [e2,S2.bs,S1.bs]
  have q3:u.ef=s2.ef:=by rw [e3,S2.ef,S1.ef]
  rw [q1,q2,q3,e4]
 have tk:∀ (h:List Zp) (r:Nat) (x:Zp),(h.set (base + r) x).take base=h.take base:=fun h r x=>by
  rw [List.take_set_of_le (by omega)]
 cases r1:Ef al o1 with
 | any=>exact absurd r1 n1
 | pre =>
  obtain ⟨p1,p2⟩:=S1.pre r1
  cases r2:Ef al o2 with
  | any=>exact absurd r2 n2
  | pre =>
   obtain ⟨p3,p4⟩:=S2.pre r2
   exact ⟨_,p4 s A2 (by rw [p1]),fin _ _ rfl rfl rfl (by rw [p3,p1]) (p2 _ (A1 _ rfl) rfl)⟩
  | «at» r =>
   obtain ⟨x,p3,p4⟩:=S2.at_ r r2
   exact ⟨_,p4 s A2 (by rw [p1]) S1.bs.symm,fin _ _ rfl rfl rfl (by rw [p3,p1]) (p2 _ (A1 _ rfl) (tk _ _ _))⟩
 | «at» r =>
  obtain ⟨x,p1,p2⟩:=S1.at_ r r1
  cases r2:Ef al o2 with
  | any=>exact absurd r2 n2
  | pre =>
   obtain ⟨p3,p4⟩:=S2.pre r2
   exact ⟨_,p4 s A2 (by rw [p1,tk]),fin _ _ rfl rfl rfl (by rw [p3,p1]) (p2 _ (A1 _ rfl) rfl rfl)⟩
  | «at» q =>
   rw [r1,r2] at hk
   have hne:r≠q:=by simpa using hk
   obtain ⟨y,p3,p4⟩:=S2.at_ q r2
   have o1':∀ (h:List Zp) (z:Zp),(h.set (base + r) z)[base + q]? = h[base + q]?:=fun h z=>List.getElem?_set_ne (by omega)
   have o2':∀ (h:List Zp) (z:Zp),(h.set (base + q) z)[base + r]? = h[base + r]?:=fun h z=>List.getElem?_set_ne (by omega)
   exact ⟨_,p4 s A2 (by rw [p1,o1']) S1.bs.symm,fin _ _ rfl rfl rfl (by rw [p3,p1]; exact List.set_comm _ _ (by omega)) (p2 _ (A1 _ rfl) (o2' _ _) rfl)⟩
theorem Zh6 {o:ZH}{l2:List ZH}{sF:Za}:∀ {l1:List ZH} {s:Za},(∀ x ∈ l1,Zg2 al x o=true)→Jp G call base al (l1 ++ o :: l2) s=some sF →
  ∃ u,VM G call base al o s=some u∧Jp G call base al (l1 ++ l2) u=some sF
 | [],s,_,h=>by
  simp only [List.nil_append,Jp] at h
  split at h <;> first | (cases h; done) | skip
  rename_i u hu
  exact ⟨u,hu,h⟩
 | x :: l1,s,hx,h=>by
  simp only [List.cons_append,Jp] at h
  split at h <;> first | (cases h; done) | skip
  rename_i s1 h1
  obtain ⟨u1,h2,h3⟩:=Zh6 (fun y hy=>hx y (List.mem_cons_of_mem _ hy)) h
  obtain ⟨u,h4,h5⟩:=Zr4 (hx x (List.mem_cons_self ..)) h1 h2
  refine ⟨u,h4,?_⟩
  simp only [List.cons_append,Jp,h5]
  exact h3
end
section
variable {G:Nat→Option (List AV)}{call:FuncId→List AV→List Zp→Option (AV×List Zp×Eff)}{base:Nat}{al:List Nat}
theorem Zab:∀ {l:List Nat} {k t:Nat},nodupB l=true→l[k]? = some t→idx t l=some k
 | [],k,t,_,h=>by simp at h
 | u :: l,k,t,hn,h=>by
  simp only [nodupB,Bool.and_eq_true,Bool.not_eq_true'] at hn
  unfold idx
  cases k with
  | zero=>simp only [List.getElem?_cons_zero,Option.some.injEq] at h; rw [if_pos h]
  | succ k =>
   simp only [List.getElem?_cons_succ] at h
   have:u≠t:=fun e=>by
    subst e
    have:=List.mem_of_getElem? h
    simp [this] at hn
   rw [if_neg this,Zab hn.2 h]
   rfl
theorem Zih:∀ {l:List Nat} {k t:Nat},idx t l=some k→l[k]? = some t
 | [],k,t,h=>by cases h
 | u :: l,k,t,h=>by
  unfold idx at h
  split at h
  ·rename_i e
   cases h
   simp [e]
  ·obtain ⟨q,hq,rfl⟩:=Option.map_eq_some_iff.1 h
   simpa using Zih hq
def Xv (n:Nat):List Zp:=List.replicate n .dead
theorem Zhz {l m:List Nat}(h:apartB l m=true){t:Nat}(ht:t ∈ m):t ∉ l:=fun hl=>by
 have:=List.all_eq_true.1 h t hl
 simp [ht] at this
theorem ZnM {call:FuncId→List AV→List Zp→Option (AV×List Zp×Eff)}(hq:∀ f args hp v hp' e,call f args hp=some (v,hp',e)→hp'=hp∧e=none){o:ZH}{k:HK}{s s':Za}(hk:hkind o.op=some k)(h:Zq G call o s=some s'):s'.bs=s.bs∧∀ t,t ∉ Qi o→s'.sl[t]? = s.sl[t]?:=by
 obtain ⟨f,S⟩:=Sv hq hk h
 exact ⟨S.bs,fun t ht=>by rw [S.sl,S.loc.out _ _ ht]⟩
theorem Zoq {call:FuncId→List AV→List Zp→Option (AV×List Zp×Eff)}{o:ZH}{s s':Za}(hk:hkind o.op=some .set)(h:Zq G call o s=some s'):s'.hp.length=s.hp.length:=by
 simp only [Zq] at h
 split at h <;> first | (cases h; done) | skip
 ·split at h <;> first | (cases h; done) | skip
  rename_i v s1 he
  obtain rfl:=Option.some.inj h
  rw [Yc]
  show s1.hp.length=_
  cases hop:o.op <;> rw [hop] at hk he <;> first | (simp only [hkind,Option.some.injEq,reduceCtorEq] at hk; done) | skip
  case lit e k parts=>cases parts <;> simp [hkind] at hk
  case call f args=>simp only [hkind] at hk; split at hk <;> simp at hk
  all_goals
   simp only [Zb] at he
   repeat' split at he
   all_goals first
    | (cases he; done)
    | (cases he; simp [Za.let_])
 ·obtain rfl:=Option.some.inj h
  rw [Yc]
theorem sim (hnd:nodupB al=true):∀ {l:List ZH} {k:Nat} {s sF:Za},Ff al k l=true→k≤al.length→Z8 G (ZT call) l s=some sF→s.bs≤base→s.hp.length=base + k→(∀ (r t:Nat) (v:AV),r < k→al[r]? = some t→s.sl[t]? = some v→v=.ptr (base + r) 0) →
  Jp G call base al l { s with hp:=s.hp ++ Xv (al.length - k) } = some sF
 | [],k,s,sF,ho,hk,h,hbs,hl,hs=>by
  simp only [Ff,beq_iff_eq] at ho
  obtain rfl:=Option.some.inj h
  subst ho
  simp only [Jp,Nat.sub_self,Xv,List.replicate_zero,List.append_nil]
 | o :: l,k,s,sF,ho,hk,h,hbs,hl,hs=>by
  simp only [Z8] at h
  split at h <;> first | (cases h; done) | skip
  rename_i s1 h1
  simp only [Ff] at ho
  cases hal:Xw o with
  | true =>
   rw [hal] at ho
   simp only [Bool.and_eq_true,beq_iff_eq] at ho
   obtain ⟨hd,ho⟩:=ho
   have hg:o.guard=none:=by
    unfold Xw at hal
    split at hal <;> first | (cases hal; done) | assumption
   obtain ⟨t,ht⟩:∃ t,o.dst=some t:=by
    unfold Xw at hal
    split at hal <;> first | (cases hal; done) | exact ⟨_,by assumption⟩
   rw [ht] at hd
   have hkl:k < al.length:=(List.getElem?_eq_some_iff.1 hd.symm).1
   have hcls:Ef al o=.at k:=by
    unfold Ef
    rw [hal,ht]
    simp only
    rw [Zab hnd hd.symm]
   have hdead:({ s with hp:=s.hp ++ Xv (al.length - k) }:Za).hp[base + k]? = some .dead:=by
    show (s.hp ++ Xv (al.length - k))[base + k]? = _
    rw [List.getElem?_append_right (by omega),hl,Nat.sub_self]
    unfold Xv
    rw [List.getElem?_replicate,if_pos (by omega)]
   have hset:∀ x:Zp,(s.hp ++ Xv (al.length - k)).set (base + k) x=(s.hp ++ [x]) ++ Xv (al.length - (k + 1)):=fun x=>by
    rw [List.set_append_right _ _ (by omega),hl,Nat.sub_self]
    obtain ⟨m,hm⟩:∃ m,al.length - k=m + 1:=⟨al.length - k - 1,by omega⟩
    have:al.length - (k + 1)=m:=by omega
    rw [hm,this]
    simp [Xv,List.replicate_succ]
   have key:∀ x:Zp,s1=({ s with hp:=s.hp ++ [x] }:Za).put o.dst (.ptr s.hp.length 0)→VM G call base al o { s with hp:=s.hp ++ Xv (al.length - k) } = some (({ s with hp:=(s.hp ++ Xv (al.length - k)).set (base + k) x }:Za).put o.dst (.ptr (base + k) 0)) →
     Jp G call base al (o :: l) { s with hp:=s.hp ++ Xv (al.length - k) } = some sF:=fun x e1 e2=>by
    simp only [Jp]
    rw [e2]
    have:=sim hnd (l := l) (k := k + 1) (s := s1) ho hkl h (by rw [e1,ht]; exact hbs) (by rw [e1,ht]; simp [Za.put,hl]; omega) (fun r q v hr hq hv=>by
     rw [e1,ht] at hv
     simp only [Za.put] at hv
     by_cases e:r=k
     ·subst e
      rw [← hd] at hq
      cases hq
      rw [List.getElem?_set] at hv
      split at hv
      ·split at hv
       ·rw [← Option.some.inj hv,hl]
       ·cases hv
      ·rename_i ne; exact absurd rfl ne
     ·refine hs r q v (by omega) hq ?_
      rw [List.getElem?_set_ne] at hv
      ·exact hv
      ·intro e'
       subst e'
       have i1:=Zab hnd hq
       rw [Zab hnd hd.symm] at i1
       cases i1
       exact e rfl)
    rw [← this,e1,ht]
    simp only [Za.put,hset,hl]
   simp only [Zq,hg,Yv] at h1
   split at h1 <;> first | (cases h1; done) | skip
   rename_i v s2 hev
   obtain rfl:=Option.some.inj h1
   have hR:VM G call base al o { s with hp:=s.hp ++ Xv (al.length - k) } = Q3 G base k o { s with hp:=s.hp ++ Xv (al.length - k) }:=by
    unfold VM
    rw [hcls,hal]
   have hif:Zir ({ s with hp:=s.hp ++ Xv (al.length - k) }:Za).hp[base + k]? = true∧({ s with hp:=s.hp ++ Xv (al.length - k) }:Za).bs≤base:=⟨by rw [hdead]; rfl,hbs⟩
   cases hop:o.op with
   | mk t' cells =>
    rw [hop] at hev
    cases hev
    refine key _ rfl ?_
    rw [hR]
    unfold Q3
    rw [if_pos hif,hop]
   | box t' n x =>
    rw [hop] at hev
    simp only [Zb] at hev
    split at hev <;> first | (cases hev; done) | skip
    rename_i u hu
    split at hev <;> first | (cases hev; done) | skip
    rename_i hn
    cases hev
    refine key _ rfl ?_
    rw [hR]
    unfold Q3
    rw [if_pos hif,hop]
    simp only [hu]
    rw [if_pos hn]
   | _=>unfold Xw at hal; rw [hop] at hal; simp at hal
  | false =>
   rw [hal] at ho
   simp only [Bool.and_eq_true,Bool.or_eq_true] at ho
   obtain ⟨⟨ho1,ho2⟩,ho3⟩:=ho
   have go:∀ q:HK,hkind o.op=some q→s1.hp.length=s.hp.length→VM G call base al o { s with hp:=s.hp ++ Xv (al.length - k) } = some { s1 with hp:=s1.hp ++ Xv (al.length - k) }→Jp G call base al (o :: l) { s with hp:=s.hp ++ Xv (al.length - k) } = some sF:=fun q hq hlen e=>by
    obtain ⟨b1,b2⟩:=ZnM Gm hq h1
    simp only [Jp]
    rw [e]
    refine sim hnd ho3 hk h (by rw [b1]; exact hbs) (by rw [hlen]; exact hl) fun r t v hr ht hv=>hs r t v hr ht ?_
    rw [← b2 t (Zhz ho2 (List.mem_of_getElem? ht))]
    exact hv
   have pre:∀ q:HK,hkind o.op=some q→(q=.free∨q=.look∨q=.read)→setSlot o=none→(q=.free∨k=0)→Jp G call base al (o :: l) { s with hp:=s.hp ++ Xv (al.length - k) } = some sF:=fun q hq hq' hns hk0=>by
    obtain ⟨f,S⟩:=Sv Gm hq h1
    have st:=S.still (by rcases hq' with rfl | rfl | rfl <;> trivial)
    have hcls:Ef al o=.pre:=by
     unfold Ef
     rw [hal]
     simp only
     rw [hns]
     have:Zac o=true:=by unfold Zac; rw [hq]; rcases hq' with rfl | rfl | rfl <;> rfl
     simp [this]
    refine go q hq (by rw [st.1]) ?_
    unfold VM
    rw [hcls]
    simp only
    unfold MZ
    have hrun:Zq G (ZT call) o { s with hp:=(s.hp ++ Xv (al.length - k)).take base } = some ⟨f s.sl,(s.hp ++ Xv (al.length - k)).take base,s.ef,s.bs⟩:=by
     rcases hk0 with rfl | rfl
     ·exact S.free rfl { s with hp:=(s.hp ++ Xv (al.length - k)).take base } (fun _ _=>rfl)
     ·have:(s.hp ++ Xv (al.length - 0)).take base=s.hp:=by
       rw [List.take_append_of_le_length (by omega),List.take_of_length_le (by omega)]
      rw [this]
      exact S.read (by rcases hq' with rfl | rfl | rfl <;> trivial) s (fun _ _=>rfl) rfl
    have e0:Zq G (ZT call) o { ({ s with hp:=s.hp ++ Xv (al.length - k) }:Za) with hp:=({ s with hp:=s.hp ++ Xv (al.length - k) }:Za).hp.take base } = some ⟨f s.sl,(s.hp ++ Xv (al.length - k)).take base,s.ef,s.bs⟩:=hrun
    rw [e0]
    simp only
    rw [st.1,← S.sl,← st.2,← S.bs]
   rcases ho1 with (ho1 | ho1) | ho1
   ·have hq:hkind o.op=some .free:=by
     unfold Zmc at ho1
     split at ho1
     ·assumption
     ·cases ho1
    refine pre .free hq (.inl rfl) ?_ (.inl rfl)
    unfold setSlot
    split <;> first | rfl | (rename_i hop _; rw [hop] at hq; cases hq)
   ·simp only [beq_iff_eq] at ho1
    obtain ⟨q,hq,hq'⟩:=Ld ho1.1
    refine pre q hq hq' ?_ (.inr ho1.2)
    unfold setSlot
    split <;> first | rfl | (rename_i hop _; rw [hop] at hq; cases hq; rcases hq' with h | h | h <;> cases h)
   ·simp only [beq_iff_eq] at ho1
    obtain ⟨ho1,rfl⟩:=ho1
    have hq:hkind o.op=some .set:=by
     unfold Zpv at ho1
     split at ho1
     ·assumption
     ·cases ho1
    have hnp:Zac o=false:=by unfold Zac; rw [hq]
    refine go .set hq (Zoq hq h1) ?_
    have e0:∀ x:Za,({ x with hp:=x.hp ++ Xv (al.length - al.length) }:Za)=x:=fun x=>by simp [Xv]
    rw [e0 s,e0 s1]
    unfold VM
    cases hc:Ef al o with
    | any=>exact h1
    | pre=>have:=Za6 hc; rw [hnp] at this; cases this
    | «at» r =>
     simp only
     rw [hal]
     rcases Zoj hc with ⟨e,_⟩ | ⟨_,t,ht,hr⟩
     ·rw [hal] at e; cases e
     ·have hget:=Zih hr
      have hrl:r < al.length:=(List.getElem?_eq_some_iff.1 hget).1
      obtain ⟨v,hv⟩:∃ v,s.sl[t]? = some v:=by
       cases hv:s.sl[t]? with
       | some v=>exact ⟨v,rfl⟩
       | none =>
        exfalso
        have hnone:opnd G s.sl (.tmp t)=none:=by simp only [opnd,hv]; rfl
        simp only [Zq] at h1
        unfold setSlot at ht
        split at ht <;> first | (cases ht; done) | skip
        all_goals
         rename_i hop hgd
         obtain rfl:=Option.some.inj ht
         rw [hgd] at h1
         simp only [Yv] at h1
         rw [hop] at h1
         simp only [Zb,hnone] at h1
         cases h1
      have hp:=hs r t v hrl hget hv
      subst hp
      show Ud G call base r o s=some s1
      unfold Ud
      rw [ht]
      simp only
      rw [hv]
      simp only
      rw [if_pos ⟨trivial,hbs⟩]
      exact h1
end
section
variable {P:Program}{G:Nat→Option (List AV)}{call:FuncId→List AV→List Zp→Option (AV×List Zp×Eff)}{E:Entry}{s s':Za}{Γ:Zo}{a:Act}{w:World}{hand:Nat→Bool}{draw:Bool}{o:Oper}{base:Nat}{al:List Nat}
theorem Zca {ao:AOp}(h:(cOp P hand draw o).getD .bad=ao)(hb:ao≠.bad):cOp P hand draw o=some ao:=by
 cases hc:cOp P hand draw o with
 | none=>rw [hc] at h; exact absurd h.symm hb
 | some x=>rw [hc] at h; exact congrArg some h
theorem ZoS {t:TypeId}{cells:List AV}(h:cOp P hand draw o=some (.mk t cells)):∃ z,o.op=.alloc t∧ZcM P t=some z∧z.cells.all AV.one=true∧cells=z.cells:=by
 unfold cOp at h
 repeat' split at h
 all_goals first
  | (cases h; done)
  | (obtain ⟨_,_,e⟩:=Option.map_eq_some_iff.1 h; cases e; done)
  | (cases h; exact ⟨_,by assumption,by assumption,by assumption,rfl⟩)
theorem ZmJ {t:TypeId}{n:Nat}{x:ZR}(h:cOp P hand draw o=some (.box t n x)):∃ x',o.op=.box t x'∧Z4 P t x'=some x:=by
 unfold cOp at h
 repeat' split at h
 all_goals first
  | (cases h; done)
  | (obtain ⟨_,h1,e⟩:=Option.map_eq_some_iff.1 h; cases e; exact ⟨_,by assumption,h1⟩)
  | (obtain ⟨_,h1,e⟩:=Option.map_eq_some_iff.1 h; cases e; done)
theorem Zfh (hI:Inv E s Γ a w){e:TypeId}{v:AV}{cv:Value}{n:Nat}(hd:s.hp[n]? = some .dead)(hb:s.bs≤n)(hr:Rep Γ w v cv)(hl:v.laid=true)(hn:∀ k r,v=.own k r→r=[]∧cv=.slice none 0 0) :
  Inv E { s with hp:=s.hp.set n (.cells v.cells e) } (BO Γ w.heap.size (.own n)) a (w.alloc (.cells cv.cells e))∧Rep (BO Γ w.heap.size (.own n)) (w.alloc (.cells cv.cells e)) (.ptr n 0) (.pointer (some ⟨w.heap.size,0,none⟩)):=by
 obtain ⟨a1,a2⟩:=hr.cellsRep hl hn
 have st:=Xh hI.rw.fresh (.cells cv.cells e) (.own n)
 refine ⟨hI.fill _ _ hd hb ⟨w.heap.size,cv.cells,Yk _ _ _,heap_alloc_new w _,a1,fun i c hc=>?_⟩,.ptr _ _ _ (Yk _ _ _)⟩
 obtain ⟨b1,b2,b3⟩:=a2 i c hc
 exact ⟨b1,b2.mono st.fix st.own,.nil b3⟩
theorem Znx (hG:GOk G E.W0)(hI:Inv E s Γ a w){g:Option (Nat×Bool)}{r:Nat}{u:Za}(he:Q3 G base r ⟨o.dst,(cOp P hand draw o).getD .bad,g⟩ s=some u){K:Act→World→Prop}{Q:Exit→Act→World→Prop}(hK:∀ Γ a w,Inv E u Γ a w→K a w) :
  o.wp P a w K Q:=by
 unfold Q3 at he
 split at he <;> first | (cases he; done) | skip
 rename_i hd
 obtain ⟨hd,hbs⟩:=hd
 have hd':s.hp[base + r]? = some .dead:=by
  unfold Zir at hd
  split at hd
  ·assumption
  ·cases hd
 split at he <;> first | (cases he; done) | skip
 ·rename_i t cells hop
  obtain rfl:=Option.some.inj he
  obtain ⟨z,h1,h2,h3,rfl⟩:=ZoS (Zca hop (by nofun))
  obtain ⟨i,zv,hi,hzv,hrep⟩:=Ee h2
  obtain ⟨k1,k2⟩:=hrep Γ w
  obtain ⟨i1,i2⟩:=Zfh hI (e := t) hd' (by omega) k1 (IP h3) k2
  have hrun:(execOp a.eval o).run P w=.ok (.value (.pointer (some ⟨w.heap.size,0,none⟩))) (w.alloc (.cells zv.cells t)):=by
   simp only [execOp,h1]
   simp [Instr.alloc,zeroValue,typeInfo,hi,hzv,newVar,newRow]
  unfold Oper.wp
  rw [hrun]
  obtain ⟨Γ2,j2⟩:=i1.put o.dst i2 (.of_ne (by simp))
  exact hK _ _ _ j2
 ·rename_i t n x hop
  split at he <;> first | (cases he; done) | skip
  rename_i v hv
  split at he <;> first | (cases he; done) | skip
  rename_i hl
  obtain rfl:=Option.some.inj he
  obtain ⟨x',h1,h2⟩:=ZmJ (Zca hop (by nofun))
  obtain ⟨k1,k2⟩:=Zh hG hI h2 hv
  obtain ⟨i1,i2⟩:=Zfh hI (e := t) hd' (by omega) k1 hl.2 k2
  have hrun:(execOp a.eval o).run P w=.ok (.value (.pointer (some ⟨w.heap.size,0,none⟩))) (w.alloc (.cells (a.eval x').cells t)):=by
   simp only [execOp,h1]
   simp [Instr.box,newVar,newRow]
  unfold Oper.wp
  rw [hrun]
  obtain ⟨Γ2,j2⟩:=i1.put o.dst i2 (.of_ne (by simp))
  exact hK _ _ _ j2
theorem Zat (hG:GOk G E.W0)(hS:Z5 P E.W0 call){ops:Array Oper}{g:Option (Nat×Bool)}{u:Za}{K:Act→World→Prop}{Q:Exit→Act→World→Prop}(h2:Ie ops o.guard=some g)
  (he:Zq G call ⟨o.dst,(cOp P hand draw o).getD .bad,g⟩ s=some u) (hI:Inv E s Γ a w) (hK:∀ Γ a w,Inv E u Γ a w→K a w) :
  if Region.wanted o (yielded ops a.tmps)=true then o.wp P a w K Q∨(o.asks P a w∧LetsOut Q) else K (a.put o.dst Go.undef) w:=by
 simp only [Zq] at he
 split at he <;> first | (cases he; done) | skip
 ·rename_i hw
  rw [WI hI h2 hw]
  split at he <;> first | (cases he; done) | skip
  rename_i v s2 hev
  obtain rfl:=Option.some.inj he
  simp only [if_true]
  refine .inl (ZiU hG hS hI (Qu hev) hev fun Γ' cv w' i1 r1 o1=>?_)
  obtain ⟨Γ2,i2⟩:=i1.put o.dst r1 o1
  exact hK _ _ _ i2
 ·rename_i hw
  rw [WI hI h2 hw]
  obtain rfl:=Option.some.inj he
  simp only [Bool.false_eq_true,if_false]
  obtain ⟨Γ2,i2⟩:=hI.put o.dst (v := .undef) (cv := Go.undef) .undef (.of_ne (by simp))
  exact hK _ _ _ i2
theorem Zlj (hG:GOk G E.W0)(hS:Z5 P E.W0 (ZT call)){ops:Array Oper}{g:Option (Nat×Bool)}{u:Za}{K:Act→World→Prop}{Q:Exit→Act→World→Prop}(h2:Ie ops o.guard=some g)
  (he:VM G call base al ⟨o.dst,(cOp P hand draw o).getD .bad,g⟩ s=some u) (hI:Inv E s Γ a w) (hK:∀ Γ a w,Inv E u Γ a w→K a w) :
  if Region.wanted o (yielded ops a.tmps)=true then o.wp P a w K Q∨(o.asks P a w∧LetsOut Q) else K (a.put o.dst Go.undef) w:=by
 unfold VM at he
 split at he
 ·
  rename_i hc
  obtain ⟨k,hk,hk'⟩:=Ld (Za6 hc)
  refine Zat (hand := hand) (draw := draw) hG hS h2 ?_ hI hK
  unfold MZ at he
  split at he <;> first | (cases he; done) | skip
  rename_i s1 h1
  obtain rfl:=Option.some.inj he
  show Zq G (ZT call) ⟨o.dst,(cOp P hand draw o).getD .bad,g⟩ s=_
  simp only [Zq] at h1 ⊢
  have wg:∀ h,Yv { s with hp:=h } g=Yv s g:=fun h=>by cases g <;> rfl
  rw [wg] at h1
  split at h1 <;> first | (cases h1; done) | skip
  ·rename_i hw
   split at h1 <;> first | (cases h1; done) | skip
   rename_i v s2 hev
   obtain rfl:=Option.some.inj h1
   obtain ⟨e1,e2,e3,e4⟩:=ZpI hk hk' hev (Pfx.take base s.hp)
   have e4':Zb G (ZT call) s ((cOp P hand draw o).getD .bad)=some (v,{ s2 with hp:=s.hp }):=e4
   rw [e4']
   simp only [Yc]
  ·rename_i hw
   obtain rfl:=Option.some.inj h1
   simp only [Yc]
 ·
  split at he
  ·rename_i hal
   have hg:g=none:=by
    unfold Xw at hal
    split at hal <;> first | (cases hal; done) | assumption
   subst hg
   have hw:Region.wanted o (yielded ops a.tmps)=true:=WI hI h2 (b := true) rfl
   rw [hw]
   simp only [if_true]
   exact .inl (Znx hG hI he hK)
  ·unfold Ud at he
   split at he <;> first | (cases he; done) | skip
   split at he <;> first | (cases he; done) | skip
   split at he <;> first | (cases he; done) | skip
   exact Zat hG hS h2 he hI hK
 ·exact Zat hG hS h2 he hI hK
theorem Zln (hG:GOk G E.W0)(hS:Z5 P E.W0 (ZT call)){ops:Array Oper}{bops:List ZH}{Q:Exit→Act→World→Prop}{sF:Za}(hc:Xd P hand draw ops ops.toList=some bops)
  (hord:∀ i,i < ops.size→(match ops[i]? with | some o=>o.after.all fun e=>!Region.binds .any e || decide (e.on < i) | none=>false)=true)
  (hpair:∀ i,i < ops.size→∀ j,j < i→(Bi ops i j || (match bops[j]?,bops[i]? with | some x,some y=>Zg2 al x y | _,_=>false))=true) (hQ:∀ Γ a w,Inv E sF Γ a w→Q .normal a w) :
  ∀ (fuel:Nat) {listed:Array Bool} {s:Za} {Γ:Zo} {a:Act} {w:World},listed.size=ops.size→XF ops listed→(YF ops.size listed).length=fuel→Jp G call base al ((YF ops.size listed).map fun i=>bops.getD i ⟨none,.bad,none⟩) s=some sF→Inv E s Γ a w→wpAny P .any ops Q fuel listed a w:=by
 obtain ⟨hlen,hget⟩:=Qy hc
 intro fuel
 induction fuel with
 | zero =>
  intro listed s Γ a w hsz hcl hl h hI
  have hn:=List.eq_nil_of_length_eq_zero hl
  rw [hn] at h
  obtain rfl:=Option.some.inj (by simpa [Jp] using h:some s=some sF)
  refine ⟨List.eq_nil_iff_forall_not_mem.2 fun i hi=>?_,hQ _ _ _ hI⟩
  obtain ⟨h1,o,h2,_⟩:=mem_ready.1 hi
  have:i ∈ YF ops.size listed:=Yf.2 ⟨(Array.getElem?_eq_some_iff.1 h2).1,h1⟩
  rw [hn] at this
  cases this
 | succ fuel ih =>
  intro listed s Γ a w hsz hcl hl h hI
  have hlisted:∀ j,j < ops.size→listed.getD j true≠false→listed.getD j false=true:=fun j hj h=>by
   have hj':j < listed.size:=by omega
   simp [hj'] at h ⊢; exact h
  refine ⟨fun hr=>?_,fun i hi=>?_⟩
  ·obtain ⟨i,r,hir⟩:∃ i r,YF ops.size listed=i :: r:=by
    cases hx:YF ops.size listed with
    | nil=>rw [hx] at hl; cases hl
    | cons i r=>exact ⟨i,r,rfl⟩
   have him:=Yf.1 (show i ∈ YF ops.size listed by rw [hir]; exact List.mem_cons_self ..)
   have hoi:ops[i]? = some ops[i]:=Array.getElem?_eq_getElem him.1
   have hready:i ∈ Region.ready .any ops listed:=by
    refine mem_ready.2 ⟨him.2,_,hoi,fun e he hb=>?_⟩
    have:=hord i him.1
    rw [hoi] at this
    have hlt:=Array.all_eq_true'.1 this e he
    rw [hb] at hlt
    simp only [Bool.not_true,Bool.false_or,decide_eq_true_eq] at hlt
    refine hlisted e.on (by omega) fun hun=>?_
    have hm:=Yf.2 ⟨show e.on < ops.size by omega,hun⟩
    rw [hir] at hm
    have hs:=WQ ops.size listed
    rw [hir] at hs
    rcases List.mem_cons.1 hm with he | hm
    ·omega
    ·have:=(List.pairwise_cons.1 hs).1 _ hm
     omega
   rw [hr] at hready
   cases hready
  ·obtain ⟨hun,o,ho,hdeps⟩:=mem_ready.1 hi
   have hin:=(Array.getElem?_eq_some_iff.1 ho).1
   obtain ⟨l1,l2,hsplit⟩:=List.append_of_mem (Yf.2 ⟨hin,hun⟩)
   have hs:=WQ ops.size listed
   rw [hsplit] at hs
   obtain ⟨g,hg1,hg2⟩:=hget i o (by simpa using ho)
   have hbi:bops.getD i ⟨none,.bad,none⟩=⟨o.dst,(cOp P hand draw o).getD .bad,g⟩:=by rw [List.getD_eq_getElem?_getD,hg2]; rfl
   have hcomm:∀ x ∈ l1.map (fun i=>bops.getD i ⟨none,.bad,none⟩),Zg2 al x ⟨o.dst,(cOp P hand draw o).getD .bad,g⟩=true:=fun x hx=>by
    obtain ⟨j,hj,rfl⟩:=List.mem_map.1 hx
    have hji:j < i:=(List.pairwise_append.1 hs).2.2 j hj i (List.mem_cons_self ..)
    have hjm:=Yf.1 (show j ∈ YF ops.size listed by rw [hsplit]; exact List.mem_append_left _ hj)
    have:=hpair i hin j hji
    rw [Bool.or_eq_true] at this
    rcases this with h1 | h1
    ·exfalso
     have h2:=hcl.ready ho hdeps (TZ h1)
     rw [Un hjm.2] at h2
     cases h2
    ·rw [hg2] at h1
     split at h1
     ·rename_i x y hx hy
      cases hy
      rw [List.getD_eq_getElem?_getD,hx]
      exact h1
     ·cases h1
   rw [hsplit,List.map_append,List.map_cons,hbi] at h
   obtain ⟨u,hu1,hu2⟩:=Zh6 hcomm h
   rw [← List.map_append,← Vt hsplit (by omega)] at hu2
   have hlen2:(YF ops.size (listed.setIfInBounds i true)).length=fuel:=by
    rw [Vt hsplit (by omega)]
    rw [hsplit] at hl
    simp at hl ⊢
    omega
   unfold wpOp
   simp only [ho]
   exact Zlj hG hS hg1 hu1 hI fun Γ' a' w' hI'=>ih (by simp [hsz]) (hcl.list ho hdeps) hlen2 hu2 hI'
theorem Inv.keepFree (h:Inv E s Γ a w)(n:Nat):Inv E { s with hp:=s.hp ++ Xv n } Γ a w:=by
 refine ⟨h.defers,h.slots,⟨fun g o hg=>?_,h.rw.inj,h.rw.fresh,fun b g hb=>?_,h.rw.old,h.rw.oldImm,fun g hg b hb=>?_⟩,h.fr,h.base,h.base2,?_,h.back⟩
 ·rw [List.getElem?_append] at hg
  split at hg
  ·exact h.rw.objs g o hg
  ·have:=List.eq_of_mem_replicate (List.mem_of_getElem? hg)
   subst this
   trivial
 ·have:=h.rw.lt b g hb
  simp only [List.length_append]
  omega
 ·have:=h.rw.lt b g hb
  rw [List.getElem?_append_left this] at hg
  exact h.rw.dead g hg b hb
 ·have:=h.le
  simp only [List.length_append]
  omega
theorem Zap (hG:GOk G E.W0)(hS:Z5 P E.W0 (ZT call)){ops:Array Oper}{bops:List ZH}{Q:Exit→Act→World→Prop}{sF:Za}(hc:Xd P hand draw ops ops.toList=some bops)(hd:PI ops bops=true)(hQ:∀ Γ a w,Inv E sF Γ a w→Q .normal a w)
  (h:Z8 G (ZT call) bops s=some sF) (hI:Inv E s Γ a w):wpAny P .any ops Q ops.size (Array.replicate ops.size false) a w:=by
 simp only [PI,Bool.and_eq_true,List.all_eq_true,List.mem_range] at hd
 obtain ⟨⟨⟨⟨hord,_⟩,hok⟩,hnd⟩,hpair⟩:=hd
 have hr:YF ops.size (Array.replicate ops.size false)=List.range ops.size:=by
  unfold YF
  refine List.filter_eq_self.2 fun i hi=>?_
  simp only [List.mem_range] at hi
  simp [hi]
 have hmap:(List.range ops.size).map (fun i=>bops.getD i ⟨none,.bad,none⟩)=bops:=by
  have hl:ops.size=bops.length:=by simpa using (Qy hc).1
  rw [hl]
  refine List.ext_getElem? fun i=>?_
  rw [List.getElem?_map]
  by_cases hi:i < bops.length
  ·rw [List.getElem?_range hi,Option.map_some,List.getD_eq_getElem?_getD,List.getElem?_eq_getElem hi]; rfl
  ·rw [List.getElem?_eq_none (by simpa using hi),List.getElem?_eq_none (by omega)]; rfl
 have hs:=sim (base := s.hp.length) hnd hok (Nat.zero_le _) h hI.le rfl (fun r t v hr=>absurd hr (Nat.not_lt_zero _))
 exact Zln hG hS hc hord hpair hQ ops.size (by simp) (.start ops _) (by rw [hr]; simp) (by rw [hr,hmap]; exact hs) (hI.keepFree _)
end
end Go.Proofs.YtleomfgijkapfaaGreatDoor.Abs
end
section
namespace Go.Proofs.YtleomfgijkapfaaGreatDoor.Abs
open Go Go.RowKit
section
variable {P:Program}{G:Nat→Option (List AV)}{call:FuncId→List AV→List Zp→Option (AV×List Zp×Eff)}{E:Entry}{s s':Za}{Γ:Zo}{a:Act}{w:World}{hand:Nat→Bool}{draw:Bool}
def Ends (E:Entry)(r:U5×Za)(e:Exit)(a:Act)(w:World):Prop :=
 (match r.1,e with
  | .normal,.normal=>True
  | .exit i,.exit j=>i=j
  | .ret,.ret=>True
  | _,_=>False)∧∃ Γ,Inv E r.2 Γ a w
theorem Ends.normal {s:Za}{Γ:Zo}{a:Act}{w:World}(h:Inv E s Γ a w):Ends E (.normal,s) .normal a w:=⟨trivial,Γ,h⟩
theorem Zdx {c:Code}{f:Za→Option (U5×Za)}(ih:∀ {s:Za} {r:U5×Za} {Γ:Zo} {a:Act} {w:World},f s=some r→Inv E s Γ a w→c.wp P (Ends E r) a w) :
  ∀ (n:Nat) {s:Za} {r:U5×Za} {Γ:Zo} {a:Act} {w:World},iter f n s=some r→Inv E s Γ a w→Code.rounds P c (Ends E r) n a w
 | 0,_,_,_,_,_,h,_=>by cases h
 | n + 1,s,r,Γ,a,w,h,hI=>by
  rw [rounds_succ]
  simp only [iter] at h
  split at h
  ·rename_i s1 h1
   refine Go.wp_mono (ih h1 hI) fun e a' w' he=>?_
   obtain ⟨k1,Γ',i1⟩:=he
   cases e <;> first | exact k1.elim | skip
   exact Zdx ih n h i1
  ·rename_i hne
   refine Go.wp_mono (ih h hI) fun e a' w' he=>?_
   cases e <;> first | exact he | skip
   obtain ⟨k1,_⟩:=he
   obtain ⟨x,s1⟩:=r
   cases x <;> first | exact k1.elim | skip
   exact absurd h (hne s1)
theorem ZmR (hm:P.follows .mixedOrders=true)(hG:GOk G E.W0)(hS:Z5 P E.W0 call)(hB:Z5 P E.W0 (ZT call)){takes:FuncId→List Nat}{res:List Nat}(L:Nat):∀ {c:Code} {ac:V4} {s:Za} {r:U5×Za} {Γ:Zo} {a:Act} {w:World},
  Ht P takes res c=some ac→Zt G call L ac s=some r→Inv E s Γ a w→c.wp P (Ends E r) a w:=by
 intro c
 induction c with
 | skip =>
  intro ac s r Γ a w hc h hI
  cases hc; cases h
  exact Go.wp_skip (.normal hI)
 | region id ops draw =>
  intro ac s r Γ a w hc h hI
  cases draw with
  | false =>
   simp only [Ht] at hc
   obtain ⟨aops,h1,rfl⟩:=Option.map_eq_some_iff.1 hc
   simp only [Zt] at h
   obtain ⟨s1,h2,rfl⟩:=Option.map_eq_some_iff.1 h
   refine wp_region ?_
   rw [List.range_eq_range']
   have:=Zf7 hG hS (Q := Ends E (.normal,s1)) 0 (l := ops.toList) (by simp) h1 h2 hI fun Γ a w h=>.normal h
   simpa using this
  | true =>
   simp only [Ht] at hc
   split at hc <;> first | (cases hc; done) | skip
   rename_i aops bops h1 h1'
   split at hc
   ·rename_i hq
    simp only [Bool.and_eq_true] at hq
    cases hc
    generalize IX ops ops.size=n at *
    simp only [Zt] at h
    have hl:ops.size=bops.length:=by simpa using (Qy h1').1
    have hnle:n≤ops.size:=by
     have:=hq.2
     simp only [Zlu,Bool.and_eq_true,decide_eq_true_eq] at this
     exact this.1.1.2
    cases h2:Z8 G (WE call) (bops.take n) s with
    | none=>rw [h2] at h; simp at h
    | some s1 =>
     rw [h2] at h
     simp only [Option.map_some] at h
     obtain ⟨s2,h3,rfl⟩:=Option.map_eq_some_iff.1 h
     refine wp_region_any hm ?_
     have hb:Behind w { w with drawn:=w.drawn + 1 }:=⟨rfl,rfl,rfl,Nat.le_refl _,fun _ _=>rfl⟩
     have hrep:∀ i,i < ops.size→(Array.replicate ops.size false).getD i true=false:=fun i hi=>by simp [hi]
     have hr:YF n (Array.replicate ops.size false)=List.range n:=by
      unfold YF
      refine List.filter_eq_self.2 fun i hi=>?_
      simp only [List.mem_range] at hi
      rw [hrep i (by omega)]; rfl
     have hr2:U0 n ops.size (Array.replicate ops.size false)=(List.range ops.size).drop n:=by
      unfold U0
      rw [show (List.range ops.size)=List.range n ++ (List.range ops.size).drop n from by
       rw [show List.range n=(List.range ops.size).take n from by rw [List.take_range,Nat.min_eq_left hnle],List.take_append_drop]]
      rw [List.filter_append,List.filter_eq_nil_iff.2 (fun i hi=>by
       simp only [List.mem_range] at hi
       have:¬ n≤i:=by omega
       simp [this]),List.nil_append]
      rw [List.drop_append_of_le_length (by simp),show (List.range n).drop n=[] from by simp,List.nil_append]
      refine List.filter_eq_self.2 fun i hi=>?_
      obtain ⟨k,hk⟩:=List.mem_iff_getElem?.1 hi
      rw [List.getElem?_drop] at hk
      have hlt:=(List.getElem?_eq_some_iff.1 hk).1
      rw [List.getElem?_range (by simpa using hlt)] at hk
      cases hk
      simp only [List.length_range] at hlt
      rw [hrep _ hlt]; simp
     have hmap:(List.range ops.size).map (fun i=>bops.getD i ⟨none,.bad,none⟩)=bops:=by
      rw [hl]
      refine List.ext_getElem? fun i=>?_
      rw [List.getElem?_map]
      by_cases hi:i < bops.length
      ·rw [List.getElem?_range hi,Option.map_some,List.getD_eq_getElem?_getD,List.getElem?_eq_getElem hi]; rfl
      ·rw [List.getElem?_eq_none (by simpa using hi),List.getElem?_eq_none (by omega)]; rfl
     refine ZnO hG hS (n := n) (Q := Ends E (.normal,s2)) h1' hq.2 (fun Γ a w h=>.normal h) ops.size (s1 := s1) (by simp) (.start ops _) (by rw [hr,hr2]; simp; omega) ?_ ?_ (hb.inv hI)
     ·rw [hr,show List.range n=(List.range ops.size).take n from by rw [List.take_range,Nat.min_eq_left hnle],List.map_take,hmap]; exact h2
     ·rw [hr2,List.map_drop,hmap]; exact h3
   split at hc
   ·rename_i hd
    rw [Bool.and_eq_true] at hd
    cases hc
    simp only [Zt] at h
    obtain ⟨s1,h2,rfl⟩:=Option.map_eq_some_iff.1 h
    refine wp_region_any hm ?_
    have hb:Behind w { w with drawn:=w.drawn + 1 }:=⟨rfl,rfl,rfl,Nat.le_refl _,fun _ _=>rfl⟩
    exact Zap hG hB (Q := Ends E (.normal,s1)) h1' hd.2 (fun Γ a w h=>.normal h) h2 (hb.inv hI)
   split at hc
   ·rename_i hq
    simp only [Bool.and_eq_true] at hq
    cases hc
    simp only [Zt] at h
    obtain ⟨s1,h2,rfl⟩:=Option.map_eq_some_iff.1 h
    refine wp_region_quiet (C := Behind w) hm hq.1 ⟨rfl,rfl,rfl,Nat.le_refl _,fun _ _=>rfl⟩ ?_
    exact N9 hG hS h1 hq.2 h2 hI fun Γ a w h=>.normal h
   ·split at hc
    ·rename_i hd
     cases hc
     simp only [Zt] at h
     obtain ⟨s1,h2,rfl⟩:=Option.map_eq_some_iff.1 h
     refine wp_region_any hm ?_
     have hb:Behind w { w with drawn:=w.drawn + 1 }:=⟨rfl,rfl,rfl,Nat.le_refl _,fun _ _=>rfl⟩
     have hr:YF ops.size (Array.replicate ops.size false)=List.range ops.size:=by
      unfold YF
      refine List.filter_eq_self.2 fun i hi=>?_
      simp only [List.mem_range] at hi
      simp [hi]
     have hmap:(List.range ops.size).map (fun i=>bops.getD i ⟨none,.bad,none⟩)=bops:=by
      have hl:ops.size=bops.length:=by simpa using (Qy h1').1
      rw [hl]
      refine List.ext_getElem? fun i=>?_
      rw [List.getElem?_map]
      by_cases hi:i < bops.length
      ·rw [List.getElem?_range hi,Option.map_some,List.getD_eq_getElem?_getD,List.getElem?_eq_getElem hi]; rfl
      ·rw [List.getElem?_eq_none (by simpa using hi),List.getElem?_eq_none (by omega)]; rfl
     exact ZnN hG hS (Q := Ends E (.normal,s1)) h1' hd (fun Γ a w h=>.normal h) ops.size (by simp) (.start ops _) (by rw [hr]; simp) (by rw [hr,hmap]; exact h2) (hb.inv hI)
    ·split at hc
     ·rename_i hd
      cases hc
      simp only [Zt] at h
      obtain ⟨s1,h2,rfl⟩:=Option.map_eq_some_iff.1 h
      refine wp_region_any hm ?_
      have hb:Behind w { w with drawn:=w.drawn + 1 }:=⟨rfl,rfl,rfl,Nat.le_refl _,fun _ _=>rfl⟩
      exact Zap hG hB (Q := Ends E (.normal,s1)) h1' hd (fun Γ a w h=>.normal h) h2 (hb.inv hI)
     ·cases hc; cases h
 | seq x y ihx ihy =>
  intro ac s r Γ a w hc h hI
  simp only [Ht] at hc
  split at hc <;> first | (cases hc; done) | skip
  rename_i ax ay hx hy
  obtain rfl:=Option.some.inj hc
  simp only [Zt] at h
  refine Go.wp_seq ?_
  split at h
  ·rename_i s1 h1
   refine Go.wp_mono (ihx hx h1 hI) fun e a' w' he=>?_
   obtain ⟨k1,Γ',i1⟩:=he
   cases e <;> first | exact k1.elim | skip
   exact ihy hy h i1
  ·rename_i hne
   refine Go.wp_mono (ihx hx h hI) fun e a' w' he=>?_
   cases e <;> first | exact he | skip
   obtain ⟨k1,_⟩:=he
   obtain ⟨q,s1⟩:=r
   cases q <;> first | exact k1.elim | skip
   exact absurd h (hne s1)
 | cond c x y ihx ihy =>
  intro ac s r Γ a w hc h hI
  simp only [Ht] at hc
  split at hc <;> first | (cases hc; done) | skip
  rename_i c' ax ay hcc hx hy
  obtain rfl:=Option.some.inj hc
  simp only [Zt] at h
  split at h <;> first | (cases h; done) | skip
  ·rename_i hb
   have k:=(Zh hG hI hcc hb).1
   generalize hq:a.eval c=q at k
   cases k
   exact Go.wp_cond_true hq (ihx hx h hI)
  ·rename_i hb
   have k:=(Zh hG hI hcc hb).1
   generalize hq:a.eval c=q at k
   cases k
   exact Go.wp_cond_false hq (ihy hy h hI)
 | block id c ih =>
  intro ac s r Γ a w hc h hI
  simp only [Ht] at hc
  obtain ⟨ax,hx,rfl⟩:=Option.map_eq_some_iff.1 hc
  simp only [Zt] at h
  refine Go.wp_block ?_
  split at h
  ·rename_i i s1 h1
   split at h
   ·rename_i hi
    obtain rfl:=Option.some.inj h
    refine Go.wp_mono (ih hx h1 hI) fun e a' w' he=>?_
    obtain ⟨k1,Γ',i1⟩:=he
    cases e <;> first | exact k1.elim | skip
    rename_i j
    simp only [Exit.inBlock]
    rw [if_pos (by rw [← hi]; exact (show i=j from k1).symm)]
    exact .normal i1
   ·rename_i hi
    obtain rfl:=Option.some.inj h
    refine Go.wp_mono (ih hx h1 hI) fun e a' w' he=>?_
    obtain ⟨k1,Γ',i1⟩:=he
    cases e <;> first | exact k1.elim | skip
    rename_i j
    simp only [Exit.inBlock]
    rw [if_neg (by rw [← (show i=j from k1)]; exact hi)]
    exact ⟨k1,Γ',i1⟩
  ·rename_i hne
   refine Go.wp_mono (ih hx h hI) fun e a' w' he=>?_
   cases e <;> first | exact he | skip
   obtain ⟨k1,_⟩:=he
   obtain ⟨q,s1⟩:=r
   cases q <;> first | exact k1.elim | skip
   exact absurd h (hne _ s1)
 | loop c ih =>
  intro ac s r Γ a w hc h hI
  simp only [Ht] at hc
  obtain ⟨ax,hx,rfl⟩:=Option.map_eq_some_iff.1 hc
  simp only [Zt] at h
  exact wp_loop_rounds L (Zdx (fun h1 h2=>ih hx h1 h2) L h hI)
 | scope c ih =>
  intro ac s r Γ a w hc h hI
  simp only [Ht] at hc
  obtain ⟨ax,hx,rfl⟩:=Option.map_eq_some_iff.1 hc
  simp only [Zt] at h
  refine Go.wp_scope_straight (Go.wp_mono (ih hx h hI) fun e a' w' he=>?_)
  cases e <;> first | exact he | skip
  obtain ⟨k1,_⟩:=he
  obtain ⟨q,s1⟩:=r
  cases q <;> exact k1.elim
 | exit id =>
  intro ac s r Γ a w hc h hI
  cases hc; cases h
  exact Go.wp_exit ⟨rfl,Γ,hI⟩
 | ret =>
  intro ac s r Γ a w hc h hI
  cases hc; cases h
  exact Go.wp_ret ⟨trivial,Γ,hI⟩
 | label l =>
  intro ac s r Γ a w hc h hI
  cases hc; cases h
  exact Go.wp_label (.normal hI)
 | _ =>
  intro ac s r Γ a w hc h
  cases hc; cases h
end
end Go.Proofs.YtleomfgijkapfaaGreatDoor.Abs
end
section
namespace Go.Proofs.YtleomfgijkapfaaGreatDoor.Abs
open Go Go.RowKit
section
variable {P:Program}{G:Nat→Option (List AV)}{E:Entry}{s:Za}{Γ:Zo}{a:Act}{w:World}
def NR (tmps:Array Value):ResultVar→Sem Value
 | .tmp t=>pure (tmps.getD t Go.undef)
 | .cell x t=>do loadVar t (← asAddr (tmps.getD x Go.undef))
def packed:List Value→Value
 | [v]=>v
 | vs=>.tuple vs.toArray
theorem NS {fn:Func}{tmps:Array Value}{vs:List Value}(h:(fn.results.toList.mapM (NR tmps)).run P w=.ok vs w):(results fn tmps).run P w=.ok (packed vs) w:=by
 have e0:results fn tmps=(do let vs ← fn.results.mapM (NR tmps); pure (if h:vs.size=1 then vs[0] else .tuple vs)):=by
  unfold results
  congr 1
 rw [e0]
 obtain ⟨l,hl⟩:∃ l,fn.results=⟨l⟩:=⟨fn.results.toList,rfl⟩
 rw [hl] at h ⊢
 have e:((⟨l⟩:Array ResultVar).mapM (NR tmps)).run P w=.ok vs.toArray w:=by
  rw [List.mapM_toArray,map_eq_pure_bind,Sem.run_bind,h]
  rfl
 rw [Sem.run_bind,e]
 simp only [Result.andThen_ok,Sem.run_pure]
 cases vs with
 | nil=>rfl
 | cons v vs=>cases vs <;> rfl
theorem res_one (hI:Inv E s Γ a w){r:ResultVar}{ar:ZcN}{v:AV}(hc:ZqJ P r=some ar)(h:TB s ar=some v) :
  ∃ cv,(NR a.tmps r).run P w=.ok cv w∧Rep Γ w v cv∧((∃ t,cv=a.tmps.getD t Go.undef∧s.sl[t]? = some v)∨∀ k r,v≠.own k r):=by
 cases r with
 | tmp t =>
  obtain rfl:=Option.some.inj hc
  exact ⟨a.tmps.getD t Go.undef,rfl,hI.slots.rep t v h,.inl ⟨t,rfl,h⟩⟩
 | cell t ty =>
  simp only [ZqJ] at hc
  split at hc
  ·rename_i hag
   obtain rfl:=Option.some.inj hc
   simp only [TB] at h
   split at h <;> first | (cases h; done) | skip
   rename_i x hx
   obtain ⟨b,off,cv,e,hl,hcell,hr,hn⟩:=Zi0 hI (hI.slots.rep t x hx) h
   have hu:=Na hag
   obtain ⟨i,hi⟩:=info_of_underlying hu
   have hld:=run_loadCells_list (P := P) w ⟨b,off,none⟩ cv (fun j y hj=>by rw [add_lit]; exact hcell j y hj)
   rw [hl] at hld
   refine ⟨_,?_,hr,.inr hn⟩
   simp only [NR,e]
   simp [asAddr,loadVar,Uo hag hu,ZE hi,hld]
  ·rename_i hag
   split at hc <;> first | (cases hc; done) | skip
   rename_i hu
   obtain rfl:=Option.some.inj hc
   simp only [TB] at h
   split at h <;> first | (cases h; done) | skip
   rename_i x hx
   obtain ⟨b,off,cv,e,hcell,hr,hn⟩:=Zi2 hI (hI.slots.rep t x hx) h
   refine ⟨cv,?_,hr,.inr hn⟩
   simp only [NR,e]
   simp [asAddr,loadVar,Uo (by simpa using hag) hu,hcell]
theorem Zju (hI:Inv E s Γ a w):∀ {rs:List ResultVar} {ars:List ZcN} {vs:List AV},Zb2 P rs=some ars→Uf s ars=some vs →
  ∃ cvs:List Value,(rs.mapM (NR a.tmps)).run P w=.ok cvs w∧cvs.length=vs.length∧ars.length=rs.length∧∀ (j:Nat) (x:AV),vs[j]? = some x→∃ u,cvs[j]? = some u∧Rep Γ w x u
 | [],ars,vs,hc,h=>by
  cases hc; cases h
  exact ⟨[],rfl,rfl,rfl,fun j x hx=>by simp at hx⟩
 | r :: rs,ars,vs,hc,h=>by
  simp only [Zb2] at hc
  split at hc <;> first | (cases hc; done) | skip
  rename_i ar l h1 h2
  obtain rfl:=Option.some.inj hc
  simp only [Uf] at h
  split at h <;> first | (cases h; done) | skip
  rename_i v vs' h3 h4
  obtain rfl:=Option.some.inj h
  obtain ⟨cv,e1,r1,_⟩:=res_one hI h1 h3
  obtain ⟨cvs,e2,e3,e4,e5⟩:=Zju hI h2 h4
  refine ⟨cv :: cvs,?_,by simp [e3],by simp [e4],fun j x hx=>?_⟩
  ·rw [List.mapM_cons]
   simp only [Sem.run_bind,e1,Result.andThen_ok,e2]
   rfl
  ·cases j with
   | zero=>obtain rfl:=Option.some.inj hx; exact ⟨cv,rfl,r1.nm⟩
   | succ j =>
    obtain ⟨u,hu,hr⟩:=e5 j x (by simpa using hx)
    exact ⟨u,by simpa using hu,hr⟩
theorem Zmt (hI:Inv E s Γ a w){fn:Func}{rs:List ZcN}{v:AV}(hc:Zb2 P fn.results.toList=some rs)(h:QO s rs=some v) :
  ∃ cv Γ',(results fn a.tmps).run P w=.ok cv w∧RW E.W0 Γ' w s.hp∧Frame E.Γ0 E.w0 Γ' w s.ef∧Rep Γ' w v cv∧OwnAt Γ' w .res v cv∧∀ b g,Γ' b=.own g→g < s.bs→E.Γ0 b=.own g:=by
 have many:∀ vs,Uf s rs=some vs→v=.tup vs→rs.length≠1→∃ cv Γ',(results fn a.tmps).run P w=.ok cv w∧RW E.W0 Γ' w s.hp∧Frame E.Γ0 E.w0 Γ' w s.ef∧Rep Γ' w v cv∧OwnAt Γ' w .res v cv∧∀ b g,Γ' b=.own g→g < s.bs→E.Γ0 b=.own g:=by
  intro vs hvs hv hne
  obtain ⟨cvs,e2,e3,e4,e5⟩:=Zju hI hc hvs
  have hr:=NS e2
  have hvl:vs.length=rs.length:=by
   clear hc e2 e3 e4 e5 hr hv hne h
   induction rs generalizing vs with
   | nil=>cases hvs; rfl
   | cons r rs ih =>
    simp only [Uf] at hvs
    split at hvs <;> first | (cases hvs; done) | skip
    rename_i h1 h2
    obtain rfl:=Option.some.inj hvs
    simp [ih _ h2]
  subst hv
  refine ⟨.tuple cvs.toArray,Γ,?_,hI.rw,hI.fr,.tup vs _ (by simpa using e3) (fun j x hx=>?_),.of_ne (by simp),hI.back⟩
  ·rw [hr]
   cases cvs with
   | nil=>rfl
   | cons u cvs =>
    cases cvs with
    | nil=>simp at e3; omega
    | cons _ _=>rfl
  ·obtain ⟨u,hu,hr⟩:=e5 j x hx
   rw [Array.getD_eq_getD_getElem?,List.getElem?_toArray,hu]
   exact hr
 cases rs with
 | nil =>
  simp only [QO] at h
  obtain ⟨vs,hvs,e⟩:=Option.map_eq_some_iff.1 h
  exact many vs hvs e.symm (by simp)
 | cons r rs =>
  cases rs with
  | cons r' rs =>
   simp only [QO] at h
   obtain ⟨vs,hvs,e⟩:=Option.map_eq_some_iff.1 h
   exact many vs hvs e.symm (by simp)
  | nil =>
   simp only [QO] at h
   cases hl:fn.results.toList with
   | nil=>rw [hl] at hc; cases hc
   | cons q qs =>
    rw [hl] at hc
    simp only [Zb2] at hc
    split at hc <;> first | (cases hc; done) | skip
    rename_i ar l h1 h2
    obtain ⟨rfl,rfl⟩:=List.cons.inj (Option.some.inj hc)
    have hqs:qs=[]:=by
     cases qs with
     | nil=>rfl
     | cons _ _ =>
      simp only [Zb2] at h2
      split at h2 <;> simp at h2
    subst hqs
    obtain ⟨cv,e1,r1,hown⟩:=res_one hI h1 h
    have hrun:=NS (fn := fn) (tmps := a.tmps) (P := P) (w := w) (vs := [cv]) (by
     rw [hl,List.mapM_cons]
     simp only [Sem.run_bind,e1,Result.andThen_ok]
     rfl)
    rcases hown with ⟨t,rfl,ht⟩ | hn
    ·obtain ⟨Γ',i1,r1,o1⟩:=hI.take t ht
     exact ⟨_,Γ',hrun,i1.rw,i1.fr,r1,o1,i1.back⟩
    ·exact ⟨_,Γ,hrun,hI.rw,hI.fr,r1,.of_ne hn,hI.back⟩
end
end Go.Proofs.YtleomfgijkapfaaGreatDoor.Abs
end
section
namespace Go.Proofs.YtleomfgijkapfaaGreatDoor.Abs
open Go Go.RowKit
def Y7 (bs:Nat):Kind→Kind
 | .own g=>if g < bs then .own g else .imm
 | .list n (.cell g i)=>if g < bs then .list n (.cell g i) else .imm
 | k=>k
theorem Ul {bs o:Nat}{k:Kind}(h:WO o k):WO o (Y7 bs k):=by
 cases k with
 | imm=>trivial
 | own g=>exact h.elim
 | list m l =>
  cases l <;> simp only [Y7] <;> first | exact h | skip
  split
  ·exact h
  ·trivial
theorem Qa {bs g:Nat}{k:Kind}(h:Y7 bs k=.own g):k=.own g∧g < bs:=by
 cases k with
 | imm=>cases h
 | own g' =>
  simp only [Y7] at h
  split at h
  ·rename_i hl; cases h; exact ⟨rfl,hl⟩
  ·cases h
 | list m l =>
  cases l <;> simp only [Y7] at h <;> first | (cases h; done) | skip
  split at h <;> cases h
theorem Td {α β:Type}{f:α→Option β}:∀ {l:List α} {r:List β},l.mapM f=some r→r.length=l.length∧∀ (j:Nat) (y:β),r[j]? = some y→∃ x,l[j]? = some x∧f x=some y
 | [],r,h=>by
  simp only [List.mapM_nil] at h
  obtain rfl:=Option.some.inj h
  exact ⟨rfl,fun j y hy=>by simp at hy⟩
 | x :: l,r,h=>by
  rw [List.mapM_cons] at h
  cases hx:f x with
  | none=>rw [hx] at h; cases h
  | some y =>
   cases hl:l.mapM f with
   | none=>rw [hx,hl] at h; cases h
   | some ys =>
    rw [hx,hl] at h
    obtain rfl:=Option.some.inj h
    obtain ⟨e1,e2⟩:=Td hl
    refine ⟨by simp [e1],fun j z hz=>?_⟩
    cases j with
    | zero=>obtain rfl:=Option.some.inj hz; exact ⟨x,rfl,hx⟩
    | succ j =>
     obtain ⟨x',h1,h2⟩:=e2 j z (by simpa using hz)
     exact ⟨x',by simpa using h1,h2⟩
section
variable {W0 w:World}{Γ Γ':Zo}{hp:List Zp}{bs:Nat}
theorem IQ {x:AV}{v:Value}(hf:ZO Γ w Γ' w)(h:Rep Γ w x v)(hn:x.noId1=true):Rep Γ' w x.ro v:=(h.noId hf hn).ro
theorem OwnAt.fix {w':World}{l l':Loc}{x:AV}{v:Value}(hf:ZO Γ w Γ' w')(hb:∀ b n,Γ b=.list n l→Γ' b=.list n l'∧w'.heap[b]? = w.heap[b]?)(h:OwnAt Γ w l x v):OwnAt Γ' w' l' x v:=by
 intro k rows e
 rcases h k rows e with h | ⟨b,cap,e,cur,hv,hg,hh,h1,h2,h3,h4,h5⟩
 ·exact .inl h
 ·obtain ⟨g1,g2⟩:=hb b _ hg
  exact .inr ⟨b,cap,e,cur,hv,g1,g2.trans hh,h1,h2,h3,h4,fun i j r c a1 a2=>⟨(h5 i j r c a1 a2).1,(h5 i j r c a1 a2).2.noId hf (h5 i j r c a1 a2).1⟩⟩
theorem CZ (hr:RW W0 Γ w hp):∀ (d:Nat) {v v':AV} {cv:Value},ZaR bs hp d v=some v'→Rep Γ w v cv→Rep (fun b=>Y7 bs (Γ b)) w v' cv∧(∀ k r,v'≠.own k r)∧(v.one=true→v'.one=true):=by
 have hf:ZO Γ w (fun b=>Y7 bs (Γ b)) w:=fun _ _ _ h1 h2=>⟨Ul h1,h2⟩
 have hown:∀ b g,Γ b=.own g→g < bs→Y7 bs (Γ b)=.own g:=fun b g h hg=>by simp [h,Y7,hg]
 intro d
 induction d with
 | zero =>
  intro v v' cv h hv
  cases v <;> simp only [ZaR] at h
  case arr g off len k =>
   split at h <;> first | (cases h; done) | skip
   rename_i hg
   obtain rfl:=Option.some.inj h
   cases hv with
   | arr _ _ _ _ cap b hb hc=>exact ⟨.arr _ _ _ _ cap b (hown b g hb hg) hc,by simp,fun h=>h⟩
  case ptr g o =>
   split at h <;> first | (cases h; done) | skip
   rename_i hg
   obtain rfl:=Option.some.inj h
   cases hv with
   | ptr _ _ b hb=>exact ⟨.ptr _ _ b (hown b g hb hg),by simp,fun h=>h⟩
  case map g =>
   split at h <;> first | (cases h; done) | skip
   rename_i hg
   obtain rfl:=Option.some.inj h
   cases hv with
   | map _ b hb=>exact ⟨.map _ b (hown b g hb hg),by simp,fun h=>h⟩
  case agg=>cases h
  case tup=>cases h
  case fn f a cs =>
   split at h <;> first | (cases h; done) | skip
   rename_i hg
   obtain rfl:=Option.some.inj h
   refine ⟨?_,by simp,fun h=>h⟩
   have:=hv.noId hf (by simpa [AV.noId1] using hg)
   obtain ⟨rfl,rfl⟩:a=[]∧cs=[]:=by simpa using hg
   exact this
  case undef=>cases h; cases hv; exact ⟨.undef,by simp [AV.ro],fun h=>h⟩
  all_goals
   obtain rfl:=Option.some.inj h
   exact ⟨IQ hf hv rfl,fun _ _=>QJ,fun h=>by rw [Tj]; exact h⟩
 | succ d ih =>
  intro v v' cv h hv
  cases v <;> simp only [ZaR] at h
  case arr g off len k =>
   split at h
   ·rename_i hg
    obtain rfl:=Option.some.inj h
    cases hv with
    | arr _ _ _ _ cap b hb hc=>exact ⟨.arr _ _ _ _ cap b (hown b g hb hg) hc,by simp,fun h=>h⟩
   ·rename_i hg
    split at h <;> first | (cases h; done) | skip
    rename_i cs t hobj
    split at h <;> first | (cases h; done) | skip
    rename_i hfit
    obtain ⟨cs',h1,h2⟩:=Option.bind_eq_some_iff.1 h
    split at h2 <;> first | (cases h2; done) | skip
    rename_i hid
    obtain rfl:=Option.some.inj h2
    obtain ⟨m1,m2⟩:=Td h1
    cases hv with
    | arr _ _ _ _ cap b hb hc =>
     obtain ⟨b',C,o1,o2,o3,o4⟩:=hr.objs g _ hobj
     obtain rfl:=hr.inj b b' g hb o1
     have hlen:cs'.length=len * k:=by rw [m1]; simp; omega
     have hrow:∀ (i:Nat) (r:List AV),(chunk k len cs')[i]? = some r→i < len∧r.length=k∧∀ (j:Nat) (c:AV),r[j]? = some c→j < k∧cs'[i * k + j]? = some c:=by
      intro i r hi
      have hil:=Ze hi
      rw [Xf] at hil
      have he:=PG k len _ i r hi
      have hle:(i + 1) * k≤len * k:=Nat.mul_le_mul_right k hil
      rw [Nat.add_mul,Nat.one_mul] at hle
      refine ⟨hil,by rw [he]; simp; omega,fun j c hj=>?_⟩
      rw [he,List.getElem?_take] at hj
      split at hj
      ·rename_i hjk
       refine ⟨hjk,?_⟩
       rw [List.getElem?_drop] at hj
       exact hj
      ·cases hj
     have hcell:∀ (p:Nat) (c:AV),cs'[p]? = some c→off + p < C.size∧Rep (fun b=>Y7 bs (Γ b)) w c (C.getD (off + p) Go.undef)∧c.noId1=true:=by
      intro p c hp
      obtain ⟨x,x1,x2⟩:=m2 p c hp
      have hpl:=Ze hp
      rw [List.getElem?_take,if_pos (by omega),List.getElem?_drop] at x1
      obtain ⟨_,q2,_⟩:=o4 _ x x1
      exact ⟨by omega,(ih x2 q2).1,List.all_eq_true.1 hid c (List.mem_of_getElem? hp)⟩
     refine ⟨?_,by simp,fun _=>rfl⟩
     have hl:(chunk k len cs').length=len:=Xf k len cs'
     have key:=Rep.lst (Γ := fun b=>Y7 bs (Γ b)) (w := w) k (chunk k len cs') b off cap (fun i j=>C.getD (off + (i * k + j)) Go.undef) (by rw [hl]; exact hc) (fun r hr=>?_) (fun i j r c hi hj=>?_) (fun i j r c hi hj=>?_)
     ·rw [hl] at key; exact key
     ·obtain ⟨i,hi⟩:=List.mem_iff_getElem?.1 hr
      exact (hrow i r hi).2.1
     ·obtain ⟨_,_,h3⟩:=hrow i r hi
      obtain ⟨_,h4⟩:=h3 j c hj
      obtain ⟨q1,q2,q3⟩:=hcell _ c h4
      refine ⟨?_,?_,q3⟩
      ·rw [cell_of_row w b _ C t (0,0) o2]
       exact Yd q1
      ·show WO _ (Y7 bs (Γ b))
       rw [hb]
       simp only [Y7,if_neg hg]
       trivial
     ·obtain ⟨_,_,h3⟩:=hrow i r hi
      obtain ⟨_,h4⟩:=h3 j c hj
      exact (hcell _ c h4).2.1
  case ptr g o =>
   split at h <;> first | (cases h; done) | skip
   rename_i hg
   obtain rfl:=Option.some.inj h
   cases hv with
   | ptr _ _ b hb=>exact ⟨.ptr _ _ b (hown b g hb hg),by simp,fun h=>h⟩
  case map g =>
   split at h <;> first | (cases h; done) | skip
   rename_i hg
   obtain rfl:=Option.some.inj h
   cases hv with
   | map _ b hb=>exact ⟨.map _ b (hown b g hb hg),by simp,fun h=>h⟩
  case agg=>cases h
  case tup=>cases h
  case fn f a cs =>
   split at h <;> first | (cases h; done) | skip
   rename_i hg
   obtain rfl:=Option.some.inj h
   refine ⟨?_,by simp,fun h=>h⟩
   have:=hv.noId hf (by simpa [AV.noId1] using hg)
   obtain ⟨rfl,rfl⟩:a=[]∧cs=[]:=by simpa using hg
   exact this
  case undef=>cases h; cases hv; exact ⟨.undef,by simp [AV.ro],fun h=>h⟩
  all_goals
   obtain rfl:=Option.some.inj h
   exact ⟨IQ hf hv rfl,fun _ _=>QJ,fun h=>by rw [Tj]; exact h⟩
theorem La (hr:RW W0 Γ w hp){v v':AV}{cv:Value}(h:Zhr bs hp v=some v')(hv:Rep Γ w v cv):Rep (fun b=>Y7 bs (Γ b)) w v' cv∧∀ k r,v'≠.own k r:=by
 unfold Zhr at h
 split at h
 ·rename_i cs
  obtain ⟨cs',h1,rfl⟩:=Option.map_eq_some_iff.1 h
  obtain ⟨m1,m2⟩:=Td h1
  cases hv with
  | agg _ u hs k1 kn kr =>
   refine ⟨.agg cs' u (by rw [hs,m1]) (fun j c hc=>?_) (fun j k r hc=>?_) (fun j c hc=>?_),by simp⟩
   ·obtain ⟨x,x1,x2⟩:=m2 j c hc
    exact (CZ hr 4 x2 (kr j x x1)).2.2 (k1 j x x1)
   ·obtain ⟨x,x1,x2⟩:=m2 j _ hc
    exact absurd rfl ((CZ hr 4 x2 (kr j x x1)).2.1 k r)
   ·obtain ⟨x,x1,x2⟩:=m2 j c hc
    exact (CZ hr 4 x2 (kr j x x1)).1
 ·obtain ⟨h1,h2,_⟩:=CZ hr 4 h hv
  exact ⟨h1,h2⟩
theorem ZlZ (hr:RW W0 Γ w hp){v v':AV}{cv:Value}(h:frz bs hp v=some v')(hv:Rep Γ w v cv)(ho:OwnAt Γ w .res v cv):Rep (fun b=>Y7 bs (Γ b)) w v' cv∧OwnAt (fun b=>Y7 bs (Γ b)) w .res v' cv:=by
 have hf:ZO Γ w (fun b=>Y7 bs (Γ b)) w:=fun _ _ _ h1 h2=>⟨Ul h1,h2⟩
 unfold frz at h
 split at h
 ·rename_i vs
  obtain ⟨vs',h1,rfl⟩:=Option.map_eq_some_iff.1 h
  obtain ⟨m1,m2⟩:=Td h1
  cases hv with
  | tup _ u hs kr =>
   refine ⟨.tup vs' u (by rw [hs,m1]) fun j c hc=>?_,.of_ne (by simp)⟩
   obtain ⟨x,x1,x2⟩:=m2 j c hc
   exact (La hr x2 (kr j x x1)).1
 ·obtain rfl:=Option.some.inj h
  exact ⟨hv.noId hf rfl,ho.fix hf fun b n hb=>⟨by simp [hb,Y7],rfl⟩⟩
 ·obtain ⟨h1,h2⟩:=La hr h hv
  exact ⟨h1,.of_ne h2⟩
theorem SY {x:AV}{cv:Value}(hx:x.under1 bs=true)(hv:Rep Γ w x cv):Rep (fun b=>Y7 bs (Γ b)) w x cv:=by
 have hf:ZO Γ w (fun b=>Y7 bs (Γ b)) w:=fun _ _ _ h1 h2=>⟨Ul h1,h2⟩
 have hown:∀ b g,Γ b=.own g→g < bs→Y7 bs (Γ b)=.own g:=fun b g h hg=>by simp [h,Y7,hg]
 unfold AV.under1 at hx
 split at hx
 ·cases hv with
  | arr _ _ _ _ cap b hb hc=>exact .arr _ _ _ _ cap b (hown b _ hb (by simpa using hx)) hc
 ·cases hv with
  | ptr _ _ b hb=>exact .ptr _ _ b (hown b _ hb (by simpa using hx))
 ·cases hv with
  | map _ b hb=>exact .map _ b (hown b _ hb (by simpa using hx))
 ·exact hv.noId hf hx
theorem ZlF {x:AV}{cv:Value}(hx:x.under bs=true)(hv:Rep Γ w x cv):Rep (fun b=>Y7 bs (Γ b)) w x cv:=by
 unfold AV.under at hx
 split at hx
 ·simp only [Bool.and_eq_true,List.all_eq_true] at hx
  cases hv with
  | fn f a cs u v hs1 hr1 hs hr=>exact .fn _ _ _ u v hs1 (fun j c hc=>SY (hx.1 c (List.mem_of_getElem? hc)) (hr1 j c hc)) hs (fun j c hc=>SY (hx.2 c (List.mem_of_getElem? hc)) (hr j c hc))
 ·exact SY hx hv
theorem PU {s:Za}{Γ0:Zo}{w0:World}{hp0:List Zp}{v:AV}{cv:Value}{v':AV}{hp':List Zp}{e':Eff}(h0:RW W0 Γ0 w0 hp0)(hbs:s.bs=hp0.length)(hle:s.bs≤s.hp.length)(base:∀ b n g i,Γ0 b=.list n (.cell g i)→g < s.bs)
  (hr:RW W0 Γ w s.hp) (hfr:Frame Γ0 w0 Γ w s.ef) (hbk:∀ b g,Γ b=.own g→g < s.bs→Γ0 b=.own g) (hv:Rep Γ w v cv) (ho:OwnAt Γ w .res v cv) {keep:Bool} (h:(if keep then (v.nm,s.hp,s.ef) else finish v s hp0)=(v',hp',e')) :
  ∃ Γ',RW W0 Γ' w hp'∧Rep Γ' w v' cv∧OwnAt Γ' w .res v' cv∧Frame Γ0 w0 Γ' w e'∧hp0.length≤hp'.length∧∀ b g,Γ' b=.own g→g < hp0.length→Γ0 b=.own g:=by
 have hf:ZO Γ w (fun b=>Y7 s.bs (Γ b)) w:=fun _ _ _ h1 h2=>⟨Ul h1,h2⟩
 have asis:(v.nm,s.hp,s.ef)=(v',hp',e')→∃ Γ',RW W0 Γ' w hp'∧Rep Γ' w v' cv∧OwnAt Γ' w .res v' cv∧Frame Γ0 w0 Γ' w e'∧hp0.length≤hp'.length∧∀ b g,Γ' b=.own g→g < hp0.length→Γ0 b=.own g:=by
  intro e
  cases e
  exact ⟨Γ,hr,hv.nm,.of_ne fun _ _=>Us,hfr,by omega,fun b g hb hl=>hbk b g hb (by omega)⟩
 have base1:∀ b g,Γ0 b=.own g→g < s.bs:=fun b g hb=>by rw [hbs]; exact h0.lt b g hb
 have same0:∀ b,b < w0.heap.size→Kept s.ef (Γ0 b)→Y7 s.bs (Γ b)=Γ0 b∧w.heap[b]? = w0.heap[b]?:=fun b hb hk=>by
  obtain ⟨e1,e2⟩:=hfr.keep b hb hk
  refine ⟨?_,e2⟩
  rw [e1]
  cases hg:Γ0 b with
  | imm=>rfl
  | own g=>simp [Y7,base1 b g hg]
  | list n l =>
   cases l with
   | cell g i=>simp [Y7,base b n g i hg]
   | _=>rfl
 have fr:Frame Γ0 w0 (fun b=>Y7 s.bs (Γ b)) w s.ef :=
  ⟨hfr.os,hfr.tape,hfr.output,hfr.size,hfr.fix.trans hf,fun b g hb=>by simp [hfr.own b g hb,Y7,base1 b g hb],same0⟩
 have inj':∀ b b' g,Y7 s.bs (Γ b)=.own g→Y7 s.bs (Γ b')=.own g→b=b':=fun b b' g h1 h2=>hr.inj b b' g (Qa h1).1 (Qa h2).1
 have imm':∀ b,Γ b=.imm→Y7 s.bs (Γ b)=.imm:=fun b hb=>by rw [hb]; rfl
 split at h
 ·exact asis h
 unfold finish at h
 split at h
 case h_2=>exact asis h
 rename_i u hu
 obtain ⟨r1,r2⟩:=ZlZ hr hu hv ho
 split at h
 ·rename_i he
  cases h
  rw [he] at fr
  refine ⟨_,⟨fun g o hg=>?_,inj',fun b hb=>imm' b (hr.fresh b hb),fun b g hb=>by rw [← hbs]; exact (Qa hb).2,hr.old,fun b hb=>imm' b (hr.oldImm b hb),fun g hg b hb=>h0.dead g hg b (hbk b g (Qa hb).1 (Qa hb).2)⟩,r1,r2,fr,Nat.le_refl _,fun b g hb hl=>hbk b g (Qa hb).1 (Qa hb).2⟩
  refine (h0.objs g o hg).step (X := fun b=>¬ Kept none (Γ0 b)) ⟨fr.os,fr.tape,fr.output,fr.size,fun b hb hx=>fr.keep b hb (Classical.not_not.1 hx),fr.fix,fr.own⟩ h0.fresh (fun b hx e=>hx ?_) (fun b n i hx e=>hx ?_)
  ·rw [e]; exact fun _ _ e=>by cases e
  ·rw [e]; exact fun _ _ e=>by cases e
 ·rename_i e he
  split at h
  ·rename_i hall
   cases h
   rw [he] at fr
   have hlen:(s.hp.take s.bs).length=s.bs:=by simp; omega
   refine ⟨_,⟨fun g o hg=>?_,inj',fun b hb=>imm' b (hr.fresh b hb),fun b g hb=>by rw [hlen]; exact (Qa hb).2,hr.old,fun b hb=>imm' b (hr.oldImm b hb),fun g hg b hb=>hr.dead g (by have hgl:=Ze hg; rw [hlen] at hgl; rw [List.getElem?_take,if_pos hgl] at hg; exact hg) b (Qa hb).1⟩,r1,r2,fr,by omega,fun b g hb hl=>hbk b g (Qa hb).1 (Qa hb).2⟩
   have hgl:=Ze hg
   rw [hlen] at hgl
   have hund:=List.all_eq_true.1 hall o (List.mem_of_getElem? hg)
   rw [List.getElem?_take,if_pos hgl] at hg
   have:=hr.objs g o hg
   cases o with
   | dead=>trivial
   | cells cs t =>
    obtain ⟨b,C,h1,h2,h3,h4⟩:=this
    refine ⟨b,C,by simp [h1,Y7,hgl],h2,h3,fun i c hc=>?_⟩
    obtain ⟨a1,a2,a3⟩:=h4 i c hc
    exact ⟨a1,ZlF (List.all_eq_true.1 hund c (List.mem_of_getElem? hc)) a2,a3.fix hf fun b n hb=>⟨by simp [hb,Y7,hgl],rfl⟩⟩
   | map es =>
    obtain ⟨b,ms,clk,h1,h2,h3,h4⟩:=this
    exact ⟨b,ms,clk,by simp [h1,Y7,hgl],h2,h3,h4⟩
   | iter l pos =>
    obtain ⟨b,h1,h2⟩:=this
    exact ⟨b,by simp [h1,Y7,hgl],h2⟩
   | buf _ _ _ =>
    obtain ⟨b,C,h1,h2,h3⟩:=this
    exact ⟨b,C,by simp [h1,Y7,hgl],h2,h3.mono fun b n i hb=>⟨by simp [hb,Y7,hgl],rfl⟩⟩
  ·exact asis h
end
end Go.Proofs.YtleomfgijkapfaaGreatDoor.Abs
end
section
namespace Go.Proofs.YtleomfgijkapfaaGreatDoor.Abs
open Go Go.RowKit
def VL (call:FuncId→List AV→List Zp→Option (AV×List Zp×Eff))(f:FuncId)(args:List AV)(hp:List Zp):Option (AV×List Zp×Eff) :=
 match call f args hp with
 | some (v,hp',none)=>match frz hp.length hp' v with
  | some v'=>some (v',hp,none)
  | none=>none
 | _=>none
theorem ZhH {call:FuncId→List AV→List Zp→Option (AV×List Zp×Eff)}:∀ f args hp v hp' e,VL call f args hp=some (v,hp',e)→hp'=hp∧e=none:=by
 intro f args hp v hp' e h
 unfold VL at h
 split at h <;> first | (cases h; done) | skip
 split at h <;> first | (cases h; done) | skip
 cases h
 exact ⟨rfl,rfl⟩
theorem P9 {P:Program}{W0:World}{call:FuncId→List AV→List Zp→Option (AV×List Zp×Eff)}(hS:Z5 P W0 call):Z5 P W0 (VL call):=by
 intro f args hp v hp' e h Γ w xs hr ht hs hx
 unfold VL at h
 split at h <;> first | (cases h; done) | skip
 rename_i v0 hp0 hc
 split at h <;> first | (cases h; done) | skip
 rename_i v1 hf
 cases h
 refine (hS f args hp v0 hp0 none hc Γ w xs hr ht hs hx).mono fun cv w' ⟨Γ',r1,r2,r3,r4,r5⟩=>?_
 exact PU (s := ⟨[],hp0,none,hp.length⟩) hr rfl r5.1 (fun b n g i hb=>ht.cell b n g i hb) r1 r4 r5.2 r2 r3 (keep := false) (by simp only [finish,hf]; rfl)
def Xr:Kind→Kind
 | .own _=>.list 0 .outer
 | .list n (.cell _ _)=>.list n .outer
 | k=>k
def XD:Kind→Bool
 | .own _=>true
 | .list _ (.cell _ _)=>true
 | _=>false
theorem Zbt {k:Kind}{o:Nat}(h:WO o k):WO o (Xr k):=by
 cases k with
 | imm=>trivial
 | own g=>exact h.elim
 | list n l=>cases l <;> exact h
theorem Zbu {k:Kind}{g:Nat}:Xr k≠.own g:=by
 cases k with
 | imm=>simp [Xr]
 | own g=>simp [Xr]
 | list n l=>cases l <;> simp [Xr]
theorem Zgp {k:Kind}(h:XD k=false):Xr k=k:=by
 cases k with
 | imm=>rfl
 | own g=>cases h
 | list n l=>cases l <;> first | rfl | cases h
theorem Zgo {k:Kind}(h:XD k=true):Kept none (Xr k):=by
 cases k with
 | imm=>cases h
 | own g=>trivial
 | list n l=>cases l <;> first | trivial | cases h
theorem Zdb {k:Kind}{o:Nat}(h:XD k=true)(hf:WO o (Xr k)):WO o k:=by
 cases k with
 | imm=>cases h
 | own g=>exact absurd hf (Nat.not_lt_zero _)
 | list n l=>cases l <;> first | exact hf | cases h
theorem Rep.bare {Γ Γ':Zo}{w:World}{x:AV}{v:Value}(hf:ZO Γ w Γ' w)(h:Rep Γ w x v)(hb:x.bare=true):Rep Γ' w x v:=by
 cases h with
 | agg cells cv hs h1 hn hr =>
  refine .agg cells cv hs h1 hn fun j c hc=>(hr j c hc).noId hf ?_
  exact List.all_eq_true.1 hb c (List.mem_of_getElem? hc)
 | _=>exact Rep.noId hf (by constructor <;> assumption) hb
theorem Zbv {P:Program}{W0:World}{call:FuncId→List AV→List Zp→Option (AV×List Zp×Eff)}(hS:Z5 P W0 call):Z5 P W0 (ZT call):=by
 intro f args hp v hp' e h Γ w xs hr ht hs hx
 have hc:args.all AV.bare=true∧VL call f args []=some (v,[],none)∧hp'=hp∧e=none:=by
  unfold ZT at h
  split at h <;> first | (cases h; done) | skip
  rename_i hb
  split at h <;> first | (cases h; done) | skip
  rename_i v0 hp0 hc
  split at h <;> first | (cases h; done) | skip
  rename_i v1 hf
  cases h
  refine ⟨hb,?_,rfl,rfl⟩
  unfold VL
  rw [hc]
  simp only [List.length_nil]
  rw [hf]
 obtain ⟨hb,hc,rfl,rfl⟩:=hc
 have f1:ZO Γ w (fun b=>Xr (Γ b)) w:=fun _ _ _ h1 h2=>⟨Zbt h1,h2⟩
 have hr1:RW W0 (fun b=>Xr (Γ b)) w []:=⟨fun g o hg=>by simp at hg,fun b b' g hb=>absurd hb Zbu,fun b hb=>by simp [hr.fresh b hb,Xr],fun b g hb=>absurd hb Zbu,hr.old,fun b hb=>by simp [hr.oldImm b hb,Xr],fun g hg=>by simp at hg⟩
 have ht1:Tidy (fun b=>Xr (Γ b)) 0:=by
  refine ⟨fun b m h=>?_,fun b m j h=>?_,fun b m g i h=>?_⟩
  ·have:=ht.res b m
   cases hg:Γ b with
   | imm=>simp [hg,Xr] at h
   | own g=>simp [hg,Xr] at h
   | list n l=>cases l <;> simp [hg,Xr] at h this <;> omega
  ·have:=ht.arg b m j
   cases hg:Γ b with
   | imm=>simp [hg,Xr] at h
   | own g=>simp [hg,Xr] at h
   | list n l=>cases l <;> simp [hg,Xr] at h this <;> omega
  ·cases hg:Γ b with
   | imm=>simp [hg,Xr] at h
   | own g=>simp [hg,Xr] at h
   | list n l=>cases l <;> simp [hg,Xr] at h
 refine (P9 hS f args [] v [] none hc (fun b=>Xr (Γ b)) w xs hr1 ht1 hs fun j x hj=>?_).mono fun cv w' ⟨Γ',r1,r2,r3,r4,r5⟩=>?_
 ·obtain ⟨q1,q2⟩:=hx j x hj
  have hbx:=List.all_eq_true.1 hb x (List.mem_of_getElem? hj)
  refine ⟨q1.bare f1 hbx,fun k rows e=>?_⟩
  rcases q2 k rows e with h | ⟨b,cap,e,cur,h1,h2,h3,h4,h5,h6,h7,h8⟩
  ·exact .inl h
  ·exact .inr ⟨b,cap,e,cur,h1,by simp [h2,Xr],h3,h4,h5,h6,h7,fun i j r c hi hj=>⟨(h8 i j r c hi hj).1,(h8 i j r c hi hj).2.noId f1 (h8 i j r c hi hj).1⟩⟩
 ·have lt:∀ b,Γ b≠.imm→b < w.heap.size:=fun b hb=>by
   rcases Nat.lt_or_ge b w.heap.size with h' | h'
   ·exact h'
   ·exact absurd (hr.fresh b h') hb
  have lost:∀ b,XD (Γ b)=true→Γ' b=Xr (Γ b)∧w'.heap[b]? = w.heap[b]?:=fun b hb=>r4.keep b (lt b fun e=>by rw [e] at hb; cases hb) (Zgo hb)
  let Γ2:Zo:=fun b=>if XD (Γ b)=true then Γ b else Γ' b
  have g1:∀ b,XD (Γ b)=true→Γ2 b=Γ b:=fun b hb=>if_pos hb
  have g2:∀ b,¬ XD (Γ b)=true→Γ2 b=Γ' b:=fun b hb=>if_neg hb
  have fix:ZO Γ w Γ2 w':=fun b o y h1 h2=>by
   obtain ⟨k1,k2⟩:=r4.fix b o y (Zbt h1) h2
   refine ⟨?_,k2⟩
   unfold Jf
   by_cases hb:XD (Γ b)=true
   ·rw [g1 b hb]; exact h1
   ·rw [g2 b hb]; exact k1
  have own:Yh Γ Γ2:=fun b g hb=>by rw [g1 b (by rw [hb]; rfl)]; exact hb
  have ownI:∀ b g,Γ2 b=.own g→Γ b=.own g:=fun b g hb=>by
   by_cases hl:XD (Γ b)=true
   ·rw [g1 b hl] at hb; exact hb
   ·rw [g2 b hl] at hb; exact absurd (r1.lt b g hb) (Nat.not_lt_zero _)
  have fix2:ZO Γ' w' Γ2 w':=fun b o y h1 h2=>by
   refine ⟨?_,h2⟩
   unfold Jf at h1 ⊢
   by_cases hb:XD (Γ b)=true
   ·rw [g1 b hb]
    rw [(lost b hb).1] at h1
    exact Zdb hb h1
   ·rw [g2 b hb]; exact h1
  have own2:Yh Γ' Γ2:=fun b g hb=>absurd (r1.lt b g hb) (Nat.not_lt_zero _)
  have keepL:∀ b,XD (Γ b)=true→Γ2 b=Γ b∧w'.heap[b]? = w.heap[b]?:=fun b hb=>⟨g1 b hb,(lost b hb).2⟩
  have imm2:∀ b,Γ' b=.imm→XD (Γ b)=false→Γ2 b=.imm:=fun b h1 h2=>by rw [g2 b (by rw [h2]; simp)]; exact h1
  refine ⟨Γ2,⟨fun g o hg=>?_,fun b b' g h1 h2=>hr.inj b b' g (ownI b g h1) (ownI b' g h2),fun b hb=>?_,fun b g hb=>hr.lt b g (ownI b g hb),r1.old,fun b hb=>?_,fun g hg b hb=>hr.dead g hg b (ownI b g hb)⟩,r2.mono fix2 own2,r3.mono fix2 own2 fun b n hb=>⟨?_,rfl⟩,
   ⟨r4.os,r4.tape,r4.output,r4.size,fix,own,fun b hb hk=>?_⟩,Nat.le_refl _,fun b g hb _=>ownI b g hb⟩
  ·have hold:=hr.objs g o hg
   cases o with
   | dead=>trivial
   | cells cs t =>
    obtain ⟨b,C,h1,h2,h3,h4⟩:=hold
    obtain ⟨k1,k2⟩:=keepL b (by rw [h1]; rfl)
    refine ⟨b,C,k1.trans h1,k2.trans h2,h3,fun i c hc=>?_⟩
    obtain ⟨a1,a2,a3⟩:=h4 i c hc
    refine ⟨a1,a2.mono fix own,a3.mono fix own fun b n hb=>?_⟩
    obtain ⟨k1,k2⟩:=keepL b (by rw [hb]; rfl)
    exact ⟨k1.trans hb,k2⟩
   | map es =>
    obtain ⟨b,ms,clk,h1,h2,h3,h4⟩:=hold
    obtain ⟨k1,k2⟩:=keepL b (by rw [h1]; rfl)
    exact ⟨b,ms,clk,k1.trans h1,k2.trans h2,h3,h4⟩
   | iter l pos =>
    obtain ⟨b,h1,h2⟩:=hold
    obtain ⟨k1,k2⟩:=keepL b (by rw [h1]; rfl)
    exact ⟨b,k1.trans h1,k2.trans h2⟩
   | buf _ _ _ =>
    obtain ⟨b,C,h1,h2,h3⟩:=hold
    obtain ⟨k1,k2⟩:=keepL b (by rw [h1]; rfl)
    refine ⟨b,C,k1.trans h1,k2.trans h2,h3.mono fun b n i hb=>?_⟩
    obtain ⟨k1,k2⟩:=keepL b (by rw [hb]; rfl)
    exact ⟨k1.trans hb,k2⟩
  ·refine imm2 b (r1.fresh b hb) ?_
   rw [hr.fresh b (Nat.le_trans r4.size hb)]; rfl
  ·refine imm2 b (r1.oldImm b hb) ?_
   rw [hr.oldImm b hb]; rfl
  ·by_cases hl:XD (Γ b)=true
   ·have:=(lost b hl).1
    rw [hb] at this
    cases hg:Γ b with
    | imm=>simp [hg,Xr] at this
    | own g=>simp [hg,Xr] at this
    | list n l=>cases l <;> simp [hg,Xr] at this <;> (rw [hg] at hl; cases hl)
   ·rw [g2 b hl]; exact hb
  ·by_cases hl:XD (Γ b)=true
   ·exact keepL b hl
   ·have hsame:=Zgp (by simpa using hl:XD (Γ b)=false)
    obtain ⟨k1,k2⟩:=r4.keep b hb (by show Kept none (Xr (Γ b)); rw [hsame]; exact hk)
    exact ⟨by rw [g2 b hl,k1]; exact hsame,k2⟩
def Zpi:AV→Bool
 | .own _ r=>r.all fun l=>l.all AV.flat1
 | v=>v.flat
def Zdt (call:FuncId→List AV→List Zp→Option (AV×List Zp×Eff))(f:FuncId)(args:List AV)(hp:List Zp):Option (AV×List Zp×Eff) :=
 match args.mapM (frz 0 hp) with
 | some as=>match call f as [] with
  | some (v,hp',none)=>match frz 0 hp' v with
   | some v'=>if Zpi v' then some (v',hp,none) else none
   | none=>none
  | _=>none
 | none=>none
theorem AL {k:Kind}{g:Nat}:Y7 0 k≠.own g:=fun h=>absurd (Qa h).2 (Nat.not_lt_zero _)
theorem PK {k:Kind}(h:XD k=false):Y7 0 k=k:=by
 cases k with
 | imm=>rfl
 | own g=>cases h
 | list n l=>cases l <;> first | rfl | cases h
theorem IC {k:Kind}(h:XD k=true):Y7 0 k=.imm:=by
 cases k with
 | imm=>cases h
 | own g=>rfl
 | list n l=>cases l <;> first | rfl | cases h
theorem Zk6 {P:Program}{W0:World}{call:FuncId→List AV→List Zp→Option (AV×List Zp×Eff)}(hS:Z5 P W0 call):Z5 P W0 (Zdt call):=by
 intro f args hp v hp' e h Γ w xs hr ht hs hx
 unfold Zdt at h
 split at h <;> first | (cases h; done) | skip
 rename_i as hm
 have hc:VL call f as []=some (v,[],none)∧Zpi v=true∧hp'=hp∧e=none:=by
  split at h <;> first | (cases h; done) | skip
  rename_i v0 hp0 hc
  split at h <;> first | (cases h; done) | skip
  rename_i v1 hf
  split at h <;> first | (cases h; done) | skip
  rename_i hfree
  cases h
  refine ⟨?_,hfree,rfl,rfl⟩
  unfold VL
  rw [hc]
  simp only [List.length_nil]
  rw [hf]
 clear h
 obtain ⟨hc,hfree,rfl,rfl⟩:=hc
 obtain ⟨m1,m2⟩:=Td hm
 have f1:ZO Γ w (fun b=>Y7 0 (Γ b)) w:=fun _ _ _ h1 h2=>⟨Ul h1,h2⟩
 have hr1:RW W0 (fun b=>Y7 0 (Γ b)) w []:=⟨fun g o hg=>by simp at hg,fun b b' g hb=>absurd hb AL,fun b hb=>by simp [hr.fresh b hb,Y7],fun b g hb=>absurd hb AL,hr.old,fun b hb=>by simp [hr.oldImm b hb,Y7],fun g hg=>by simp at hg⟩
 have keepL:∀ k m l,Y7 0 k=.list m l→k=.list m l:=fun k m l h=>by
  cases hl:XD k with
  | true=>rw [IC hl] at h; cases h
  | false=>rw [PK hl] at h; exact h
 have ht1:Tidy (fun b=>Y7 0 (Γ b)) 0:=by
  refine ⟨fun b m h=>ht.res b m (keepL _ _ _ h),fun b m j h=>ht.arg b m j (keepL _ _ _ h),fun b m g i h=>?_⟩
  have:=keepL _ _ _ h
  rw [this] at h
  cases h
 refine (P9 hS f as [] v [] none hc (fun b=>Y7 0 (Γ b)) w xs hr1 ht1 (by rw [hs,m1]) fun j x hj=>?_).mono fun cv w' ⟨Γ',r1,r2,r3,r4,r5⟩=>?_
 ·obtain ⟨y,y1,y2⟩:=m2 j x hj
  obtain ⟨q1,q2⟩:=hx j y y1
  have other:Zhr 0 hp' y=some x→Rep (fun b=>Y7 0 (Γ b)) w x (xs.getD j Go.undef)∧OwnAt (fun b=>Y7 0 (Γ b)) w (.slot j) x (xs.getD j Go.undef):=fun h=>by
   obtain ⟨h1,h2⟩:=La hr h q1
   exact ⟨h1,.of_ne h2⟩
  cases y with
  | own k r =>
   have:x=.own k r:=(Option.some.inj y2).symm
   subst this
   exact ⟨q1.noId f1 rfl,q2.fix f1 fun b n hb=>⟨by simp [hb,Y7],rfl⟩⟩
  | tup vs =>
   obtain ⟨h1,h2⟩:=ZlZ hr y2 q1 (.of_ne (by simp))
   obtain ⟨vs',_,e⟩:=Option.map_eq_some_iff.1 (show (vs.mapM (Zhr 0 hp')).map AV.tup=some x from y2)
   subst e
   exact ⟨h1,.of_ne (by simp)⟩
  | _=>exact other y2
 ·have lt:∀ b,Γ b≠.imm→b < w.heap.size:=fun b hb=>by
   rcases Nat.lt_or_ge b w.heap.size with h' | h'
   ·exact h'
   ·exact absurd (hr.fresh b h') hb
  have lost:∀ b,XD (Γ b)=true→Γ' b=.imm∧w'.heap[b]? = w.heap[b]?:=fun b hb=>by
   obtain ⟨k1,k2⟩:=r4.keep b (lt b fun e=>by rw [e] at hb; cases hb) (by show Kept none (Y7 0 (Γ b)); rw [IC hb]; trivial)
   exact ⟨k1.trans (IC hb),k2⟩
  let Γ2:Zo:=fun b=>if XD (Γ b)=true then Γ b else Γ' b
  have g1:∀ b,XD (Γ b)=true→Γ2 b=Γ b:=fun b hb=>if_pos hb
  have g2:∀ b,¬ XD (Γ b)=true→Γ2 b=Γ' b:=fun b hb=>if_neg hb
  have fix:ZO Γ w Γ2 w':=fun b o y h1 h2=>by
   obtain ⟨k1,k2⟩:=r4.fix b o y (Ul h1) h2
   refine ⟨?_,k2⟩
   unfold Jf
   by_cases hb:XD (Γ b)=true
   ·rw [g1 b hb]; exact h1
   ·rw [g2 b hb]; exact k1
  have own:Yh Γ Γ2:=fun b g hb=>by rw [g1 b (by rw [hb]; rfl)]; exact hb
  have ownI:∀ b g,Γ2 b=.own g→Γ b=.own g:=fun b g hb=>by
   by_cases hl:XD (Γ b)=true
   ·rw [g1 b hl] at hb; exact hb
   ·rw [g2 b hl] at hb; exact absurd (r1.lt b g hb) (Nat.not_lt_zero _)
  have keepO:∀ b,XD (Γ b)=true→Γ2 b=Γ b∧w'.heap[b]? = w.heap[b]?:=fun b hb=>⟨g1 b hb,(lost b hb).2⟩
  have imm2:∀ b,Γ' b=.imm→XD (Γ b)=false→Γ2 b=.imm:=fun b h1 h2=>by rw [g2 b (by rw [h2]; simp)]; exact h1
  have resOwn:OwnAt Γ2 w' .res v cv:=fun k rows e=>by
   subst e
   rcases r3 k rows rfl with h | ⟨b,cap,e,cur,h1,h2,h3,h4,h5,h6,h7,h8⟩
   ·exact .inl h
   ·refine .inr ⟨b,cap,e,cur,h1,?_,h3,h4,h5,h6,h7,fun i j r c hi hj=>⟨(h8 i j r c hi hj).1,Um (h8 i j r c hi hj).2 ?_⟩⟩
    ·rw [g2 b fun hl=>by rw [(lost b hl).1] at h2; cases h2]; exact h2
    ·have:=List.all_eq_true.1 (show (rows.all fun l=>l.all AV.flat1)=true from hfree) r (List.mem_of_getElem? hi)
     exact List.all_eq_true.1 this c (List.mem_of_getElem? hj)
  have resRep:Rep Γ2 w' v cv:=by
   cases v with
   | own k rows=>exact resOwn.rep
   | _=>exact Zfl r2 hfree
  refine ⟨Γ2,⟨fun g o hg=>?_,fun b b' g h1 h2=>hr.inj b b' g (ownI b g h1) (ownI b' g h2),fun b hb=>?_,fun b g hb=>hr.lt b g (ownI b g hb),r1.old,fun b hb=>?_,fun g hg b hb=>hr.dead g hg b (ownI b g hb)⟩,resRep,resOwn,
   ⟨r4.os,r4.tape,r4.output,r4.size,fix,own,fun b hb hk=>?_⟩,Nat.le_refl _,fun b g hb _=>ownI b g hb⟩
  ·have hold:=hr.objs g o hg
   cases o with
   | dead=>trivial
   | cells cs t =>
    obtain ⟨b,C,h1,h2,h3,h4⟩:=hold
    obtain ⟨k1,k2⟩:=keepO b (by rw [h1]; rfl)
    refine ⟨b,C,k1.trans h1,k2.trans h2,h3,fun i c hc=>?_⟩
    obtain ⟨a1,a2,a3⟩:=h4 i c hc
    refine ⟨a1,a2.mono fix own,a3.mono fix own fun b n hb=>?_⟩
    obtain ⟨k1,k2⟩:=keepO b (by rw [hb]; rfl)
    exact ⟨k1.trans hb,k2⟩
   | map es =>
    obtain ⟨b,ms,clk,h1,h2,h3,h4⟩:=hold
    obtain ⟨k1,k2⟩:=keepO b (by rw [h1]; rfl)
    exact ⟨b,ms,clk,k1.trans h1,k2.trans h2,h3,h4⟩
   | iter l pos =>
    obtain ⟨b,h1,h2⟩:=hold
    obtain ⟨k1,k2⟩:=keepO b (by rw [h1]; rfl)
    exact ⟨b,k1.trans h1,k2.trans h2⟩
   | buf _ _ _ =>
    obtain ⟨b,C,h1,h2,h3⟩:=hold
    obtain ⟨k1,k2⟩:=keepO b (by rw [h1]; rfl)
    refine ⟨b,C,k1.trans h1,k2.trans h2,h3.mono fun b n i hb=>?_⟩
    obtain ⟨k1,k2⟩:=keepO b (by rw [hb]; rfl)
    exact ⟨k1.trans hb,k2⟩
  ·refine imm2 b (r1.fresh b hb) ?_
   rw [hr.fresh b (Nat.le_trans r4.size hb)]; rfl
  ·refine imm2 b (r1.oldImm b hb) ?_
   rw [hr.oldImm b hb]; rfl
  ·by_cases hl:XD (Γ b)=true
   ·exact keepO b hl
   ·have hsame:=PK (by simpa using hl:XD (Γ b)=false)
    obtain ⟨k1,k2⟩:=r4.keep b hb (by show Kept none (Y7 0 (Γ b)); rw [hsame]; exact hk)
    exact ⟨by rw [g2 b hl,k1]; exact hsame,k2⟩
def Zd2 (S:List Nat)(call:FuncId→List AV→List Zp→Option (AV×List Zp×Eff))(f:FuncId)(args:List AV)(hp:List Zp):Option (AV×List Zp×Eff) :=
 match S.elem f with
 | true=>Zdt call f args hp
 | false=>call f args hp
theorem ZkN {P:Program}{W0:World}{call:FuncId→List AV→List Zp→Option (AV×List Zp×Eff)}(S:List Nat)(hS:Z5 P W0 call):Z5 P W0 (Zd2 S call):=by
 intro f args hp v hp' e h
 unfold Zd2 at h
 split at h
 ·exact Zk6 hS f args hp v hp' e h
 ·exact hS f args hp v hp' e h
end Go.Proofs.YtleomfgijkapfaaGreatDoor.Abs
end
section
namespace Go.Proofs.YtleomfgijkapfaaGreatDoor.Abs
open Go Go.RowKit
section
variable {G:Nat→Option (List AV)}{call:FuncId→List AV→List Zp→Option (AV×List Zp×Eff)}
theorem ZhZ {s s':Za}{ao:AOp}{v:AV}(h:Zb G call s ao=some (v,s')):s'.bs=s.bs:=by
 cases ao <;> simp only [Zb] at h <;> (repeat' split at h) <;> first
  | (cases h; done)
  | (obtain ⟨_,rfl⟩:=Yr h; rfl)
  | (cases h; rfl)
  | (obtain ⟨x,_,e⟩:=Option.map_eq_some_iff.1 h; cases e; rfl)
theorem Zms (s:Za)(d:Option Nat)(v:AV):(s.put d v).bs=s.bs:=by cases d <;> rfl
theorem XL:∀ {l:List ZH} {s s':Za},Z8 G call l s=some s'→s'.bs=s.bs
 | [],s,s',h=>by cases h; rfl
 | o :: l,s,s',h=>by
  simp only [Z8] at h
  split at h <;> first | (cases h; done) | skip
  rename_i s1 h1
  rw [XL h]
  simp only [Zq] at h1
  split at h1 <;> first | (cases h1; done) | skip
  ·split at h1 <;> first | (cases h1; done) | skip
   rename_i v s2 h2
   obtain rfl:=Option.some.inj h1
   rw [Zms,ZhZ h2]
  ·obtain rfl:=Option.some.inj h1
   rw [Zms]
theorem Zdw {f:Za→Option (U5×Za)}(hf:∀ {s:Za} {r:U5×Za},f s=some r→r.2.bs=s.bs):∀ (n:Nat) {s:Za} {r:U5×Za},iter f n s=some r→r.2.bs=s.bs
 | 0,_,_,h=>by cases h
 | n + 1,s,r,h=>by
  simp only [iter] at h
  split at h
  ·rename_i s1 h1
   rw [Zdw hf n h]
   exact hf h1
  ·exact hf h
theorem Zdn (L:Nat):∀ {c:V4} {s:Za} {r:U5×Za},Zt G call L c s=some r→r.2.bs=s.bs:=by
 intro c
 induction c with
 | skip=>intro s r h; cases h; rfl
 | region draw ops =>
  intro s r h
  cases draw with
  | false =>
   simp only [Zt] at h
   obtain ⟨s1,h1,rfl⟩:=Option.map_eq_some_iff.1 h
   exact XL h1
  | true =>
   simp only [Zt] at h
   obtain ⟨s1,h1,rfl⟩:=Option.map_eq_some_iff.1 h
   exact XL h1
 | regionB ops =>
  intro s r h
  simp only [Zt] at h
  obtain ⟨s1,h1,rfl⟩:=Option.map_eq_some_iff.1 h
  exact XL h1
 | seq x y ihx ihy =>
  intro s r h
  simp only [Zt] at h
  split at h
  ·rename_i s1 h1
   rw [ihy h]; exact ihx h1
  ·exact ihx h
 | cond c x y ihx ihy =>
  intro s r h
  simp only [Zt] at h
  split at h <;> first | (cases h; done) | skip
  ·exact ihx h
  ·exact ihy h
 | block id c ih =>
  intro s r h
  simp only [Zt] at h
  split at h
  ·rename_i i s1 h1
   have:=ih h1
   split at h <;> (obtain rfl:=Option.some.inj h; exact this)
  ·exact ih h
 | loop c ih =>
  intro s r h
  simp only [Zt] at h
  exact Zdw ih L h
 | scope c ih=>intro s r h; simp only [Zt] at h; exact ih h
 | exit id=>intro s r h; cases h; rfl
 | ret=>intro s r h; cases h; rfl
 | bad=>intro s r h; cases h
end
structure ZaV (P:Program)(W0:World)(C:Cfg):Prop where
 mixed:P.follows .mixedOrders=true
 globals:GOk C.G W0
 table:∀ f af,C.T f=some af→∃ fn takes,P.funcs[f]? = some fn∧(fn.name == "runtime.NumGoroutine")=false∧cFn P takes fn=some af
 oracle:Z5 P W0 C.O
theorem OV {P:Program}{f:FuncId}{fn:Func}{c:Code}(hf:P.funcs[f]? = some fn)(hn:(fn.name == "runtime.NumGoroutine")=false)(hb:fn.body=some c)(xs:Array Value)(w:World):(callFunc f xs).run P w=.ok (.enter f xs) w:=by
 have hn':¬ fn.name = "runtime.NumGoroutine" := by simpa using hn
 simp [callFunc,program,hf,hn',hb,Sem.run]
theorem IG {P:Program}{W0:World}{C:Cfg}(h:ZaV P W0 C):∀ n,Z5 P W0 (Zy C n):=by
 intro n
 induction n with
 | zero=>intro f args hp v hp' e hc; cases hc
 | succ n ih =>
  intro f args hp v hp' e hc Γ w xs hr ht hs hx
  simp only [Zy] at hc
  split at hc
  case h_2=>exact h.oracle f args hp v hp' e hc Γ w xs hr ht hs hx
  rename_i af haf
  obtain ⟨fn,takes,hf,hname,hcf⟩:=h.table f af haf
  unfold cFn at hcf
  split at hcf <;> first | (cases hcf; done) | skip
  rename_i c rs hb hrs
  obtain ⟨ac,hac,rfl⟩:=Option.map_eq_some_iff.1 hcf
  split at hc
  ·cases hc
  ·rename_i x s hne hev
   split at hc <;> first | (cases hc; done) | skip
   rename_i u hu
   have hfin:=Option.some.inj hc
   refine ⟨OV hf hname hb xs w,?_⟩
   have hbs:s.bs=hp.length:=Zdn C.L hev
   have hI:Inv ⟨W0,Γ,w⟩ ⟨args ++ List.replicate (fn.ntmps - args.length) .undef,hp,none,hp.length⟩ Γ { tmps := xs ++ Array.replicate (fn.ntmps - xs.size) Go.undef,defers := [] } w:=by
    have get:∀ (t:Nat) (y:AV),(args ++ List.replicate (fn.ntmps - args.length) AV.undef)[t]? = some y→(args[t]? = some y∧(xs ++ Array.replicate (fn.ntmps - xs.size) Go.undef).getD t Go.undef=xs.getD t Go.undef)∨(y=.undef∧(xs ++ Array.replicate (fn.ntmps - xs.size) Go.undef).getD t Go.undef=Go.undef):=by
     intro t y hy
     rw [List.getElem?_append] at hy
     split at hy
     ·rename_i hlt
      refine .inl ⟨hy,?_⟩
      rw [Array.getD_eq_getD_getElem?,Array.getD_eq_getD_getElem?,Array.getElem?_append_left (by omega)]
     ·rename_i hge
      have hm:=List.mem_of_getElem? hy
      have:=List.eq_of_mem_replicate hm
      refine .inr ⟨this,?_⟩
      have hlt:=Ze hy
      simp only [List.length_replicate] at hlt
      rw [Array.getD_eq_getD_getElem?,Array.getElem?_append_right (by omega),Array.getElem?_replicate,if_pos (by omega)]
      rfl
    refine ⟨rfl,⟨by simp [hs],fun t y hy=>?_,fun t y hy=>?_⟩,hr,.refl _ _ _,fun b g hb=>hr.lt b g hb,fun b m g i hb=>ht.cell b m g i hb,Nat.le_refl _,fun _ _ hb _=>hb⟩
    ·rcases get t y hy with ⟨h1,h2⟩ | ⟨rfl,h2⟩
     ·rw [h2]; exact (hx t y h1).1
     ·rw [h2]; exact .undef
    ·rcases get t y hy with ⟨h1,h2⟩ | ⟨rfl,h2⟩
     ·rw [h2]; exact (hx t y h1).2
     ·exact .of_ne (by simp)
   have hw:=ZmR h.mixed h.globals ih (Zbv ih) C.L hac hev hI
   refine calls_of_wp hf hb (Go.wp_mono hw fun en a' w' he=>?_)
   obtain ⟨k1,Γ',i1⟩:=he
   have fin:a'.defers=[]∧∃ cv,(results fn a'.tmps).run P w'=.ok cv w'∧∃ v',Ending.returned cv=.returned v'∧∃ Γ',RW W0 Γ' w' hp'∧Rep Γ' w' v v'∧OwnAt Γ' w' .res v v'∧Frame Γ w Γ' w' e∧hp.length≤hp'.length∧∀ b g,Γ' b=.own g→g < hp.length→Γ b=.own g:=by
    obtain ⟨cv,Γ2,q1,q2,q3,q4,q5,q6⟩:=Zmt i1 hrs hu
    obtain ⟨Γ3,p1,p2,p3,p4,p5⟩:=PU hr hbs (by rw [hbs]; have:=i1.le; simpa [hbs] using this) (fun b m g i hb=>by rw [hbs]; exact ht.cell b m g i hb) q2 q3 q6 q4 q5 hfin
    exact ⟨i1.defers,cv,q1,cv,rfl,Γ3,p1,p2,p3,p4,p5⟩
   cases x with
   | exit i=>exact (hne i rfl).elim
   | normal=>cases en <;> first | exact k1.elim | exact fin
   | ret=>cases en <;> first | exact k1.elim | exact fin
  ·cases hc
end Go.Proofs.YtleomfgijkapfaaGreatDoor.Abs
end
section
namespace Go.Proofs.YtleomfgijkapfaaGreatDoor.Abs
open Go Go.RowKit
def still:Zo:=fun _=>.imm
theorem Za9 (W:World):RW W still W [] :=
 ⟨fun g o hg=>by simp at hg,fun b b' g h=>(by cases h),fun _ _=>rfl,fun b g h=>(by cases h),⟨rfl,rfl,rfl,Nat.le_refl _,fun _ _=>rfl⟩,fun _ _=>rfl,fun g hg=>by simp at hg⟩
theorem LK:Tidy still 0:=⟨fun _ _ h=>(by cases h),fun _ _ _ h=>(by cases h),fun _ _ _ _ h=>(by cases h)⟩
theorem Zpw {P:Program}{W:World}{C:Cfg}(h:ZaV P W C){n:Nat}{f:FuncId}{avs:List AV}{hp:List Zp}{e:Eff}(hev:Zy C n f avs []=some (.bool true,hp,e)){args:Array Value}
  (hs:args.size=avs.length) (hr:∀ (j:Nat) (x:AV),avs[j]? = some x→Rep still W x (args.getD j Go.undef)∧∀ k r,x≠.own k r) :
  Calls P f args W fun e W'=>e=.returned (.bool true)∧Below W.heap.size W W':=by
 obtain ⟨_,hw⟩:=IG h n f avs [] _ _ _ hev still W args (Za9 W) LK hs fun j x hx=>⟨(hr j x hx).1,.of_ne (hr j x hx).2⟩
 refine hw.mono fun en W' ⟨cv,hv,Γ',r1,r2,_,r4,_⟩=>?_
 subst hv
 cases r2
 exact ⟨rfl,r4.os,r4.tape,r4.output,r4.size,fun b hb=>(r4.keep b hb trivial).2⟩
end Go.Proofs.YtleomfgijkapfaaGreatDoor.Abs
end
section
namespace Go.Proofs.YtleomfgijkapfaaGreatDoor.Abs
open Go Go.RowKit
def U6 (P:Program)(W0:World)(f:FuncId)(args:List AV)(v:AV):Prop :=
 (∀ k r,v≠.own k r)∧∀ (Γ:Zo) (w:World) (xs:Array Value),Below W0.heap.size W0 w→(∀ b,w.heap.size≤b→Γ b=.imm)→xs.size=args.length→(∀ (j:Nat) (x:AV),args[j]? = some x→Rep Γ w x (xs.getD j Go.undef)) →
  ZjJ P f xs w fun cv w'=>Below w.heap.size w w'∧Rep Γ w' v cv
theorem WG {P:Program}{W0:World}{O:FuncId→List AV→Option AV}(h:∀ f args v,O f args=some v→U6 P W0 f args v) :
  Z5 P W0 fun f args hp=>(O f args).map fun v=>(v,hp,none):=by
 intro f args hp v hp' e ho Γ w xs hr _ hs hx
 obtain ⟨u,hu,e1⟩:=Option.map_eq_some_iff.1 ho
 cases e1
 obtain ⟨hown,hrun⟩:=h f args v hu
 refine (hrun Γ w xs hr.old hr.fresh hs fun j x hj=>(hx j x hj).1).mono fun cv w' ⟨hb,hv⟩=>?_
 have st:Step Γ w Γ w' fun _=>False:=⟨hb.os,hb.tape,hb.output,hb.size,fun b hbl _=>⟨rfl,hb.block b hbl⟩,fun b o v h1 h2=>⟨h1,(WZ (hb.block b (lt_of_cell h2))).trans h2⟩,.refl _⟩
 obtain ⟨o1,o2⟩:=VY hr.old hr.oldImm st fun _ hx=>hx.elim
 refine ⟨Γ,⟨fun g o hg=>(hr.objs g o hg).step st hr.fresh (fun _ hx=>hx.elim) (fun _ _ _ hx=>hx.elim),hr.inj,fun b hbl=>hr.fresh b (Nat.le_trans hb.size hbl),hr.lt,o1,o2,hr.dead⟩,hv,.of_ne hown,⟨hb.os,hb.tape,hb.output,hb.size,st.fix,.refl _,fun b hbl _=>⟨rfl,hb.block b hbl⟩⟩,Nat.le_refl _,fun _ _ hb _=>hb⟩
theorem YG {P:Program}{f:FuncId}{fn:Func}{c:Code}{xs:Array Value}{w:World}{R:Value→World→Prop}(hf:P.funcs[f]? = some fn)(hn:(fn.name == "runtime.NumGoroutine")=false)(hb:fn.body=some c)
  (h:Calls P f xs w fun e w'=>∃ v,e=.returned v∧R v w'):ZjJ P f xs w R:=⟨OV hf hn hb xs w,h⟩
end Go.Proofs.YtleomfgijkapfaaGreatDoor.Abs
end
section
namespace Go.Proofs.YtleomfgijkapfaaGreatDoor.Abs
open Go
inductive KV where
 | raw (v:AV)
 | cln (v:AV)
def KV.val:KV→AV
 | .raw v=>v
 | .cln v=>v
def KV.rd:KV→AV
 | .raw v=>v.ro
 | .cln v=>v
abbrev ZjZ {α:Type}(b:Bool)(x y:α):α :=
 match b with
 | true=>x
 | false=>y
abbrev Env:=Nat→KV
def Env.set (e:Env)(t:Nat)(v:KV):Env:=fun u=>ZjZ (Nat.beq u t) v (e u)
def Env.put (e:Env)(d:Option Nat)(v:KV):Env :=
 match d with
 | some d=>e.set d v
 | none=>e
abbrev KR:=Option (AV×List Zp×Eff)
def ZrW:List AV→Option AV
 | .int .i64 n :: l=>(minL n l).map fun n=>.int .i64 n
 | _=>none
def ZrV:List AV→Option AV
 | .int .i64 n :: l=>(maxL n l).map fun n=>.int .i64 n
 | _=>none
def EJ:List Nat→Nat→Bool
 | [],_=>true
 | u :: l,t=>ZjZ (Nat.beq u t) false (EJ l t)
def rm (d:Nat):List Nat→List Nat
 | []=>[]
 | u :: l=>ZjZ (Nat.beq u d) (rm d l) (u :: rm d l)
def rmO (d:Option Nat)(P:List Nat):List Nat :=
 match d with
 | some d=>rm d P
 | none=>P
section
variable (G:Nat→Option (List AV))(N bs:Nat)(P:List Nat)
def Zlk (e:Env):ZR→Option AV
 | .tmp t=>ZjZ ((Nat.blt t N && EJ P t)) (some (e t).rd) (none)
 | .const v=>some v
 | .glob g=>(G g).map .ref
def ZiX (e:Env):List ZR→Option (List AV)
 | []=>some []
 | x :: l=>match Zlk G N P e x with
  | some v=>match ZiX e l with
   | some vs=>some (v :: vs)
   | none=>none
  | none=>none
def Zf8 (e:Env):Option ZR→Option (Option AV)
 | none=>some none
 | some x=>match Zlk G N P e x with
  | some v=>some (some v)
  | none=>none
def Zh2:Env→List (Nat ⊕ ZR)→Option (List AV×Env)
 | e,[]=>some ([],e)
 | e,.inl t :: l=>ZjZ ((Nat.blt t N && EJ P t)) (match Zh2 (e.set t (.cln (e t).rd)) l with
  | some (vs,e')=>some ((e t).val :: vs,e')
  | none=>none) none
 | e,.inr x :: l=>match Zlk G N P e x with
  | some v=>match Zh2 e l with
   | some (vs,e')=>some (v :: vs,e')
   | none=>none
  | none=>none
end
end Go.Proofs.YtleomfgijkapfaaGreatDoor.Abs
end
section
namespace Go.Proofs.YtleomfgijkapfaaGreatDoor.Abs
open Go
theorem ZeR {α:Type}{b:Bool}{x:Option α}{r:α}(h:ZjZ b x none=some r):b=true∧x=some r:=by
 cases b with
 | false=>cases h
 | true=>exact ⟨rfl,h⟩
def ZlK (v:KV):Prop:=v.val.ro=v.rd
theorem Zqa (v:AV):v.ro.ro=v.ro:=by cases v <;> rfl
theorem Zri {v:KV}(h:ZlK v):ZlK (.cln v.rd):=by
 show v.rd.ro=v.rd
 rw [← h,Zqa]
theorem Zcb:∀ {P:List Nat} {t:Nat},EJ P t=true↔t ∉ P
 | [],t=>by simp [EJ]
 | u :: l,t=>by
  simp only [EJ,List.mem_cons,not_or]
  cases hb:Nat.beq u t with
  | true =>
   have:=Nat.eq_of_beq_eq_true hb
   subst this
   simp
  | false =>
   have:t≠u:=fun h=>by subst h; rw [Nat.beq_refl] at hb; cases hb
   simp [this,← Zcb]
theorem ZiF:∀ {P:List Nat} {d t:Nat},t ∈ rm d P↔t ∈ P∧t≠d
 | [],d,t=>by simp [rm]
 | u :: l,d,t=>by
  simp only [rm]
  cases hb:Nat.beq u d with
  | true =>
   have:=Nat.eq_of_beq_eq_true hb
   subst this
   simp only [ZiF,List.mem_cons]
   constructor
   ·rintro ⟨a,b⟩; exact ⟨.inr a,b⟩
   ·rintro ⟨a | a,b⟩
    ·exact absurd a b
    ·exact ⟨a,b⟩
  | false =>
   have:u≠d:=fun h=>by subst h; rw [Nat.beq_refl] at hb; cases hb
   simp only [List.mem_cons,ZiF]
   constructor
   ·rintro (a | ⟨a,b⟩)
    ·subst a; exact ⟨.inl rfl,this⟩
    ·exact ⟨.inr a,b⟩
   ·rintro ⟨a | a,b⟩
    ·exact .inl a
    ·exact .inr ⟨a,b⟩
structure XG (N:Nat)(P:List Nat)(e:Env)(sl:List AV):Prop where
 len:sl.length=N
 val:∀ t,t < N→t ∉ P→sl[t]? = some (e t).val
 ok:∀ t,ZlK (e t)
theorem XG.mono {N:Nat}{P P':List Nat}{e:Env}{sl:List AV}(h:XG N P e sl)(hp:∀ t,t ∈ P→t ∈ P'):XG N P' e sl:=⟨h.len,fun t ht hn=>h.val t ht fun hm=>hn (hp t hm),h.ok⟩
theorem XG.set {N:Nat}{P:List Nat}{e:Env}{sl:List AV}(h:XG N P e sl)(d:Nat){v:KV}(hv:ZlK v):XG N (rm d P) (e.set d v) (sl.set d v.val):=by
 refine ⟨by rw [List.length_set]; exact h.len,fun t ht hn=>?_,fun t=>?_⟩
 ·rw [List.getElem?_set]
  by_cases e1:d=t
  ·subst e1
   simp [Env.set,h.len,ht]
  ·have:Nat.beq t d=false:=by cases hb:Nat.beq t d with | false=>rfl | true=>exact absurd (Nat.eq_of_beq_eq_true hb).symm e1
   simp [e1,Env.set,this,h.val t ht fun hm=>hn (ZiF.2 ⟨hm,fun h=>e1 h.symm⟩)]
 ·show ZlK (ZjZ (Nat.beq t d) v (e t))
  cases Nat.beq t d
  ·exact h.ok t
  ·exact hv
theorem XG.put {N:Nat}{P:List Nat}{e:Env}{sl:List AV}(h:XG N P e sl)(d:Option Nat){v:KV}(hv:ZlK v){hp:List Zp}{ef:Eff}{bs:Nat}:XG N (rmO d P) (e.put d v) (Za.put ⟨sl,hp,ef,bs⟩ d v.val).sl:=by
 cases d with
 | none=>exact h
 | some d=>exact h.set d hv
theorem XG.let_ {N:Nat}{P:List Nat}{e:Env}{sl:List AV}(h:XG N P e sl)(t:Nat):XG N P (e.set t (.cln (e t).rd)) (sl.modify t AV.ro):=by
 refine ⟨by rw [List.length_modify]; exact h.len,fun u hu hn=>?_,fun u=>?_⟩
 ·rw [List.getElem?_modify]
  by_cases e1:t=u
  ·subst e1
   simp only [if_true,h.val t hu hn,Env.set,Nat.beq_refl,KV.val]
   have:=h.ok t
   simp only [ZlK] at this
   simp only [KV.val] at this
   rw [Option.map_eq_map,Option.map_some,← this]
  ·have:Nat.beq u t=false:=by cases hb:Nat.beq u t with | false=>rfl | true=>exact absurd (Nat.eq_of_beq_eq_true hb).symm e1
   simp [e1,Env.set,this,h.val u hu hn]
 ·show ZlK (ZjZ (Nat.beq u t) (.cln (e t).rd) (e u))
  cases Nat.beq u t
  ·exact h.ok u
  ·exact Zri (h.ok t)
section
variable {G:Nat→Option (List AV)}{N:Nat}{P:List Nat}{e:Env}{sl:List AV}
theorem ZbV {t N:Nat}{P:List Nat}(h:(Nat.blt t N && EJ P t)=true):t < N∧t ∉ P:=by
 rw [Bool.and_eq_true] at h
 exact ⟨Nat.le_of_ble_eq_true h.1,Zcb.1 h.2⟩
theorem XG.get (h:XG N P e sl){t:Nat}(ht:(Nat.blt t N && EJ P t)=true):sl[t]? = some (e t).val:=h.val t (ZbV ht).1 (ZbV ht).2
theorem XG.read (h:XG N P e sl){t:Nat}(ht:(Nat.blt t N && EJ P t)=true):(sl[t]?).map AV.ro=some (e t).rd:=by
 rw [h.get ht,Option.map_some,h.ok t]
theorem XG.opnd (h:XG N P e sl){x:ZR}{v:AV}(hx:Zlk G N P e x=some v):Abs.opnd G sl x=some v:=by
 cases x with
 | tmp t =>
  obtain ⟨h1,h2⟩:=ZeR (show ZjZ (Nat.blt t N && EJ P t) (some (e t).rd) none=some v from hx)
  cases h2
  exact h.read h1
 | const v=>exact hx
 | glob g=>exact hx
theorem XG.opnds (h:XG N P e sl):∀ {xs:List ZR} {vs:List AV},ZiX G N P e xs=some vs→Abs.opnds G sl xs=some vs
 | [],vs,hx=>hx
 | x :: l,vs,hx=>by
  simp only [ZiX] at hx
  split at hx
  ·rename_i v hv
   split at hx
   ·rename_i us hus
    cases hx
    simp only [Abs.opnds,h.opnd hv,h.opnds hus,Option.map_some]
   ·cases hx
  ·cases hx
theorem XG.optOpnd (h:XG N P e sl){x:Option ZR}{v:Option AV}(hx:Zf8 G N P e x=some v):Abs.optOpnd G sl x=some v:=by
 cases x with
 | none=>exact hx
 | some x =>
  simp only [Zf8] at hx
  split at hx
  ·rename_i u hu
   cases hx
   simp only [Abs.optOpnd,h.opnd hu,Option.map_some]
  ·cases hx
theorem XG.args:∀ {as:List (Nat ⊕ ZR)} {e e':Env} {sl:List AV} {vs:List AV},XG N P e sl→Zh2 G N P e as=some (vs,e')→∃ sl',Wl G sl as=some (vs,sl')∧XG N P e' sl'
 | [],e,e',sl,vs,h,ha=>by
  cases ha
  exact ⟨sl,rfl,h⟩
 | .inl t :: l,e,e',sl,vs,h,ha=>by
  simp only [Zh2] at ha
  obtain ⟨h1,h2⟩:=ZeR ha
  split at h2
  ·rename_i us e1 hus
   cases h2
   obtain ⟨sl',a1,a2⟩:=XG.args (h.let_ t) hus
   refine ⟨sl',?_,a2⟩
   simp only [Wl,h.get h1,a1,Option.map_some]
  ·cases h2
 | .inr x :: l,e,e',sl,vs,h,ha=>by
  simp only [Zh2] at ha
  split at ha
  ·rename_i v hv
   split at ha
   ·rename_i us e1 hus
    cases ha
    obtain ⟨sl',a1,a2⟩:=XG.args h hus
    refine ⟨sl',?_,a2⟩
    simp only [Wl,h.opnd hv,a1,Option.map_some]
   ·cases ha
  ·cases ha
end
end Go.Proofs.YtleomfgijkapfaaGreatDoor.Abs
end
section
namespace Go.Proofs.YtleomfgijkapfaaGreatDoor.Abs
open Go
section
variable {G:Nat→Option (List AV)}{N bs:Nat}{P:List Nat}{K:FuncId→List AV→List Zp→KR}
def Held (A:List (Nat×Bool))(sl:List AV):Prop:=∀ p ∈ A,sl[p.1]? = some (.bool p.2)
theorem Held.put {A:List (Nat×Bool)}{sl:List AV}(h:Held A sl){hp:List Zp}{ef:Eff}{bs:Nat}{d:Option Nat}(hd:∀ p ∈ A,d≠some p.1)(v:AV):Held A (Za.put ⟨sl,hp,ef,bs⟩ d v).sl:=by
 cases d with
 | none=>exact h
 | some d =>
  intro p hp
  show (sl.set d v)[p.1]? = _
  rw [List.getElem?_set,if_neg (fun e=>hd p hp (by rw [e]))]
  exact h p hp
end
end Go.Proofs.YtleomfgijkapfaaGreatDoor.Abs
end
section
namespace Go.Proofs.YtleomfgijkapfaaGreatDoor.Abs
open Go
theorem Zmh (k:Nat)(r:List (List AV)):AV.nm (.own k r)=.lst k r:=rfl
theorem i64_in {x:Int}(h1:-9223372036854775808≤x)(h2:x≤9223372036854775807):IntKind.i64.wrap x=x:=IntWalk.i64_in x ⟨h1,h2⟩
theorem ZlI (n:Nat)(h:n < 4611686018427387904):IntKind.i64.wrap ((n:Int) + 1)=((n + 1:Nat):Int):=by rw [i64_in (by omega) (by omega)]; omega
end Go.Proofs.YtleomfgijkapfaaGreatDoor.Abs
end
end
