import Derived.Deep.Quiet
import Derived.Orders
import Derived.LoopN
import Derived.Scope
import Derived.IntWalk
import Derived.Test.YtleomfgijkapfaaGreatDoorJ0
set_option linter.all false
section
section
namespace Go.Proofs.YtleomfgijkapfaaGreatDoor.Abs
open Go Go.RowKit
section
variable {P:Program}{w:World}
def ZcG (e:AV×AV)(m:MapEntry):Prop:=e.1.flat=true∧e.2.flat1=true∧m.key=e.1.conc∧m.val=e.2.conc1
theorem H5 {c:CK}{a b:AV}(h:WE c a b=some true):a.conc1=b.conc1:=by
 cases c <;> cases a <;> cases b <;> simp only [WE] at h <;> first | (cases h; done) | skip
 ·split at h
  ·rename_i e
   subst e
   simp only [Option.some.injEq,beq_iff_eq] at h
   rw [h]
  ·cases h
 ·simp only [Option.some.injEq,beq_iff_eq] at h
  rw [h]
 ·simp only [Option.some.injEq,beq_iff_eq] at h
  rw [h]
theorem Bo {c:CK}{a b:AV}{q:Bool}(h:WE c a b=some q):a.flat1=true∧b.flat1=true:=by
 cases c <;> cases a <;> cases b <;> simp only [WE] at h <;> first | (cases h; done) | exact ⟨rfl,rfl⟩
theorem Uy {a:AV}(h:a.flat1=true):a.conc=a.conc1:=by cases a <;> first | rfl | (cases h)
theorem P6 {kt:TypeId}{c:CK}(hk:P5 P kt=some (.one c)):Bd P kt=some c:=by
 unfold P5 at hk
 split at hk
 ·split at hk
  ·split at hk <;> cases hk
  ·cases hk
 ·obtain ⟨c',h1,h2⟩:=Option.map_eq_some_iff.1 hk
  cases h2; exact h1
theorem S9 {kt:TypeId}{c:CK}(hk:P5 P kt=some (.pair c)):∃ e,P.underlying kt=some (.array 2 e)∧Bd P e=some c∧P.cellsOf e=1:=by
 unfold P5 at hk
 split at hk
 ·rename_i n e hu
  split at hk
  ·rename_i c' hc
   split at hk
   ·rename_i h2
    cases hk
    obtain ⟨hsz,rfl⟩:=h2
    exact ⟨e,hu,hc,hsz⟩
   ·cases hk
  ·cases hk
 ·obtain ⟨_,_,e⟩:=Option.map_eq_some_iff.1 hk; cases e
theorem ZmZ {kt:TypeId}{sh:KSh}{a b:AV}{q:Bool}(hk:P5 P kt=some sh)(h:Fj sh a b=some q)(w:World):(Op.equal kt a.conc b.conc).run P w=.ok q w∧(q=true→a.conc=b.conc):=by
 cases sh with
 | one c =>
  have hc:=P6 hk
  obtain ⟨f1,f2⟩:=Bo h
  rw [Uy f1,Uy f2]
  exact ⟨MR (Γ := fun _=>.imm) (w := w) hc (Vf f1 _ w) (Vf f2 _ w) h 9999 w,fun e=>by subst e; exact H5 h⟩
 | pair c =>
  obtain ⟨e,hu,hc,hsz⟩:=S9 hk
  unfold Fj at h
  split at h <;> first | (cases h; done) | skip
  ·rename_i e; cases e
  rename_i c' x0 x1 y0 y1 e'
  cases e'
  obtain ⟨g1,g2⟩:=OY hc
  obtain ⟨ie,hie⟩:=info_of_underlying g2
  have hp:∀ (z0 z1:Value) (W:World),(part e #[z0,z1] 0).run P W=.ok z0 W∧(part e #[z0,z1] 1).run P W=.ok z1 W:=fun z0 z1 W=>⟨Vj g1 g2 rfl W,Vj g1 g2 rfl W⟩
  have he:∀ {x y:AV} {r:Bool},WE c x y=some r→∀ W,(Op.equalIn 9999 e x.conc1 y.conc1).run P W=.ok r W:=fun hr W=>by
   obtain ⟨f1,f2⟩:=Bo hr
   exact MR (Γ := fun _=>.imm) (w := W) hc (Vf f1 _ W) (Vf f2 _ W) hr 9998 W
  have hrun:∀ {q0:Bool},WE c x0 y0=some q0→∀ q1,(q0=true→WE c x1 y1=some q1)→(Op.equal kt (AV.agg [x0,x1]).conc (AV.agg [y0,y1]).conc).run P w=.ok (q0 && q1) w:=by
   intro q0 h0 q1 h1
   have e0:=he h0 w
   have:=run_equalIn_array (P := P) w 9999 (AV.conc1 x0 :: [AV.conc1 x1]).toArray (AV.conc1 y0 :: [AV.conc1 y1]).toArray hu hie
   show (Op.equalIn (9999 + 1) kt (.agg (AV.conc1 x0 :: [AV.conc1 x1]).toArray) (.agg (AV.conc1 y0 :: [AV.conc1 y1]).toArray)).run P w=_
   rw [this,hsz]
   show (Op.eqItems 9999 e 1 #[x0.conc1,x1.conc1] #[y0.conc1,y1.conc1] [0,1]).run P w=_
   simp only [Op.eqItems,Sem.run_bind,Nat.mul_one,(hp _ _ w).1,Result.andThen_ok,e0]
   cases q0 with
   | false=>simp
   | true =>
    have e1:=he (h1 rfl) w
    simp only [Bool.not_true,Bool.false_eq_true,if_false,Sem.run_bind,(hp _ _ w).2,Result.andThen_ok,e1]
    cases q1 <;> simp
  cases h0:WE c x0 y0 with
  | none=>rw [h0] at h; cases h
  | some q0 =>
   rw [h0] at h
   cases q0 with
   | false =>
    obtain rfl:=Option.some.inj h
    exact ⟨by simpa using hrun h0 false (fun h=>by cases h),fun h=>by cases h⟩
   | true =>
    have h1:WE c x1 y1=some q:=h
    refine ⟨by simpa using hrun h0 q (fun _=>h1),fun e=>?_⟩
    subst e
    simp only [AV.conc,List.map_cons,List.map_nil,H5 h0,H5 h1]
structure Found (sh:KSh)(k:AV)(es:List (AV×AV))(st:Nat)(r:Option AV)(q:Option (Nat×Value)):Prop where
 no:r=none→q=none∧∀ v,update sh k v es=some (es ++ [(k,v)])
 yes:∀ v,r=some v→∃ i k',q=some (st + i,v.conc1)∧v.flat1=true∧es[i]? = some (k',v)∧k.conc=k'.conc∧∀ v2,update sh k v2 es=some (es.set i (k',v2))
theorem Found.here {sh:KSh}{k k' v:AV}{es:List (AV×AV)}{st:Nat}(hq:Fj sh k k'=some true)(hc:k.conc=k'.conc)(hf:v.flat1=true):Found sh k ((k',v) :: es) st (some v) (some (st,v.conc1)) :=
 ⟨fun e=>(by cases e),fun u e=>by cases e; exact ⟨0,k',rfl,hf,rfl,hc,fun v2=>by simp [update,hq]⟩⟩
theorem Found.later {sh:KSh}{k k' v:AV}{es:List (AV×AV)}{st:Nat}{r:Option AV}{q:Option (Nat×Value)}(hq:Fj sh k k'=some false)(h:Found sh k es (st + 1) r q):Found sh k ((k',v) :: es) st r q:=by
 refine ⟨fun e=>⟨(h.no e).1,fun v2=>by simp [update,hq,(h.no e).2 v2]⟩,fun u e=>?_⟩
 obtain ⟨i,k2,h1,h2,h3,h4,h5⟩:=h.yes u e
 exact ⟨i + 1,k2,by rw [h1,Nat.add_assoc,Nat.add_comm 1 i],h2,by simpa using h3,h4,fun v2=>by simp [update,hq,h5 v2]⟩
theorem Found.none_ {sh:KSh}{k:AV}{st:Nat}:Found sh k [] st none none:=⟨fun _=>⟨rfl,fun _=>rfl⟩,fun _ e=>by cases e⟩
theorem ZjE {kt:TypeId}{sh:KSh}{k:AV}(hk:P5 P kt=some sh)(w:World):∀ {es:List (AV×AV)} {ms:List MapEntry} {r:Option AV} (st:Nat),Zfs ZcG es ms→find sh k es=some r →
  ∃ q,(Instr.findAsking kt k.conc ms st).run P w=.ok q w∧Found sh k es st r q
 | _,_,r,st,.nil,h=>by
  obtain rfl:=Option.some.inj h
  exact ⟨none,rfl,.none_⟩
 | _,_,r,st,.cons (x := e) (y := m) (l := es) (m := ms) he hes,h=>by
  obtain ⟨k',v⟩:=e
  simp only [find] at h
  cases hq:Fj sh k k' with
  | none=>rw [hq] at h; cases h
  | some q =>
   rw [hq] at h
   obtain ⟨e1,e2⟩:=ZmZ hk hq w
   obtain ⟨r1,r2,r3,r4⟩:=he
   cases q with
   | true =>
    obtain rfl:=Option.some.inj h
    refine ⟨some (st,v.conc1),?_,.here hq (e2 rfl) r2⟩
    simp only [Instr.findAsking,Sem.run_bind,r3,e1,Result.andThen_ok,r4]
    rfl
   | false =>
    obtain ⟨q,h1,h2⟩:=ZjE hk w (st + 1) hes h
    refine ⟨q,?_,.later hq h2⟩
    simp only [Instr.findAsking,Sem.run_bind,r3,e1,Result.andThen_ok]
    exact h1
theorem Zjn {kt:TypeId}{c:CK}{a b:AV}{q:Bool}{d:TypeDesc}(hc:Bd P kt=some c)(hd:P.underlying kt=some d)(h:WE c a b=some q):Instr.sameNow d a.conc1 b.conc1=some q:=by
 unfold Bd at hc
 rw [hd] at hc
 cases d <;> simp only at hc <;> first | (cases hc; done) | skip
 all_goals
  cases hc
  cases a <;> cases b <;> simp only [WE] at h <;> first | (cases h; done) | skip
 all_goals first
  | exact h
  | (simp only [AV.conc1,Instr.sameNow]; rw [← h]; congr 1; rw [Bool.eq_iff_iff,beq_toListBytes]; simp)
theorem ZaD {kt:TypeId}{c:CK}{k:AV}{d:TypeDesc}(hk:P5 P kt=some (.one c))(hd:P.underlying kt=some d):∀ {es:List (AV×AV)} {ms:List MapEntry} {r:Option AV} (st:Nat),Zfs ZcG es ms→find (.one c) k es=some r →
  ∃ q,Instr.findNow d k.conc ms st=some q∧Found (.one c) k es st r q
 | _,_,r,st,.nil,h=>by
  obtain rfl:=Option.some.inj h
  exact ⟨none,rfl,.none_⟩
 | _,_,r,st,.cons (x := e) (y := m) (l := es) (m := ms) he hes,h=>by
  obtain ⟨k',v⟩:=e
  simp only [find] at h
  cases hq:Fj (.one c) k k' with
  | none=>rw [hq] at h; cases h
  | some q =>
   rw [hq] at h
   obtain ⟨r1,r2,r3,r4⟩:=he
   obtain ⟨f1,f2⟩:=Bo hq
   have hs:=Zjn (P6 hk) hd hq
   rw [← Uy f1,← Uy f2] at hs
   cases q with
   | true =>
    obtain rfl:=Option.some.inj h
    refine ⟨some (st,v.conc1),?_,.here hq (by rw [Uy f1,Uy f2]; exact H5 hq) r2⟩
    simp only [Instr.findNow,r3,hs,r4]
   | false =>
    obtain ⟨q,h1,h2⟩:=ZaD hk hd (st + 1) hes h
    refine ⟨q,?_,.later hq h2⟩
    simp only [Instr.findNow,r3,hs]
    exact h1
theorem Bv {kt:TypeId}{sh:KSh}{k:AV}(hk:P5 P kt=some sh)(w:World){es:List (AV×AV)}{ms:List MapEntry}{r:Option AV}(he:Zfs ZcG es ms)(h:find sh k es=some r) :
  ∃ q,(Instr.findKey kt k.conc ms).run P w=.ok q w∧Found sh k es 0 r q:=by
 cases sh with
 | one c =>
  have hc:=P6 hk
  obtain ⟨d,hd⟩:=Option.isSome_iff_exists.1 (OY hc).2
  obtain ⟨q,h1,h2⟩:=ZaD hk hd 0 he h
  exact ⟨q,Go.MapKept.run_findKey hd h1,h2⟩
 | pair c =>
  obtain ⟨e,hu,_,_⟩:=S9 hk
  obtain ⟨q,h1,h2⟩:=ZjE hk w 0 he h
  exact ⟨q,(run_findKey_eq w (by rw [hu]) _ _).trans h1,h2⟩
theorem BA {sh:KSh}{k:AV}(h:GN sh k=true):k.flat=true:=by
 unfold GN at h
 split at h <;> first | rfl | (cases h; done)
theorem EP {kt:TypeId}{sh:KSh}{k:AV}(hk:P5 P kt=some sh)(h:GN sh k=true)(e:Bool)(w:World):(Instr.checkKey e 10000 kt k.conc).run P w=.ok () w:=by
 have plain:∀ {t:TypeId} {c:CK} (n:Nat) (v:Value),Bd P t=some c→(Instr.checkKey e (n + 1) t v).run P w=.ok () w:=fun {t c} n v hc=>by
  unfold Bd at hc
  cases hd:P.underlying t with
  | none=>rw [hd] at hc; cases hc
  | some d =>
   rw [hd] at hc
   cases d <;> simp only at hc <;> first | (cases hc; done) | skip
   all_goals simp [Instr.checkKey,run_underlying hd]
 cases sh with
 | one c=>exact plain 9999 _ (P6 hk)
 | pair c =>
  obtain ⟨el,hu,hc,hsz⟩:=S9 hk
  obtain ⟨g1,g2⟩:=OY hc
  obtain ⟨ie,hie⟩:=info_of_underlying g2
  have hp:∀ (z0 z1:Value),(part el #[z0,z1] 0).run P w=.ok z0 w∧(part el #[z0,z1] 1).run P w=.ok z1 w:=fun z0 z1=>⟨Vj g1 g2 rfl w,Vj g1 g2 rfl w⟩
  have hs:=ZO hie w
  rw [hsz] at hs
  have key:∀ x0 x1:AV,(Instr.checkKey e (9999 + 1) kt (AV.agg [x0,x1]).conc).run P w=.ok () w:=fun x0 x1=>by
   have p1:=plain 9998 x0.conc1 hc
   have p2:=plain 9998 x1.conc1 hc
   simp only [AV.conc,List.map_cons,List.map_nil]
   unfold Instr.checkKey
   simp only [Sem.run_bind,run_underlying hu,Result.andThen_ok]
   simp only [Std.Legacy.Range.forIn_eq_forIn_range',Std.Legacy.Range.size,Nat.sub_zero,Nat.add_one_sub_one,Nat.div_one]
   simp only [List.range'_succ,List.range'_zero,List.forIn_cons,List.forIn_nil,Sem.run_bind,hs,Result.andThen_ok,Nat.zero_mul,Nat.zero_add,Nat.mul_one,(hp _ _).1,(hp _ _).2,p1,p2,Sem.run_pure]
  unfold GN at h
  split at h <;> first | (cases h; done) | skip
  all_goals first | exact key _ _ | (rename_i e; cases e; done) | (rename_i e _; cases e; done) | (rename_i e _ _; cases e; done) | (rename_i e _ _ _; cases e; done)
end
end Go.Proofs.YtleomfgijkapfaaGreatDoor.Abs
end
section
namespace Go.Proofs.YtleomfgijkapfaaGreatDoor.Abs
open Go Go.RowKit
section
variable {P:Program}{G:Nat→Option (List AV)}{E:Entry}{s:Ze}{Γ:Zx}{a:Act}{w:World}{o:Oper}
theorem Bh {v:AV}{cv:Value}(h:Rep Γ w v cv)(hf:v.flat=true):cv=v.conc:=by
 cases h with
 | agg cells cv hs h1 hn hr =>
  simp only [AV.flat,List.all_eq_true] at hf
  simp only [AV.conc,Value.agg.injEq]
  apply Array.ext'
  apply List.ext_getElem?
  intro j
  simp only [List.getElem?_map,Array.getElem?_toList]
  by_cases hj:j < cells.length
  ·have hc:=List.getElem?_eq_getElem hj
   have:=(hr j _ hc).conc1 (hf _ (List.getElem_mem hj))
   rw [hc,Option.map_some,← this]
   exact Y1 (by omega)
  ·rw [List.getElem?_eq_none (by omega),Array.getElem?_eq_none (by omega)]; rfl
 | tup vs cv hs hr =>
  simp only [AV.flat,List.all_eq_true] at hf
  simp only [AV.conc,Value.tuple.injEq]
  apply Array.ext'
  apply List.ext_getElem?
  intro j
  simp only [List.getElem?_map,Array.getElem?_toList]
  by_cases hj:j < vs.length
  ·have hc:=List.getElem?_eq_getElem hj
   have:=(hr j _ hc).conc1 (hf _ (List.getElem_mem hj))
   rw [hc,Option.map_some,← this]
   exact Y1 (by omega)
  ·rw [List.getElem?_eq_none (by omega),Array.getElem?_eq_none (by omega)]; rfl
 | fn f fst caps fv cv hs1 hr1 hs hr =>
  exact (Rep.fn f fst caps fv cv hs1 hr1 hs hr).conc1 hf
 | _=>first | rfl | (cases hf; done)
theorem Zaq {es:List (AV×AV)}{ms:Array MapEntry}(hs:ms.size=es.length)(h:∀ (i:Nat) (e:AV×AV),es[i]? = some e→∃ m,ms[i]? = some m∧e.1.flat=true∧e.2.flat1=true∧m.key=e.1.conc∧m.val=e.2.conc1):Zfs ZcG es ms.toList:=by
 refine Zfs.of_get (by simpa using hs.symm) fun j e m he hm=>?_
 obtain ⟨m',h1,h2⟩:=h j e he
 rw [Array.getElem?_toList,h1] at hm
 cases hm
 exact h2
theorem Zox {t:TypeId}{z:AV}(hz:zeroOf P t=some z)(hf:z.flat1=true)(w:World):(zeroValue t).run P w=.ok z.conc1 w:=by
 obtain ⟨i,zv,hi,hzv,hrep⟩:=XL hz
 rw [← (hrep (fun _=>.imm) w).1.conc1 hf]
 simp [zeroValue,typeInfo,hi,hzv]
def Znk (ok:Bool)(z:AV):Option AV→Value
 | some v=>if ok then .tuple #[v.conc1,.bool true] else v.conc1
 | none=>if ok then .tuple #[z.conc1,.bool false] else z.conc1
def ZqG (ok:Bool)(z:AV):Option AV→AV
 | some v=>if ok then AV.tup [v,.bool true] else v
 | none=>if ok then AV.tup [z,.bool false] else z
theorem Zlb {t kt et:TypeId}{sh:KSh}{k z:AV}{ok:Bool}{b:Nat}{ms:Array MapEntry}{clk:Nat}{es:List (AV×AV)}{r:Option AV}(ht:P.underlying t=some (.map kt et))(hk:P5 P kt=some sh)(hb:w.heap[b]? = some (.map ms clk))(he:Zfs ZcG es ms.toList)(hf:find sh k es=some r)
  (hck:∀ emp,(Instr.checkKey emp 10000 kt k.conc).run P w=.ok () w) (hz:(zeroValue et).run P w=.ok z.conc1 w):(Instr.lookup t (.map (some b)) k.conc ok).run P w=.ok (Znk ok z r) w∧∀ v,r=some v→v.flat1=true:=by
 obtain ⟨q,e1,e2⟩:=Bv hk w he hf
 cases r with
 | none =>
  obtain ⟨rfl,_⟩:=e2.no rfl
  refine ⟨?_,fun v e=>by cases e⟩
  simp only [Instr.lookup,Sem.run_bind,run_underlying ht,MapKept.run_getObj_map hb,hck,Result.andThen_ok,e1,hz,Sem.run_pure]
  rfl
 | some v =>
  obtain ⟨j,k',rfl,hv,_⟩:=e2.yes v rfl
  refine ⟨?_,fun v' e=>by cases e; exact hv⟩
  simp only [Instr.lookup,Sem.run_bind,run_underlying ht,MapKept.run_getObj_map hb,hck,Result.andThen_ok,e1,Sem.run_pure]
  rfl
theorem Zsf (hG:GOk G E.W0)(hI:Inv E s Γ a w){t kt et:TypeId}{sh:KSh}{z:AV}{x i:Operand}{x' i':Yf}{u k v:AV}{ok:Bool}(ho:o.op=.lookup t x i ok)(ht:P.underlying t=some (.map kt et))(hk:P5 P kt=some sh)(hz:zeroOf P et=some z)(hzf:z.flat1=true)
  (hcx:ZI P t x=some x') (hci:ZI P kt i=some i') (hx:opnd G s.sl x'=some u) (hi:opnd G s.sl i'=some k) (h:Zep s.hp sh z u k ok=some v):O0 P E s v a w o:=by
 have k1:=(Zp hG hI hcx hx).1
 have k2:=(Zp hG hI hci hi).1
 unfold Zep at h
 split at h
 ·cases h
 rename_i hfit
 have hfit:GN sh k=true:=by simpa using hfit
 have hkc:=Bh k2 (BA hfit)
 have hzr:=Zox hz hzf w
 have hck:∀ emp,(Instr.checkKey emp 10000 kt k.conc).run P w=.ok () w:=fun emp=>EP hk hfit emp w
 have fin:∀ (r:Option AV),(∀ v,r=some v→v.flat1=true)→(execOp a.eval o).run P w=.ok (.value (Znk ok z r)) w →
   ZqG ok z r=v→O0 P E s v a w o:=by
  intro r hr hrun hv
  have two:∀ (y:AV) (b:Bool),y.flat1=true→Rep Γ w (if ok then AV.tup [y,.bool b] else y) (if ok then Value.tuple #[y.conc1,.bool b] else y.conc1):=fun y b hy=>by
   cases ok with
   | false=>exact Vf hy Γ w
   | true =>
    refine .tup _ #[y.conc1,.bool b] rfl fun j c hj=>?_
    match j with
    | 0=>cases hj; exact Vf hy Γ w
    | 1=>cases hj; exact .bool b
    | j + 2=>simp at hj
  have nown:∀ (y:AV) (b:Bool),y.flat1=true→∀ k r,(if ok then AV.tup [y,.bool b] else y)≠.own k r:=fun y b hy=>by
   cases ok with
   | false=>exact ZfT hy
   | true=>intro k r e; cases e
  cases r with
  | some y =>
   subst hv
   exact .pure hI hrun (two y true (hr y rfl)) fun k r e=>absurd e (nown y true (hr y rfl) k r)
  | none =>
   subst hv
   exact .pure hI hrun (two z false hzf) fun k r e=>absurd e (nown z false hzf k r)
 generalize hq:a.eval x=q at k1
 have hexec:∀ r,(Instr.lookup t q k.conc ok).run P w=.ok r w→(execOp a.eval o).run P w=.ok (.value r) w:=fun r hr=>by
  simp only [execOp,ho,hq,hkc]
  rw [Sem.run_bind,hr]; rfl
 have some_:∀ {g:Nat} {es:List (AV×AV)} {r:Option AV},s.hp[g]? = some (.map es)→find sh k es=some r→Rep Γ w (.map g) q→ZqG ok z r=v→O0 P E s v a w o:=by
  intro g es r hg hf hm hv
  cases hm with
  | map _ b hb =>
   obtain ⟨b',ms,clk,h1,h2,h3,h4⟩:=hI.rw.objs g _ hg
   obtain rfl:=hI.rw.inj b b' g hb h1
   obtain ⟨m1,m2⟩:=Zlb (ok := ok) ht hk h2 (Zaq h3 h4) hf hck hzr
   exact fin r m2 (hexec _ m1) hv
 split at h
 ·rename_i y hy
  split at hy <;> first | (cases hy; done) | skip
  split at hy <;> first | (cases hy; done) | skip
  rename_i hg
  exact some_ hg hy k1 (Option.some.inj h)
 ·rename_i hy
  split at hy <;> first | (cases hy; done) | skip
  ·cases k1
   refine fin none (fun v e=>by cases e) (hexec _ ?_) (Option.some.inj h)
   simp only [Instr.lookup,Sem.run_bind,run_underlying ht,Result.andThen_ok,Sem.run_pure,hck]
   have:(Instr.findKey kt k.conc []).run P w=.ok none w:=by
    obtain ⟨q,e1,e2⟩:=Bv (k := k) (r := none) hk w (.nil:Zfs ZcG [] []) rfl
    obtain ⟨rfl,_⟩:=e2.no rfl
    exact e1
   simp only [this,Result.andThen_ok,Sem.run_bind,hzr,Sem.run_pure]
   rfl
  ·split at hy <;> first | (cases hy; done) | skip
   rename_i hg
   exact some_ hg hy k1 (Option.some.inj h)
 ·cases h
theorem Ig {c:CK}{x y:AV}(n:Nat)(h:WE c x y=some true):Instr.sameBits n y.conc1 x.conc1=true:=by
 cases c <;> cases x <;> cases y <;> simp only [WE] at h <;> first | (cases h; done) | skip
 ·split at h
  ·rename_i e
   subst e
   simp only [Option.some.injEq,beq_iff_eq] at h
   subst h
   simp [AV.conc1,Instr.sameBits]
  ·cases h
 ·simp only [Option.some.injEq,beq_iff_eq] at h
  subst h
  simp [AV.conc1,Instr.sameBits]
 ·simp only [Option.some.injEq,beq_iff_eq] at h
  subst h
  simp [AV.conc1,Instr.sameBits,beq_toListBytes]
theorem Zfg {sh:KSh}{k:AV}(h:GN sh k=true):Instr.sameBits 10000 k.conc k.conc=true:=by
 have one:∀ (x:AV),(∃ k n,x=.int k n)∨(∃ b,x=.bool b)∨(∃ s,x=.str s)→∀ n,Instr.sameBits n x.conc1 x.conc1=true:=fun x hx n=>by
  rcases hx with ⟨k,m,rfl⟩ | ⟨b,rfl⟩ | ⟨s,rfl⟩
  ·exact Ig (c := .int) n (by simp [WE])
  ·exact Ig (c := .bool) n (by simp [WE])
  ·exact Ig (c := .str) n (by simp [WE])
 have two:∀ x y:AV,((∃ k n,x=.int k n)∨(∃ b,x=.bool b)∨(∃ s,x=.str s))→((∃ k n,y=.int k n)∨(∃ b,y=.bool b)∨(∃ s,y=.str s))→Instr.sameBits (9999 + 1) (AV.agg [x,y]).conc (AV.agg [x,y]).conc=true:=fun x y hx hy=>by
  simp only [AV.conc,List.map_cons,List.map_nil,Instr.sameBits,List.zip_cons_cons,List.zip_nil_right,List.all_cons,List.all_nil,one x hx 9999,one y hy 9999,beq_self_eq_true,Bool.and_self]
 unfold GN at h
 split at h <;> first | (cases h; done) | skip
 ·exact one _ (.inl ⟨_,_,rfl⟩) _
 ·exact one _ (.inr (.inl ⟨_,rfl⟩)) _
 ·exact one _ (.inr (.inr ⟨_,rfl⟩)) _
 ·exact two _ _ (.inl ⟨_,_,rfl⟩) (.inl ⟨_,_,rfl⟩)
 ·exact two _ _ (.inr (.inr ⟨_,rfl⟩)) (.inr (.inr ⟨_,rfl⟩))
theorem Zsi (hG:GOk G E.W0)(hI:Inv E s Γ a w){t kt et:TypeId}{sh:KSh}{m k v:Operand}{m' k' v':Yf}{g:Nat}{ka va:AV}{es es':List (AV×AV)}(ho:o.op=.mapUpdate t m k v)(ht:P.underlying t=some (.map kt et))(hk:P5 P kt=some sh)
  (hcm:ZI P t m=some m') (hck:ZI P kt k=some k') (hcv:ZI P et v=some v') (hm:opnd G s.sl m'=some (.map g)) (hka:opnd G s.sl k'=some ka) (hva:opnd G s.sl v'=some va) (hg:s.hp[g]? = some (.map es)) (hfit:GN sh ka=true) (hvf:va.flat1=true)
  (hf:∃ r,find sh ka es=some r) (hu:update sh ka va es=some es'):O0 P E { s with hp:=s.hp.set g (.map es'),ef := s.note g 0 } .undef a w o:=by
 obtain ⟨r,hf⟩:=hf
 have k1:=(Zp hG hI hcm hm).1
 have hkc:=Bh (Zp hG hI hck hka).1 (BA hfit)
 have hvc:=(Zp hG hI hcv hva).1.conc1 hvf
 generalize hq:a.eval m=q at k1
 cases k1 with
 | map _ b hb =>
  obtain ⟨b',ms,clk,h1,h2,h3,h4⟩:=hI.rw.objs g _ hg
  obtain rfl:=hI.rw.inj b b' g hb h1
  obtain ⟨q,e1,e2⟩:=Bv hk w (Zaq h3 h4) hf
  have hlt:=lt_of_some h2
  have step:∀ (ms':Array MapEntry) (clk':Nat),(ms'.size=es'.length∧∀ (i:Nat) (e:AV×AV),es'[i]? = some e→∃ m,ms'[i]? = some m∧e.1.flat=true∧e.2.flat1=true∧m.key=e.1.conc∧m.val=e.2.conc1) →
    Inv E { s with hp:=s.hp.set g (.map es'),ef := s.note g 0 } Γ a { w with heap:=w.heap.setIfInBounds b (.map ms' clk') }:=fun ms' clk' hrel=>by
   have same:∀ b',b'≠b→({ w with heap:=w.heap.setIfInBounds b (.map ms' clk') }:World).heap[b']? = w.heap[b']?:=fun b' hne=>by simp [Ne.symm hne]
   refine hI.update hb ⟨rfl,rfl,rfl,by simp,fun b' _ hne=>⟨rfl,same b' hne⟩,fun b' q y k1 k2=>⟨k1,?_⟩,.refl _⟩ (Uz s g 0) (by simp) ⟨b,ms',clk',hb,by simp [hlt],hrel.1,hrel.2⟩
   have:b'≠b:=by
    rintro rfl
    unfold U3 at k1
    rw [hb] at k1
    exact k1
   exact (QP (same b' this)).trans k2
  have hexec:∀ w',(Instr.mapUpdate t (.map (some b)) ka.conc va.conc1).run P w=.ok () w'→(execOp a.eval o).run P w=.ok .skip w':=fun w' hr=>by
   simp only [execOp,ho,hq,hkc,hvc]
   rw [Sem.run_bind,hr]; rfl
  have hchk:=EP hk hfit false w
  cases r with
  | none =>
   obtain ⟨rfl,hup⟩:=e2.no rfl
   have:=(hup va).symm.trans hu
   obtain rfl:=Option.some.inj this
   refine ⟨Γ,Go.undef,_,.inr ⟨hexec { w with heap:=w.heap.setIfInBounds b (.map (ms.push { key := ka.conc,val := va.conc1,born := clk }) (clk + 1)) } ?_,rfl⟩,step _ _ ⟨by simp [h3],fun i e he=>?_⟩,.undef,.of_ne (by simp)⟩
   ·simp only [Instr.mapUpdate,Sem.run_bind,run_underlying ht,Result.andThen_ok,MapKept.run_getObj_map h2,hchk,e1,MapKept.run_setObj_map _ h2]
   ·rw [List.getElem?_append] at he
    split at he
    ·rename_i hi
     obtain ⟨m,a1,a2⟩:=h4 i e he
     exact ⟨m,by rw [Array.getElem?_push,if_neg (by omega)]; exact a1,a2⟩
    ·rename_i hi
     have hi':i=es.length:=by
      rcases Nat.lt_or_ge (i - es.length) 1 with h' | h'
      ·omega
      ·rw [List.getElem?_eq_none (by simpa using h')] at he; cases he
     subst hi'
     simp only [Nat.sub_self,List.getElem?_cons_zero,Option.some.injEq] at he
     subst he
     exact ⟨_,by rw [Array.getElem?_push,if_pos h3.symm],BA hfit,hvf,rfl,rfl⟩
  | some u =>
   obtain ⟨i,k2,rfl,_,hei,hkk,hup⟩:=e2.yes u rfl
   have:=(hup va).symm.trans hu
   obtain rfl:=Option.some.inj this
   obtain ⟨mi,a1,a2,a3,a4,a5⟩:=h4 i _ hei
   have hkeep:(Instr.keyThatStays (((ms[0 + i]?).map (·.key)).getD ka.conc) ka.conc).run P w=.ok ka.conc w:=by
    rw [Nat.zero_add,a1]
    simp only [Option.map_some,Option.getD_some,a4]
    unfold Instr.keyThatStays
    rw [← hkk,if_pos (Zfg hfit)]
    rfl
   refine ⟨Γ,Go.undef,_,.inr ⟨hexec { w with heap:=w.heap.setIfInBounds b (.map (ms.modify (0 + i) fun e=>{ e with key:=ka.conc,val := va.conc1 }) clk) } ?_,rfl⟩,step _ _ ⟨by simp [h3],fun j e he=>?_⟩,.undef,.of_ne (by simp)⟩
   ·simp only [Instr.mapUpdate,Sem.run_bind,run_underlying ht,Result.andThen_ok,MapKept.run_getObj_map h2,hchk,e1,hkeep,MapKept.run_setObj_map _ h2]
   ·rw [Nat.zero_add,Array.getElem?_modify]
    rw [List.getElem?_set] at he
    split at he
    ·rename_i hij
     subst hij
     split at he
     ·obtain rfl:=Option.some.inj he
      refine ⟨{ mi with key:=ka.conc,val := va.conc1 },by rw [if_pos rfl,a1]; rfl,a2,hvf,hkk,rfl⟩
     ·cases he
    ·rename_i hij
     obtain ⟨m,b1,b2⟩:=h4 j e he
     exact ⟨m,by rw [if_neg hij]; exact b1,b2⟩
end
end Go.Proofs.YtleomfgijkapfaaGreatDoor.Abs
end
section
namespace Go.Proofs.YtleomfgijkapfaaGreatDoor.Abs
open Go Go.RowKit
theorem Zcc {sh:KSh}{k v:AV}:∀ {es es':List (AV×AV)},update sh k v es=some es'→∃ r,find sh k es=some r
 | [],_,_=>⟨none,rfl⟩
 | (k',v') :: l,es',h=>by
  simp only [update] at h
  simp only [find]
  split at h
  ·exact ⟨_,rfl⟩
  ·obtain ⟨l',h',_⟩:=Option.map_eq_some_iff.1 h
   exact Zcc h'
  ·cases h
theorem YB {α β:Type}{x:Option α}{s s':β}{v:α}(h:x.map (·,s)=some (v,s')):x=some v∧s'=s:=by
 obtain ⟨y,h1,h2⟩:=Option.map_eq_some_iff.1 h
 cases h2
 exact ⟨h1,rfl⟩
section
variable {P:Program}{G:Nat→Option (List AV)}{call:FuncId→List AV→List Z8→Option (AV×List Z8×Eff)}{E:Entry}{s s':Ze}{Γ:Zx}{a:Act}{w:World}{o:Oper}{hand:Nat→Bool}{draw:Bool}{ao:AOp}{v:AV}
theorem Zsn (hG:GOk G E.W0)(hI:Inv E s Γ a w){x:Operand}(hop:o.op=.move x)(hc:cOp P hand draw o=some ao)(h:Zj G call s ao=some (v,s')):Gl P E Γ s s' v a w o ao:=by
 simp only [cOp,hop] at hc
 split at hc
 ·rename_i t
  split at hc
  ·obtain rfl:=Option.some.inj hc
   simp only [Zj] at h
   split at h <;> first | (cases h; done) | skip
   rename_i u hu
   cases h
   exact (Zn2 hI (.inl hop) hu).fit
  ·obtain rfl:=Option.some.inj hc
   replace h:=YB h; obtain ⟨h,hss⟩:=h
   subst hss
   exact (ZpC (t := 0) hG hI (.inl hop) rfl h).fit hI
 ·obtain ⟨y,hy,rfl⟩:=Option.map_eq_some_iff.1 hc
  replace h:=YB h; obtain ⟨h,hss⟩:=h
  subst hss
  exact (ZpC hG hI (.inl hop) hy h).fit hI
theorem Zn3 (hG:GOk G E.W0)(hI:Inv E s Γ a w){x:Operand}(hop:o.op=.assign x)(hc:cOp P hand draw o=some ao)(h:Zj G call s ao=some (v,s')):Gl P E Γ s s' v a w o ao:=by
 simp only [cOp,hop] at hc
 split at hc
 ·rename_i t
  split at hc
  ·obtain rfl:=Option.some.inj hc
   replace h:=YB h; obtain ⟨h,hss⟩:=h
   subst hss
   exact (ZpC (t := 0) hG hI (.inr hop) rfl h).fit hI
  ·obtain rfl:=Option.some.inj hc
   simp only [Zj] at h
   split at h <;> first | (cases h; done) | skip
   rename_i u hu
   cases h
   exact (Zn2 hI (.inr hop) hu).fit
 ·obtain ⟨y,hy,rfl⟩:=Option.map_eq_some_iff.1 hc
  replace h:=YB h; obtain ⟨h,hss⟩:=h
  subst hss
  exact (ZpC hG hI (.inr hop) hy h).fit hI
theorem Zso (hG:GOk G E.W0)(hI:Inv E s Γ a w){c x y:Operand}(hop:o.op=.pick c x y)(hc:cOp P hand draw o=some ao)(h:Zj G call s ao=some (v,s')):Gl P E Γ s s' v a w o ao:=by
 simp only [cOp,hop] at hc
 split at hc <;> first | (cases hc; done) | skip
 rename_i c' x' y' h1 h2 h3
 obtain rfl:=Option.some.inj hc
 simp only [Zj] at h
 split at h <;> first | (cases h; done) | skip
 ·rename_i hb
  replace h:=YB h; obtain ⟨h,hss⟩:=h
  subst hss
  exact (Zn0 (b := true) hG hI hop h1 h2 h3 hb h).fit hI
 ·rename_i hb
  replace h:=YB h; obtain ⟨h,hss⟩:=h
  subst hss
  exact (Zn0 (b := false) hG hI hop h1 h2 h3 hb h).fit hI
theorem ZqO (hG:GOk G E.W0)(hI:Inv E s Γ a w)(hop:(∃ e,o.op=.alloc e)∨(∃ e x,o.op=.box e x))(hc:cOp P hand draw o=some ao)(h:Zj G call s ao=some (v,s')):Gl P E Γ s s' v a w o ao:=by
 rcases hop with ⟨e,hop⟩ | ⟨e,x,hop⟩
 ·simp only [cOp,hop] at hc
  split at hc <;> first | (cases hc; done) | skip
  rename_i z hz
  split at hc <;> first | (cases hc; done) | skip
  rename_i h1
  obtain rfl:=Option.some.inj hc
  simp only [Zj] at h
  cases h
  exact (ZvF hI hop hz h1).fit
 ·simp only [cOp,hop] at hc
  obtain ⟨y,hy,rfl⟩:=Option.map_eq_some_iff.1 hc
  simp only [Zj] at h
  split at h <;> first | (cases h; done) | skip
  rename_i u hu
  split at h <;> first | (cases h; done) | skip
  rename_i hl
  cases h
  exact (ZtU hG hI hop hy hu hl.2).fit
theorem ZpE (hG:GOk G E.W0)(hI:Inv E s Γ a w){t:TypeId}{parts:Array (Nat×Operand)}(hop:o.op=.build t parts)(hc:cOp P hand draw o=some ao)(h:Zj G call s ao=some (v,s')):Gl P E Γ s s' v a w o ao:=by
 simp only [cOp,hop] at hc
 split at hc <;> first | (cases hc; done) | skip
 rename_i hs
 split at hc <;> first | (cases hc; done) | skip
 rename_i z ps hz hp
 obtain rfl:=Option.some.inj hc
 simp only [Zj] at h
 split at h <;> first | (cases h; done) | skip
 rename_i vs hv
 obtain ⟨cs,h1,h2⟩:=Option.map_eq_some_iff.1 h
 cases h2
 exact (Zp9 hG hI hop hs hz hp hv h1).fit
theorem Zud (hG:GOk G E.W0)(hI:Inv E s Γ a w){t:TypeId}{len:Nat}{parts:Array (Nat×Operand)}(hop:o.op=.buildSlice t len parts)(hc:cOp P hand draw o=some ao)(h:Zj G call s ao=some (v,s')):Gl P E Γ s s' v a w o ao:=by
 simp only [cOp,hop] at hc
 split at hc <;> first | (cases hc; done) | skip
 rename_i e ht
 split at hc <;> first | (cases hc; done) | skip
 rename_i hx
 obtain ⟨h1,h2,h3,h4⟩:=hx
 obtain ⟨ps,hp,rfl⟩:=Option.map_eq_some_iff.1 hc
 by_cases hm:(hand OZ || hand (OZ + 1 + e))=true
 ·simp only [hm,if_true,Zj] at h ⊢
  split at h <;> first | (cases h; done) | skip
  rename_i vs hv
  split at h <;> first | (cases h; done) | skip
  rename_i hall
  cases h
  exact (Znz hG hI hop ht h1 h2 h4 hp hv hall).fit
 ·simp only [if_neg hm,Zj] at h ⊢
  split at h <;> first | (cases h; done) | skip
  rename_i vs hv
  split at h
  ·rename_i hall
   cases h
   exact (Zua hG hI hop ht h1 h2 h3 h4 hp hv hall).fit
  ·split at h <;> first | (cases h; done) | skip
   rename_i hall
   cases h
   exact (Znz hG hI hop ht h1 h2 h4 hp hv hall).fit
theorem Zsm (hG:GOk G E.W0)(hI:Inv E s Γ a w){t:TypeId}{p:Operand}(hop:o.op=.load t p)(hc:cOp P hand draw o=some ao)(h:Zj G call s ao=some (v,s')):Gl P E Γ s s' v a w o ao:=by
 simp only [cOp,hop] at hc
 split at hc <;> first | (cases hc; done) | skip
 rename_i p' hp
 split at hc
 ·rename_i ht
  obtain rfl:=Option.some.inj hc
  simp only [Zj] at h
  split at h <;> first | (cases h; done) | skip
  rename_i x hx
  replace h:=YB h; obtain ⟨h,hss⟩:=h
  subst hss
  exact (ZtX hG hI hop ht hp hx h).fit hI
 ·rename_i ht
  have ht:Jo P t=false:=by simpa using ht
  split at hc <;> first | (cases hc; done) | skip
  rename_i hu
  split at hc
  ·obtain rfl:=Option.some.inj hc
   simp only [Zj] at h
   split at h <;> first | (cases h; done) | skip
   rename_i g q hx
   split at h <;> first | (cases h; done) | skip
   rename_i cs t' hg
   split at h <;> first | (cases h; done) | skip
   rename_i u hv
   cases h
   exact (ZtZ hG hI hop ht hu hp hx hg hv).fit
  ·obtain rfl:=Option.some.inj hc
   simp only [Zj] at h
   split at h <;> first | (cases h; done) | skip
   rename_i x hx
   replace h:=YB h; obtain ⟨h,hss⟩:=h
   subst hss
   exact (ZtY hG hI hop ht hu hp hx h).fit hI
theorem ZpG (hG:GOk G E.W0)(hI:Inv E s Γ a w){t:TypeId}{p x:Operand}(hop:o.op=.store t p x)(hc:cOp P hand draw o=some ao)(h:Zj G call s ao=some (v,s')):Gl P E Γ s s' v a w o ao:=by
 simp only [cOp,hop] at hc
 split at hc
 ·cases hc
 rename_i hti
 have hi:∃ i,P.info? t=some i:=by
  cases hq:P.info? t with
  | none=>rw [hq] at hti; exact absurd rfl hti
  | some i=>exact ⟨i,rfl⟩
 obtain ⟨i,hi⟩:=hi
 split at hc <;> first | (cases hc; done) | skip
 rename_i p' hp
 have st:∀ {y},ZI P t x=some y→Zj G call s (.st (P.cellsOf t) p' y)=some (v,s')→Gl P E Γ s s' v a w o (.st (P.cellsOf t) p' y):=by
  intro y hy h
  simp only [Zj] at h
  split at h <;> first | (cases h; done) | skip
  rename_i g q u hpp hx
  split at h <;> first | (cases h; done) | skip
  rename_i cs t' hg
  split at h <;> first | (cases h; done) | skip
  rename_i hn
  cases h
  exact (ZvG hG hI hi hop hp hy hpp hx hg hn).fit
 split at hc
 ·rename_i hag
  simp only [Bool.and_eq_true,Bool.not_eq_true',beq_iff_eq] at hag
  split at hc
  ·rename_i sl hsl
   have hx:x=.tmp sl:=by
    cases x <;> simp only [Zpu] at hsl <;> first | (cases hsl; done) | (cases hsl; rfl)
   subst hx
   obtain rfl:=Option.some.inj hc
   simp only [Zj] at h
   split at h <;> first | (cases h; done) | skip
   rename_i g q u hpp hx
   split at h <;> first | (cases h; done) | skip
   rename_i cs t' hg
   split at h <;> first | (cases h; done) | skip
   rename_i hn
   cases h
   exact (Zub hG hI hi hag.2 hop hp hpp hx hg hn).fit
  ·obtain ⟨y,hy,rfl⟩:=Option.map_eq_some_iff.1 hc
   exact st hy h
 ·obtain ⟨y,hy,rfl⟩:=Option.map_eq_some_iff.1 hc
  exact st hy h
theorem ZaX (hG:GOk G E.W0)(hI:Inv E s Γ a w)(hop:(∃ x,o.op=.nilCheck x)∨(∃ op t x y t',o.op=.binOp op t x y t')∨(∃ op t x,o.op=.unOp op t x))(hc:cOp P hand draw o=some ao)(h:Zj G call s ao=some (v,s')):Gl P E Γ s s' v a w o ao:=by
 rcases hop with ⟨x,hop⟩ | ⟨op,t,x,y,t',hop⟩ | ⟨op,t,x,hop⟩
 ·simp only [cOp,hop] at hc
  obtain ⟨y,hy,rfl⟩:=Option.map_eq_some_iff.1 hc
  simp only [Zj] at h
  split at h <;> first | (cases h; done) | skip
  ·rename_i hx; cases h; exact (ZaW hG hI hop hy hx (.inl ⟨_,rfl⟩)).fit hI
  ·rename_i hx; cases h; exact (ZaW hG hI hop hy hx (.inr (.inl ⟨_,_,rfl⟩))).fit hI
  ·rename_i hx; cases h; exact (ZaW hG hI hop hy hx (.inr (.inr ⟨_,_,_,rfl⟩))).fit hI
 ·simp only [cOp,hop] at hc
  split at hc <;> first | (cases hc; done) | skip
  rename_i sh x' y' h1 h2 h3
  obtain rfl:=Option.some.inj hc
  simp only [Zj] at h
  split at h <;> first | (cases h; done) | skip
  rename_i u u' hx hy
  replace h:=YB h; obtain ⟨h,hss⟩:=h
  subst hss
  exact (ZtT hG hI hop h1 h2 h3 hx hy h).fit hI
 ·simp only [cOp,hop] at hc
  obtain ⟨y,hy,rfl⟩:=Option.map_eq_some_iff.1 hc
  simp only [Zj] at h
  split at h <;> first | (cases h; done) | skip
  rename_i u hx
  replace h:=YB h; obtain ⟨h,hss⟩:=h
  subst hss
  exact (ZvH hG hI hop hy hx h).fit hI
theorem Zlg (hG:GOk G E.W0)(hI:Inv E s Γ a w){src dst:TypeId}{x:Operand}(hop:o.op=.convert src dst x)(hc:cOp P hand draw o=some ao)(h:Zj G call s ao=some (v,s')):Gl P E Γ s s' v a w o ao:=by
 simp only [cOp,hop] at hc
 split at hc <;> first | (cases hc; done) | skip
 ·rename_i x' k k' hx' hs hd
  obtain rfl:=Option.some.inj hc
  simp only [Zj] at h
  split at h <;> first | (cases h; done) | skip
  rename_i u hu
  replace h:=YB h; obtain ⟨h,hss⟩:=h
  subst hss
  cases u <;> simp only [UB] at h <;> first | (cases h; done) | skip
  obtain rfl:=Option.some.inj h
  exact (ZhX hG hI hop hs hd hx' hu).fit
 ·rename_i x' hx' hs hd
  obtain rfl:=Option.some.inj hc
  simp only [Zj] at h
  split at h <;> first | (cases h; done) | skip
  rename_i u hu
  replace h:=YB h; obtain ⟨h,hss⟩:=h
  subst hss
  cases u <;> simp only [UB] at h <;> first | (cases h; done) | skip
  obtain rfl:=Option.some.inj h
  exact (ZhY hG hI hop hs hd hx' hu).fit
 ·rename_i x' e hx' hs hd
  split at hc <;> first | (cases hc; done) | skip
  rename_i he
  obtain rfl:=Option.some.inj hc
  simp only [Zj] at h
  split at h <;> first | (cases h; done) | skip
  rename_i u hu
  replace h:=YB h; obtain ⟨h,hss⟩:=h
  subst hss
  cases u <;> simp only [UB] at h <;> first | (cases h; done) | skip
  obtain rfl:=Option.some.inj h
  exact (Zew hG hI hop hs hd he hx' hu).fit
 ·rename_i x' e hx' hs hd
  split at hc <;> first | (cases hc; done) | skip
  rename_i he
  obtain rfl:=Option.some.inj hc
  simp only [Zj] at h
  split at h <;> first | (cases h; done) | skip
  rename_i u hu
  replace h:=YB h; obtain ⟨h,hss⟩:=h
  subst hss
  simp only [UB] at h
  split at h <;> first | (cases h; done) | skip
  rename_i r hr
  obtain ⟨l,hl,rfl⟩:=Option.map_eq_some_iff.1 h
  exact (ZaV hG hI hop hs hd he hx' hu hr hl).fit
theorem Zib (hG:GOk G E.W0)(hI:Inv E s Γ a w)(hop:(∃ fn x y,o.op=.makeFunc fn x y)∨(∃ t r,o.op=.makeMap t r)∨(∃ t l c,o.op=.makeSlice t l c))(hc:cOp P hand draw o=some ao)(h:Zj G call s ao=some (v,s')):Gl P E Γ s s' v a w o ao:=by
 rcases hop with ⟨fn,x,y,hop⟩ | ⟨t,r,hop⟩ | ⟨t,l,c,hop⟩
 ·cases fn with
  | func f =>
   simp only [cOp,hop] at hc
   split at hc <;> first | (cases hc; done) | skip
   rename_i us vs h1 h2
   obtain rfl:=Option.some.inj hc
   simp only [Zj] at h
   split at h <;> first | (cases h; done) | skip
   rename_i u1 u2 h3 h4
   cases h
   exact (Zsg hG hI hop h1 h2 h3 h4).fit
  | _=>simp only [cOp,hop] at hc; cases hc
 ·cases r with
  | none =>
   simp only [cOp,hop] at hc
   obtain rfl:=Option.some.inj hc
   simp only [Zj] at h
   cases h
   exact (ZpB hI hop).fit
  | some r=>simp only [cOp,hop] at hc; cases hc
 ·have fin:∀ {e:TypeId} {z:AV} {i:TypeInfo} {n:Yf},P.underlying t=some (.slice e)→zeroOf P e=some z→P.info? e=some i→(z.cells.all AV.one=true∧z.cells.length=i.size∧i.bytes≤16384∧0 < i.size) →
    (∀ kd m,opnd G s.sl n=some (.int kd m)→a.eval l=.int kd m∧a.eval c=.int kd m)→Zj G call s (.mksl e z.cells n)=some (v,s')→Gl P E Γ s s' v a w o (.mksl e z.cells n):=by
   intro e z i n ht hz hi hx hev h
   simp only [Zj] at h
   split at h <;> first | (cases h; done) | skip
   rename_i kd m hm
   split at h <;> first | (cases h; done) | skip
   rename_i hb
   cases h
   exact (Zsh hI ⟨l,c,hop,(hev kd m hm).1,(hev kd m hm).2⟩ ht hi hz hx.1 hx.2.1 hx.2.2.2 hx.2.2.1 hb.1 hb.2).fit
  have slot:∀ {q:Nat} {kd:IntKind} {m:Int},opnd G s.sl (.tmp q)=some (.int kd m)→a.eval (.tmp q)=.int kd m:=fun {q kd m} hm=>by
   have:=(Zp (P := P) (t := 0) (x := .tmp q) (y := .tmp q) hG hI rfl hm).1
   generalize a.eval (.tmp q)=u at this
   cases this; rfl
  cases l <;> cases c <;> simp only [cOp,hop] at hc <;> first | (cases hc; done) | skip
  ·split at hc <;> first | (cases hc; done) | skip
   rename_i hlc
   subst hlc
   split at hc <;> first | (cases hc; done) | skip
   rename_i e ht
   split at hc <;> first | (cases hc; done) | skip
   rename_i z i hz hi
   split at hc <;> first | (cases hc; done) | skip
   rename_i hx
   obtain rfl:=Option.some.inj hc
   exact fin ht hz hi hx (fun kd m hm=>⟨slot hm,slot hm⟩) h
  ·rename_i x y
   cases x <;> cases y <;> simp only at hc <;> first | (cases hc; done) | skip
   split at hc <;> first | (cases hc; done) | skip
   rename_i hlc
   obtain ⟨rfl,rfl⟩:=hlc
   split at hc <;> first | (cases hc; done) | skip
   rename_i e ht
   split at hc <;> first | (cases hc; done) | skip
   rename_i z i hz hi
   split at hc <;> first | (cases hc; done) | skip
   rename_i hx
   obtain rfl:=Option.some.inj hc
   exact fin ht hz hi hx (fun kd m hm=>by cases hm; exact ⟨rfl,rfl⟩) h
theorem ZpF (hG:GOk G E.W0)(hI:Inv E s Γ a w){t:TypeId}{x:Operand}{lo hi mx:Option Operand}(hop:o.op=.slice t x lo hi mx)(hc:cOp P hand draw o=some ao)(h:Zj G call s ao=some (v,s')):Gl P E Γ s s' v a w o ao:=by
 cases mx with
 | some m =>
  cases lo with
  | some l=>simp only [cOp,hop] at hc; cases hc
  | none =>
   cases hi with
   | none=>simp only [cOp,hop] at hc; cases hc
   | some hi =>
    simp only [cOp,hop] at hc
    split at hc <;> first | (cases hc; done) | skip
    rename_i sh x' hi' mx' h1 h2 h3 h4
    obtain rfl:=Option.some.inj hc
    simp only [Zj] at h
    split at h <;> first | (cases h; done) | skip
    rename_i u vh vm k1 k2 k3
    replace h:=YB h; obtain ⟨h,hss⟩:=h
    subst hss
    exact (Zn1 hG hI hop h1 h2 h3 h4 k1 k2 k3 h).fit hI
 | none =>
  simp only [cOp,hop] at hc
  split at hc <;> first | (cases hc; done) | skip
  rename_i sh x' lo' hi' h1 h2 h3 h4
  obtain rfl:=Option.some.inj hc
  simp only [Zj] at h
  split at h <;> first | (cases h; done) | skip
  rename_i u vl vh k1 k2 k3
  replace h:=YB h; obtain ⟨h,hss⟩:=h
  subst hss
  exact (ok_slice hG hI hop h1 h2 h3 h4 k1 k2 k3 h).fit hI
theorem Zex (hG:GOk G E.W0)(hI:Inv E s Γ a w)(hop:(∃ t x f,o.op=.fieldAddr t x f)∨(∃ t x f,o.op=.field t x f)∨(∃ t x i,o.op=.indexAddr t x i)∨(∃ t x i,o.op=.index t x i))(hc:cOp P hand draw o=some ao)(h:Zj G call s ao=some (v,s')):Gl P E Γ s s' v a w o ao:=by
 rcases hop with ⟨t,x,f,hop⟩ | ⟨t,x,f,hop⟩ | ⟨t,x,i,hop⟩ | ⟨t,x,i,hop⟩
 ·simp only [cOp,hop] at hc
  split at hc <;> first | (cases hc; done) | skip
  rename_i off n agg x' h1 h2
  obtain rfl:=Option.some.inj hc
  simp only [Zj] at h
  split at h <;> first | (cases h; done) | skip
  rename_i u hx
  replace h:=YB h; obtain ⟨h,hss⟩:=h
  subst hss
  exact (ZvD hG hI hop h1 h2 hx h).fit hI
 ·simp only [cOp,hop] at hc
  split at hc <;> first | (cases hc; done) | skip
  rename_i off n agg x' h1 h2
  obtain rfl:=Option.some.inj hc
  simp only [Zj] at h
  split at h <;> first | (cases h; done) | skip
  rename_i u hx
  replace h:=YB h; obtain ⟨h,hss⟩:=h
  subst hss
  exact (ZtV hG hI hop h1 h2 hx h).fit hI
 ·simp only [cOp,hop] at hc
  split at hc <;> first | (cases hc; done) | skip
  all_goals
   rename_i x' i' h1 h2 h3
   obtain rfl:=Option.some.inj hc
   simp only [Zj] at h
   split at h <;> first | (cases h; done) | skip
   rename_i u n hx hi
   replace h:=YB h; obtain ⟨h,hss⟩:=h
   subst hss
   exact (ZvE hG hI hop h1 h2 h3 hx hi h).fit hI
 ·simp only [cOp,hop] at hc
  split at hc <;> first | (cases hc; done) | skip
  rename_i x' i' h1 h2 h3
  obtain rfl:=Option.some.inj hc
  simp only [Zj] at h
  split at h <;> first | (cases h; done) | skip
  rename_i u n hx hi
  replace h:=YB h; obtain ⟨h,hss⟩:=h
  subst hss
  exact (ZtW hG hI hop h1 h2 h3 hx hi h).fit hI
theorem ZqN (hG:GOk G E.W0)(hI:Inv E s Γ a w)(hop:(∃ t x i ok,o.op=.lookup t x i ok)∨(∃ t m k x,o.op=.mapUpdate t m k x))(hc:cOp P hand draw o=some ao)(h:Zj G call s ao=some (v,s')):Gl P E Γ s s' v a w o ao:=by
 rcases hop with ⟨t,x,i,ok,hop⟩ | ⟨t,m,k,x,hop⟩
 ·simp only [cOp,hop] at hc
  split at hc <;> first | (cases hc; done) | skip
  rename_i kt et ht
  split at hc <;> first | (cases hc; done) | skip
  rename_i sh z x' i' h1 h2 h3 h4
  split at hc <;> first | (cases hc; done) | skip
  rename_i hz
  obtain rfl:=Option.some.inj hc
  simp only [Zj] at h
  split at h <;> first | (cases h; done) | skip
  rename_i u n hx hi
  replace h:=YB h; obtain ⟨h,hss⟩:=h
  subst hss
  exact (Zsf hG hI hop ht h1 h2 hz h3 h4 hx hi h).fit
 ·simp only [cOp,hop] at hc
  split at hc <;> first | (cases hc; done) | skip
  rename_i kt et ht
  split at hc <;> first | (cases hc; done) | skip
  rename_i sh m' k' x' h1 h2 h3 h4
  obtain rfl:=Option.some.inj hc
  simp only [Zj] at h
  split at h <;> first | (cases h; done) | skip
  rename_i g ka va hm hk hv
  split at h <;> first | (cases h; done) | skip
  rename_i es hg
  split at h <;> first | (cases h; done) | skip
  rename_i hf
  simp only [Bool.and_eq_true] at hf
  split at h <;> first | (cases h; done) | skip
  rename_i es' hu
  cases h
  exact (Zsi hG hI hop ht h1 h2 h3 h4 hm hk hv hg hf.1 hf.2 (Zcc hu) hu).fit
theorem Zia (hG:GOk G E.W0)(hI:Inv E s Γ a w)(hop:(∃ t x,o.op=.range t x)∨(∃ x b,o.op=.next x b)∨(∃ x i,o.op=.extract x i))(hc:cOp P hand draw o=some ao)(h:Zj G call s ao=some (v,s')):Gl P E Γ s s' v a w o ao:=by
 rcases hop with ⟨t,x,hop⟩ | ⟨x,b,hop⟩ | ⟨x,i,hop⟩
 ·simp only [cOp,hop] at hc
  split at hc <;> first | (cases hc; done) | skip
  rename_i ht
  obtain ⟨x',hx',rfl⟩:=Option.map_eq_some_iff.1 hc
  simp only [Zj] at h
  split at h <;> first | (cases h; done) | skip
  rename_i l hx
  cases h
  exact (ZpD hG hI hop ht hx' hx).fit
 ·cases b with
  | false=>simp only [cOp,hop] at hc; cases hc
  | true =>
   simp only [cOp,hop] at hc
   obtain ⟨x',hx',rfl⟩:=Option.map_eq_some_iff.1 hc
   simp only [Zj] at h
   split at h <;> first | (cases h; done) | skip
   rename_i g hx
   split at h <;> first | (cases h; done) | skip
   rename_i l pos hg
   split at h
   ·rename_i hlt
    cases h
    exact (Zsj hG hI hop hx' hx hg hlt).fit
   ·rename_i hlt
    cases h
    exact (ZhZ hG hI hop hx' hx hg hlt).fit
 ·simp only [cOp,hop] at hc
  obtain ⟨x',hx',rfl⟩:=Option.map_eq_some_iff.1 hc
  simp only [Zj] at h
  split at h <;> first | (cases h; done) | skip
  rename_i vs hx
  obtain ⟨u,h1,h2⟩:=Option.map_eq_some_iff.1 h
  cases h2
  exact (Zld hG hI hop hx' hx h1).fit hI
end
end Go.Proofs.YtleomfgijkapfaaGreatDoor.Abs
end
section
namespace Go.Proofs.YtleomfgijkapfaaGreatDoor.Abs
open Go Go.RowKit
def Zoy (P:Program)(f:FuncId)(xs:Array Value)(w:World)(R:Value→World→Prop):Prop :=
 (callFunc f xs).run P w=.ok (.enter f xs) w∧Calls P f xs w fun e w''=>∃ v,e=.returned v∧R v w''
theorem Zoy.mono {P:Program}{f:FuncId}{xs:Array Value}{w:World}{R R':Value→World→Prop}(h:Zoy P f xs w R)(hr:∀ v w',R v w'→R' v w'):Zoy P f xs w R' :=
 ⟨h.1,h.2.mono fun _ w'' ⟨v,hv,h⟩=>⟨v,hv,hr v w'' h⟩⟩
structure Tidy (Γ:Zx)(n:Nat):Prop where
 res:∀ b m,Γ b≠.list m .res
 arg:∀ b m j,Γ b≠.list m (.arg j)
 cell:∀ b m g i,Γ b=.list m (.cell g i)→g < n
def ZM (P:Program)(W0:World)(F:FuncId→List AV→List Z8→Option (AV×List Z8×Eff)):Prop :=
 ∀ f args hp v hp' e,F f args hp=some (v,hp',e)→∀ (Γ:Zx) (w:World) (xs:Array Value),RW W0 Γ w hp→Tidy Γ hp.length→xs.size=args.length →
  (∀ j x,args[j]? = some x→Rep Γ w x (xs.getD j Go.undef)∧OwnAt Γ w (.slot j) x (xs.getD j Go.undef)) →
  Zoy P f xs w fun cv w'=>∃ Γ',RW W0 Γ' w' hp'∧Rep Γ' w' v cv∧OwnAt Γ' w' .res v cv∧Frame Γ w Γ' w' e∧hp.length≤hp'.length∧∀ b g,Γ' b=.own g→g < hp.length→Γ b=.own g
theorem Qk.own {o g:Nat}:¬ Qk o (.own g):=fun h=>h
theorem RW.alike {W0 w:World}{Γ Γ':Zx}{hp:List Z8}(h:RW W0 Γ w hp)(hf:Yd Γ w Γ' w)(ho:∀ b g,Γ b=.own g↔Γ' b=.own g)
  (hc:∀ b n g i,g < hp.length→Γ b=.list n (.cell g i)→Γ' b=.list n (.cell g i)) (hi:∀ b,Γ b=.imm→Γ' b=.imm):RW W0 Γ' w hp:=by
 have hom:Yz Γ Γ':=fun b g hb=>(ho b g).1 hb
 refine ⟨fun g o hg=>?_,fun b b' g h1 h2=>h.inj b b' g ((ho b g).2 h1) ((ho b' g).2 h2),fun b hb=>hi b (h.fresh b hb),fun b g hb=>h.lt b g ((ho b g).2 hb),h.old,fun b hb=>hi b (h.oldImm b hb),fun g hg b hb=>h.dead g hg b ((ho b g).2 hb)⟩
 have hlt:=Zm hg
 have:=h.objs g o hg
 cases o with
 | dead=>trivial
 | cells cs t =>
  obtain ⟨b,C,h1,h2,h3,h4⟩:=this
  refine ⟨b,C,hom b g h1,h2,h3,fun i c hc'=>?_⟩
  obtain ⟨a1,a2,a3⟩:=h4 i c hc'
  exact ⟨a1,a2.mono hf hom,a3.mono hf hom fun b n hb=>⟨hc b n g i hlt hb,rfl⟩⟩
 | map es =>
  obtain ⟨b,ms,clk,h1,h2,h3,h4⟩:=this
  exact ⟨b,ms,clk,hom b g h1,h2,h3,h4⟩
 | iter s pos =>
  obtain ⟨b,h1,h2⟩:=this
  exact ⟨b,hom b g h1,h2⟩
 | buf _ _ _ =>
  obtain ⟨b,C,h1,h2,h3⟩:=this
  exact ⟨b,C,hom b g h1,h2,h3.mono fun b n i hb=>⟨hc b n g i hlt hb,rfl⟩⟩
def Xg (n:Nat):Kind→Kind
 | .list m (.slot _)=>.list m .outer
 | .list m .res=>.list m .outer
 | .list m (.arg j)=>.list m (.slot j)
 | .list m (.cell g i)=>if g < n then .list m (.cell g i) else .imm
 | k=>k
def Fa:Kind→Kind→Kind
 | .list m (.slot t),_=>.list m (.slot t)
 | _,.list _ (.slot _)=>.imm
 | _,.list _ (.arg _)=>.imm
 | _,k=>k
theorem Zb8 {n o:Nat}{k:Kind}(h:Qk o k):Qk o (Xg n k):=by
 cases k with
 | imm=>trivial
 | own g=>exact h.elim
 | list m l =>
  cases l <;> simp only [Xg] <;> first | exact h | skip
  split
  ·exact h
  ·trivial
theorem Nh {n g:Nat}{k:Kind}:k=.own g↔Xg n k=.own g:=by
 cases k with
 | imm=>simp [Xg]
 | own g=>simp [Xg]
 | list m l =>
  cases l <;> simp only [Xg] <;> try simp
  split <;> simp
theorem Zok {n:Nat}{k:Kind}(h:k=.imm):Xg n k=.imm:=by subst h; rfl
theorem Zol (Γ:Zx)(n:Nat):Tidy (fun b=>Xg n (Γ b)) n:=by
 refine ⟨fun b m h=>?_,fun b m j h=>?_,fun b m g i h=>?_⟩ <;> revert h <;> cases Γ b with
 | imm=>simp [Xg]
 | own g=>simp [Xg]
 | list m l =>
  cases l <;> simp only [Xg] <;> try simp
  try (split <;> simp <;> try omega)
theorem RW.seen {W0 w:World}{Γ:Zx}{hp:List Z8}(h:RW W0 Γ w hp):RW W0 (fun b=>Xg hp.length (Γ b)) w hp :=
 h.alike (fun _ _ _ h1 h2=>⟨Zb8 h1,h2⟩) (fun _ _=>Nh) (fun b n g i hl hb=>by simp [hb,Xg,hl]) (fun _=>Zok)
end Go.Proofs.YtleomfgijkapfaaGreatDoor.Abs
end
section
namespace Go.Proofs.YtleomfgijkapfaaGreatDoor.Abs
open Go Go.RowKit
section
variable {P:Program}{G:Nat→Option (List AV)}{E:Entry}{s:Ze}{Γ:Zx}{a:Act}{w:World}
theorem Inv.hand (h:Inv E s Γ a w)(m:Loc)(t:Nat){v:AV}(hv:s.sl[t]? = some v) :
  ∃ Γ',Inv E (s.let_ t) Γ' a w∧Rep Γ' w v (a.tmps.getD t Go.undef)∧OwnAt Γ' w m v (a.tmps.getD t Go.undef)∧Yd Γ w Γ' w∧Yz Γ Γ'∧∀ b n j,Γ b=.list n (.arg j)→Γ' b=.list n (.arg j):=by
 have f1:=Q3 (Γ := Γ) (w := w) (l := .slot t) (YU (l := m))
 have o1:Yz Γ (relab Γ (.slot t) (Gu m)):=Wl
 refine ⟨relab Γ (.slot t) (Gu m),⟨h.defers,⟨by simpa [Ze.let_] using h.slots.size,fun u x hx=>?_,fun u x hx=>?_⟩,h.rw.relab YU YD (by simp),h.fr.relab (l := .slot t) YU trivial,h.base,h.base2,h.le,fun b g hb=>h.back b g (Yc YD hb)⟩,?_,?_,f1,o1,fun b n j hb=>WV hb (by simp)⟩
 ·simp only [Ze.let_,List.getElem?_modify] at hx
  obtain ⟨y,hy,e⟩:=Option.map_eq_some_iff.1 hx
  have:=(h.slots.rep u y hy).mono f1 o1
  split at e
  ·subst e; exact this.ro
  ·subst e; exact this
 ·simp only [Ze.let_,List.getElem?_modify] at hx
  obtain ⟨y,hy,e⟩:=Option.map_eq_some_iff.1 hx
  split at e
  ·subst e; exact .of_ro _ _ _ _ _
  ·rename_i ne
   subst e
   exact (h.slots.own u y hy).mono f1 o1 fun b n hb=>⟨WV hb (by simp; omega),rfl⟩
 ·exact (h.slots.rep t v hv).mono f1 o1
 ·exact (h.slots.own t v hv).mono f1 o1 fun b n hb=>⟨Lc hb,rfl⟩
theorem Zri (hG:GOk G E.W0):∀ {args:List (Nat ⊕ Yf)} {ts:List TypeId} {xs:List Operand} {hand:Nat→Bool} {vs sl:List AV} (k:Nat) {s:Ze} {Γ:Zx},Inv E s Γ a w→Px P hand ts xs=some args→WU G s.sl args=some (vs,sl) →
  ∃ Γ',Inv E { s with sl:=sl } Γ' a w∧Yd Γ w Γ' w∧Yz Γ Γ'∧(∀ b n j,j < k→Γ b=.list n (.arg j)→Γ' b=.list n (.arg j))∧vs.length=xs.length ∧
   ∀ j v,vs[j]? = some v→∃ x,xs[j]? = some x∧Rep Γ' w v (a.eval x)∧OwnAt Γ' w (.arg (k + j)) v (a.eval x):=by
 intro args
 induction args with
 | nil =>
  intro ts xs hand vs sl k s Γ hI hc h
  simp only [WU,Option.some.injEq,Prod.mk.injEq] at h
  obtain ⟨rfl,rfl⟩:=h
  have:xs=[]:=by
   cases xs with
   | nil=>rfl
   | cons x xs =>
    cases ts with
    | nil=>simp [Px] at hc
    | cons t ts =>
     simp only [Px] at hc
     split at hc <;> simp at hc
  subst this
  exact ⟨Γ,hI,.refl _ _,.refl _,fun _ _ _ _ h=>h,rfl,fun j v hv=>by simp at hv⟩
 | cons p args ih =>
  intro ts xs hand vs sl k s Γ hI hc h
  cases xs with
  | nil=>cases ts <;> simp [Px] at hc
  | cons x xs =>
   cases ts with
   | nil=>simp [Px] at hc
   | cons t ts =>
    simp only [Px] at hc
    split at hc
    case h_2=>cases hc
    rename_i y l hy hl
    obtain ⟨rfl,rfl⟩:=List.cons.inj (Option.some.inj hc)
    have step:∀ (v:AV) (s1:Ze) (Γ1:Zx) (vs1:List AV),Inv E s1 Γ1 a w→s1.hp=s.hp→s1.ef=s.ef→s1.bs=s.bs→Yd Γ w Γ1 w→Yz Γ Γ1→(∀ b n j,j < k→Γ b=.list n (.arg j)→Γ1 b=.list n (.arg j)) →
      Rep Γ1 w v (a.eval x)→OwnAt Γ1 w (.arg k) v (a.eval x)→WU G s1.sl l=some (vs1,sl)→vs=v :: vs1 →
      ∃ Γ',Inv E { s with sl:=sl } Γ' a w∧Yd Γ w Γ' w∧Yz Γ Γ'∧(∀ b n j,j < k→Γ b=.list n (.arg j)→Γ' b=.list n (.arg j))∧vs.length=(x :: xs).length ∧
       ∀ j v,vs[j]? = some v→∃ x',(x :: xs)[j]? = some x'∧Rep Γ' w v (a.eval x')∧OwnAt Γ' w (.arg (k + j)) v (a.eval x'):=by
     intro v s1 Γ1 vs1 i1 e1 e2 e3 f1 o1 k1 r1 w1 h1 hvs
     obtain ⟨Γ2,i2,f2,o2,k2,hlen,hall⟩:=ih (k + 1) i1 hl h1
     subst hvs
     refine ⟨Γ2,by rw [← e1,← e2,← e3]; exact i2,f1.trans f2,o1.trans o2,fun b n j hj hb=>k2 b n j (by omega) (k1 b n j hj hb),by simp [hlen],fun j u hu=>?_⟩
     cases j with
     | zero =>
      obtain rfl:=Option.some.inj hu
      exact ⟨x,rfl,r1.mono f2 o2,w1.mono f2 o2 fun b n hb=>⟨k2 b n k (by omega) hb,rfl⟩⟩
     | succ j =>
      obtain ⟨x',hx',hr,ho⟩:=hall j u (by simpa using hu)
      exact ⟨x',by simpa using hx',hr,by rw [show k + (j + 1)=k + 1 + j by omega]; exact ho⟩
    have plain:∀ (q:Yf),ZI P t x=some q∨(∃ i,x=.tmp i∧q=.tmp i)→y=.inr q →
      ∃ Γ',Inv E { s with sl:=sl } Γ' a w∧Yd Γ w Γ' w∧Yz Γ Γ'∧(∀ b n j,j < k→Γ b=.list n (.arg j)→Γ' b=.list n (.arg j))∧vs.length=(x :: xs).length ∧
       ∀ j v,vs[j]? = some v→∃ x',(x :: xs)[j]? = some x'∧Rep Γ' w v (a.eval x')∧OwnAt Γ' w (.arg (k + j)) v (a.eval x'):=by
     intro q hq hp
     subst hp
     have hq:ZI P t x=some q:=by
      rcases hq with h | ⟨i,rfl,rfl⟩
      ·exact h
      ·rfl
     simp only [WU] at h
     split at h
     case h_2=>cases h
     rename_i v hv
     obtain ⟨p1,h1,h2⟩:=Option.map_eq_some_iff.1 h
     obtain ⟨rfl,rfl⟩:=Prod.mk.inj h2
     exact step v s Γ p1.1 hI rfl rfl rfl (.refl _ _) (.refl _) (fun _ _ _ _ h=>h) (Zp hG hI hq hv).1 (Zmr hG hI _ hq hv) h1 rfl
    split at hy
    ·rename_i i
     split at hy
     ·obtain rfl:=Option.some.inj hy
      simp only [WU] at h
      split at h
      case h_2=>cases h
      rename_i v hv
      obtain ⟨p1,h1,h2⟩:=Option.map_eq_some_iff.1 h
      obtain ⟨rfl,rfl⟩:=Prod.mk.inj h2
      obtain ⟨Γ1,i1,r1,w1,f1,o1,k1⟩:=hI.hand (.arg k) i hv
      exact step v (s.let_ i) Γ1 p1.1 i1 rfl rfl rfl f1 o1 (fun b n j _ hb=>k1 b n j hb) r1 w1 h1 rfl
     ·exact plain _ (.inr ⟨i,rfl,rfl⟩) (Option.some.inj hy).symm
    ·obtain ⟨q,hq,rfl⟩:=Option.map_eq_some_iff.1 hy
     exact plain q (.inl hq) rfl
theorem Ap {s:Ze}{e:Eff}{g:Nat}(hg:g < s.bs)(h:IW (s.after e) g):IW s.ef g∧IW e g:=by
 cases e with
 | none=>exact ⟨h,fun _ _ e=>by cases e⟩
 | some p =>
  obtain ⟨x,y⟩:=p
  simp only [Ze.after] at h
  split at h
  ·obtain ⟨h1,h2⟩:=Zhi h
   exact ⟨h1,fun _ _ e=>by cases e; exact h2⟩
  ·exact ⟨h,fun _ _ e=>by cases e; omega⟩
theorem Inv.called (hI:Inv E s Γ a w){Γ':Zx}{w':World}{hp:List Z8}{e:Eff}{v:AV}{cv:Value}(hr:RW E.W0 Γ' w' hp)(hv:Rep Γ' w' v cv)(ho:OwnAt Γ' w' .res v cv)
  (hf:Frame (fun b=>Xg s.hp.length (Γ b)) w Γ' w' e) (hle:s.hp.length≤hp.length∧∀ b g,Γ' b=.own g→g < s.hp.length→Xg s.hp.length (Γ b)=.own g) :
  ∃ Γ'',Inv E { sl := s.sl,hp := hp,ef := s.after e,bs := s.bs } Γ'' a w'∧Rep Γ'' w' v cv∧OwnAt Γ'' w' .res v cv:=by
 have lt:∀ b,Γ b≠.imm→b < w.heap.size:=fun b hb=>by
  rcases Nat.lt_or_ge b w.heap.size with h' | h'
  ·exact h'
  ·exact absurd (hI.rw.fresh b h') hb
 have slot:∀ b m t,Γ b=.list m (.slot t)→Γ' b=.list m .outer∧w'.heap[b]? = w.heap[b]?:=fun b m t hb=>by
  obtain ⟨e1,e2⟩:=hf.keep b (lt b (by rw [hb]; simp)) (by simp only [hb,Xg,Kept])
  exact ⟨by rw [e1]; simp [hb,Xg],e2⟩
 have back:∀ b,(∃ m t,Γ b=.list m (.slot t)∧Γ' b=.list m .outer∧Fa (Γ b) (Γ' b)=.list m (.slot t))∨((∀ m t,Γ b≠.list m (.slot t))∧∀ k,(∀ m t,k≠.list m (.slot t))→(∀ m t,k≠.list m (.arg t))→Γ' b=k→Fa (Γ b) (Γ' b)=k):=by
  intro b
  cases hb:Γ b with
  | imm=>refine .inr ⟨by simp,fun k h1 h2 h3=>?_⟩; subst h3; cases hg:Γ' b with
   | list m l=>rw [hg] at h1 h2; cases l <;> first | rfl | exact absurd rfl (h1 _ _) | exact absurd rfl (h2 _ _)
   | _=>rfl
  | own g=>refine .inr ⟨by simp,fun k h1 h2 h3=>?_⟩; subst h3; cases hg:Γ' b with
   | list m l=>rw [hg] at h1 h2; cases l <;> first | rfl | exact absurd rfl (h1 _ _) | exact absurd rfl (h2 _ _)
   | _=>rfl
  | list n q =>
   cases q with
   | slot t=>exact .inl ⟨n,t,rfl,(slot b n t hb).1,rfl⟩
   | _ =>
    refine .inr ⟨by simp,fun k h1 h2 h3=>?_⟩; subst h3; cases hg:Γ' b with
    | list m l=>rw [hg] at h1 h2; cases l <;> first | rfl | exact absurd rfl (h1 _ _) | exact absurd rfl (h2 _ _)
    | _=>rfl
 have imm':∀ b,(∀ m t,Γ b≠.list m (.slot t))→(∃ m t,Γ' b=.list m (.slot t))∨(∃ m t,Γ' b=.list m (.arg t))→Fa (Γ b) (Γ' b)=.imm:=by
  intro b h h2
  cases hb:Γ b with
  | imm=>rcases h2 with ⟨m,t,e⟩ | ⟨m,t,e⟩ <;> rw [e] <;> rfl
  | own g=>rcases h2 with ⟨m,t,e⟩ | ⟨m,t,e⟩ <;> rw [e] <;> rfl
  | list n q=>cases q with
   | slot t=>exact absurd hb (h n t)
   | _=>rcases h2 with ⟨m,t,e⟩ | ⟨m,t,e⟩ <;> rw [e] <;> rfl
 have f3:Yd Γ' w' (fun b=>Fa (Γ b) (Γ' b)) w':=by
  intro b o v h1 h2
  refine ⟨?_,h2⟩
  unfold U3 at h1 ⊢
  rcases back b with ⟨m,t,e1,e2,e3⟩ | ⟨h,h'⟩
  ·show Qk o (Fa (Γ b) (Γ' b))
   rw [e3]
   rw [e2] at h1
   exact h1
  ·show Qk o (Fa (Γ b) (Γ' b))
   by_cases hs:(∃ m t,Γ' b=.list m (.slot t))∨(∃ m t,Γ' b=.list m (.arg t))
   ·rw [imm' b h hs]; trivial
   ·rw [h' (Γ' b) (fun m t e=>hs (.inl ⟨m,t,e⟩)) (fun m t e=>hs (.inr ⟨m,t,e⟩)) rfl]; exact h1
 have own':∀ b g,Γ' b=.own g↔Fa (Γ b) (Γ' b)=.own g:=by
  intro b g
  rcases back b with ⟨m,t,e1,e2,e3⟩ | ⟨h,h'⟩
  ·rw [e3,e2]; simp
  ·by_cases hs:(∃ m t,Γ' b=.list m (.slot t))∨(∃ m t,Γ' b=.list m (.arg t))
   ·rw [imm' b h hs]
    rcases hs with ⟨m,t,e⟩ | ⟨m,t,e⟩ <;> rw [e] <;> simp
   ·rw [h' (Γ' b) (fun m t e=>hs (.inl ⟨m,t,e⟩)) (fun m t e=>hs (.inr ⟨m,t,e⟩)) rfl]
 have keepL:∀ b k,(∀ m,k≠.list m .outer)→(∀ m t,k≠.list m (.slot t))→(∀ m t,k≠.list m (.arg t))→Γ' b=k→Fa (Γ b) (Γ' b)=k:=by
  intro b k h0 h1 h2 hb
  rcases back b with ⟨m,t,e1,e2,e3⟩ | ⟨h,h'⟩
  ·rw [e2] at hb; exact absurd hb.symm (h0 m)
  ·exact h' k h1 h2 hb
 have o3:Yz Γ' (fun b=>Fa (Γ b) (Γ' b)):=fun b g hb=>(own' b g).1 hb
 have f1:Yd Γ w (fun b=>Xg s.hp.length (Γ b)) w:=fun _ _ _ h1 h2=>⟨Zb8 h1,h2⟩
 have o1:Yz Γ (fun b=>Xg s.hp.length (Γ b)):=fun b g hb=>Nh.1 hb
 have fAll:=(f1.trans hf.fix).trans f3
 have oAll:=(o1.trans hf.own).trans o3
 refine ⟨fun b=>Fa (Γ b) (Γ' b),⟨hI.defers,⟨hI.slots.size,fun t x hx=>(hI.slots.rep t x hx).mono fAll oAll,fun t x hx=>(hI.slots.own t x hx).mono fAll oAll fun b n hb=>?_⟩,?_,?_,hI.base,hI.base2,Nat.le_trans hI.le hle.1,fun b g hb hl=>hI.back b g (Nh.2 (hle.2 b g ((own' b g).2 hb) (Nat.lt_of_lt_of_le hl hI.le))) hl⟩,hv.mono f3 o3,ho.mono f3 o3 fun b n hb=>⟨keepL b _ (by simp) (by simp) (by simp) hb,rfl⟩⟩
 ·refine ⟨?_,(slot b n t hb).2⟩
  show Fa (Γ b) (Γ' b)=_
  rw [hb]; rfl
 ·exact hr.alike f3 own' (fun b n g i _ hb=>keepL b _ (by simp) (by simp) (by simp) hb) (fun b hb=>keepL b _ (by simp) (by simp) (by simp) hb)
 ·refine ⟨hf.os.trans hI.fr.os,hf.tape.trans hI.fr.tape,hf.output.trans hI.fr.output,Nat.le_trans hI.fr.size hf.size,hI.fr.fix.trans fAll,hI.fr.own.trans oAll,fun b hb hk=>?_⟩
  have hb':=Nat.lt_of_lt_of_le hb hI.fr.size
  cases hg:E.Γ0 b with
  | imm =>
   obtain ⟨e1,e2⟩:=hI.fr.keep b hb (by rw [hg]; trivial)
   rw [hg] at e1
   obtain ⟨e3,e4⟩:=hf.keep b hb' (by simp only [e1,Xg,Kept])
   simp only [e1,Xg] at e3
   exact ⟨keepL b _ (by simp) (by simp) (by simp) e3,e4.trans e2⟩
  | own g =>
   rw [hg] at hk
   obtain ⟨s1,s2⟩:=Ap (hI.base b g hg) hk
   obtain ⟨e1,e2⟩:=hI.fr.keep b hb (by rw [hg]; exact s1)
   rw [hg] at e1
   obtain ⟨e3,e4⟩:=hf.keep b hb' (by simp only [e1,Xg,Kept]; exact s2)
   simp only [e1,Xg] at e3
   exact ⟨keepL b _ (by simp) (by simp) (by simp) e3,e4.trans e2⟩
  | list n m =>
   rw [hg] at hk
   cases m with
   | outer =>
    obtain ⟨e1,e2⟩:=hI.fr.keep b hb (by rw [hg]; trivial)
    rw [hg] at e1
    obtain ⟨e3,e4⟩:=hf.keep b hb' (by simp only [e1,Xg,Kept])
    simp only [e1,Xg] at e3
    refine ⟨?_,e4.trans e2⟩
    show Fa (Γ b) (Γ' b)=_
    rw [e1,e3]; rfl
   | cell g i =>
    have hgb:=hI.base2 b n g i hg
    obtain ⟨s1,s2⟩:=Ap hgb hk
    obtain ⟨e1,e2⟩:=hI.fr.keep b hb (by rw [hg]; exact s1)
    rw [hg] at e1
    have hlt:g < s.hp.length:=Nat.lt_of_lt_of_le hgb hI.le
    obtain ⟨e3,e4⟩:=hf.keep b hb' (by simp only [e1,Xg,if_pos hlt,Kept]; exact s2)
    simp only [e1,Xg,if_pos hlt] at e3
    exact ⟨keepL b _ (by simp) (by simp) (by simp) e3,e4.trans e2⟩
   | slot t=>exact hk.elim
   | res=>exact hk.elim
   | arg j=>exact hk.elim
end
end Go.Proofs.YtleomfgijkapfaaGreatDoor.Abs
end
section
namespace Go.Proofs.YtleomfgijkapfaaGreatDoor.Abs
open Go Go.RowKit
section
variable {P:Program}{G:Nat→Option (List AV)}{call:FuncId→List AV→List Z8→Option (AV×List Z8×Eff)}{E:Entry}{s s':Ze}{Γ:Zx}{a:Act}{w:World}{o:Oper}{hand:Nat→Bool}{draw:Bool}{ao:AOp}{v:AV}
theorem Zh4 {c:Call}{b:Callee}{xs:List Operand}{ts:List TypeId}(h0:c.callee=b)(h1:c.args.toList=xs)(h2:c.argTypes.toList=ts):c={ callee := b,args := xs.toArray,argTypes := ts.toArray }:=by
 cases c with
 | mk q xs' ts'=>subst h0 h1 h2; simp
theorem Zlf (hG:GOk G E.W0)(hI:Inv E s Γ a w){c:Call}(hop:o.op=.call c)(hnv:∀ f,c.callee≠.value f)(hc:cOp P hand draw o=some ao)(h:Zj G call s ao=some (v,s')):Gl P E Γ s s' v a w o ao:=by
 simp only [cOp,hop] at hc
 split at hc
 ·rename_i f hf; exact absurd hf (hnv f)
 ·rename_i hf
  split at hc <;> first | (cases hc; done) | skip
  rename_i x t hx ht
  rw [Zh4 hf hx ht] at hop
  split at hc <;> first | (cases hc; done) | skip
  all_goals
   rename_i hu
   obtain ⟨x',hx',rfl⟩:=Option.map_eq_some_iff.1 hc
   simp only [Zj] at h
   split at h <;> first | (cases h; done) | skip
   rename_i u hu'
   replace h:=YB h
   obtain ⟨h,hss⟩:=h
   subst hss
  ·exact (Zny (sh := .str) hG hI hop hu hx' hu' h).fit hI
  ·exact (Zny (sh := .slice) hG hI hop ⟨_,hu⟩ hx' hu' h).fit hI
  ·exact (Zny (sh := .map) hG hI hop ⟨_,_,hu⟩ hx' hu' h).fit hI
 ·rename_i hf
  split at hc <;> first | (cases hc; done) | skip
  rename_i q x t u hx ht
  rw [Zh4 hf hx ht] at hop
  split at hc <;> first | (cases hc; done) | skip
  rename_i e hu
  split at hc <;> first | (cases hc; done) | skip
  rename_i i z hi hz
  split at hc
  case isFalse =>
   split at hc <;> first | (cases hc; done) | skip
   rename_i hk
   obtain ⟨hk1,hk2,hk3,hk4⟩:=hk
   split at hc <;> first | (cases hc; done) | skip
   rename_i sl x' hx'
   obtain rfl:=Option.some.inj hc
   simp only [Zj] at h
   split at h <;> first | (cases h; done) | skip
   rename_i k' r l hsl hy
   split at h <;> first | (cases h; done) | skip
   rename_i hh
   obtain ⟨rfl,hb⟩:=hh
   cases h
   exact (Zsd hG hI hop hu (Zps hk4) hi hz (by rw [hk2,hk1]) hk1 hk3 hx' hsl hy hb).fit
  rename_i hk
  obtain ⟨rfl,hk1,hk2,hk3⟩:=hk
  split at hc <;> first | (cases hc; done) | skip
  ·rename_i sl x' hx'
   obtain rfl:=Option.some.inj hc
   simp only [Zj] at h
   split at h <;> first | (cases h; done) | skip
   rename_i k' r y hsl hy
   split at h <;> first | (cases h; done) | skip
   rename_i k'' r' hr
   split at h <;> first | (cases h; done) | skip
   rename_i hh
   obtain ⟨rfl,rfl,hid,hb⟩:=hh
   cases h
   exact (ZtS hG hI hop hu hi hz hk2 hk1 hk3 hx' hsl hy hr hid hb).fit
  ·rename_i x' hx'
   obtain rfl:=Option.some.inj hc
   simp only [Zj] at h
   split at h <;> first | (cases h; done) | skip
   rename_i y hy
   split at h <;> first | (cases h; done) | skip
   rename_i k'' r' hr
   split at h <;> first | (cases h; done) | skip
   rename_i hh
   obtain ⟨rfl,hid,hb⟩:=hh
   cases h
   exact (Zsc hG hI hop hu hi hz hk2 hk1 hk3 hx' hy hr hid hb).fit
 ·rename_i hf
  split at hc <;> first | (cases hc; done) | skip
  rename_i q x t u hx ht
  rw [Zh4 hf hx ht] at hop
  split at hc <;> first | (cases hc; done) | skip
  rename_i e hu
  split at hc <;> first | (cases hc; done) | skip
  rename_i i hi
  split at hc <;> first | (cases hc; done) | skip
  rename_i hk
  obtain ⟨rfl,hk1⟩:=hk
  split at hc <;> first | (cases hc; done) | skip
  rename_i d' x' hd' hx'
  obtain rfl:=Option.some.inj hc
  simp only [Zj] at h
  split at h <;> first | (cases h; done) | skip
  ·rename_i g off len k'' y hd hy
   split at h <;> first | (cases h; done) | skip
   rename_i k' r cs t' hr hg
   split at h <;> first | (cases h; done) | skip
   rename_i hh
   obtain ⟨rfl,rfl,hfit,hone⟩:=hh
   cases h
   exact (Zse hG hI hop hu hi hk1 hd' hx' hd hy hr hg hfit hone).fit
  ·rename_i k'' y hd hy
   split at h <;> first | (cases h; done) | skip
   rename_i k' r hr
   split at h <;> first | (cases h; done) | skip
   rename_i hh
   subst hh
   cases h
   exact (ZpA hG hI hop hu hi hd' hx' hd hy hr).fit
 ·rename_i hf
  split at hc <;> first | (cases hc; done) | skip
  rename_i t l ht
  split at hc <;> first | (cases hc; done) | skip
  obtain ⟨ps,hps,rfl⟩:=Option.map_eq_some_iff.1 hc
  simp only [Zj] at h
  split at h <;> first | (cases h; done) | skip
  rename_i n vs hv
  obtain ⟨r,hr,e⟩:=Option.map_eq_some_iff.1 h
  cases e
  exact (Zgl (isMax := false) hG hI (by rw [hop]; cases c; simp only at hf; subst hf; rfl) hps hv hr).fit
 ·rename_i hf
  split at hc <;> first | (cases hc; done) | skip
  rename_i t l ht
  split at hc <;> first | (cases hc; done) | skip
  obtain ⟨ps,hps,rfl⟩:=Option.map_eq_some_iff.1 hc
  simp only [Zj] at h
  split at h <;> first | (cases h; done) | skip
  rename_i n vs hv
  obtain ⟨r,hr,e⟩:=Option.map_eq_some_iff.1 h
  cases e
  exact (Zgl (isMax := true) hG hI (by rw [hop]; cases c; simp only at hf; subst hf; rfl) hps hv hr).fit
 ·cases hc
theorem ZqM (hG:GOk G E.W0)(hI:Inv E s Γ a w)(hnv:∀ c f,o.op=.call c→c.callee≠.value f)(hc:cOp P hand draw o=some ao)(h:Zj G call s ao=some (v,s')):Gl P E Γ s s' v a w o ao:=by
 cases hop:o.op with
 | move x=>exact Zsn hG hI hop hc h
 | assign x=>exact Zn3 hG hI hop hc h
 | pick c x y=>exact Zso hG hI hop hc h
 | alloc e=>exact ZqO hG hI (.inl ⟨_,hop⟩) hc h
 | box e x=>exact ZqO hG hI (.inr ⟨_,_,hop⟩) hc h
 | build t ps=>exact ZpE hG hI hop hc h
 | buildSlice t n ps=>exact Zud hG hI hop hc h
 | load t p=>exact Zsm hG hI hop hc h
 | store t p x=>exact ZpG hG hI hop hc h
 | nilCheck x=>exact ZaX hG hI (.inl ⟨_,hop⟩) hc h
 | binOp op t x y t'=>exact ZaX hG hI (.inr (.inl ⟨_,_,_,_,_,hop⟩)) hc h
 | unOp op t x=>exact ZaX hG hI (.inr (.inr ⟨_,_,_,hop⟩)) hc h
 | convert src dst x=>exact Zlg hG hI hop hc h
 | makeFunc fn x y=>exact Zib hG hI (.inl ⟨_,_,_,hop⟩) hc h
 | makeMap t r=>exact Zib hG hI (.inr (.inl ⟨_,_,hop⟩)) hc h
 | makeSlice t l c=>exact Zib hG hI (.inr (.inr ⟨_,_,_,hop⟩)) hc h
 | slice t x lo hi mx=>exact ZpF hG hI hop hc h
 | fieldAddr t x f=>exact Zex hG hI (.inl ⟨_,_,_,hop⟩) hc h
 | field t x f=>exact Zex hG hI (.inr (.inl ⟨_,_,_,hop⟩)) hc h
 | indexAddr t x i=>exact Zex hG hI (.inr (.inr (.inl ⟨_,_,_,hop⟩))) hc h
 | index t x i=>exact Zex hG hI (.inr (.inr (.inr ⟨_,_,_,hop⟩))) hc h
 | lookup t x i ok=>exact ZqN hG hI (.inl ⟨_,_,_,_,hop⟩) hc h
 | mapUpdate t m k x=>exact ZqN hG hI (.inr ⟨_,_,_,_,hop⟩) hc h
 | range t x=>exact Zia hG hI (.inl ⟨_,_,hop⟩) hc h
 | next x b=>exact Zia hG hI (.inr (.inl ⟨_,_,hop⟩)) hc h
 | extract x i=>exact Zia hG hI (.inr (.inr ⟨_,_,hop⟩)) hc h
 | call c=>exact Zlf hG hI hop (fun f=>hnv c f hop) hc h
 | _=>simp [cOp,hop] at hc
end
end Go.Proofs.YtleomfgijkapfaaGreatDoor.Abs
end
section
namespace Go.Proofs.YtleomfgijkapfaaGreatDoor.Abs
open Go Go.RowKit
section
variable {P:Program}{G:Nat→Option (List AV)}{call:FuncId→List AV→List Z8→Option (AV×List Z8×Eff)}{E:Entry}{s s':Ze}{Γ:Zx}{a:Act}{w:World}{o:Oper}{hand:Nat→Bool}{draw:Bool}{ao:AOp}{v:AV}
theorem GU {x:AV}{k:Nat}{r:List (List AV)}:x.nm≠.own k r:=by cases x <;> simp [AV.nm]
theorem three {first vs caps:List AV}{fv cv:Array Value}{xs:Array Value}(h1:fv.size=first.length)(h2:xs.size=vs.length)(h3:cv.size=caps.length){R:Nat→AV→Value→Prop}
  (k1:∀ j x,first[j]? = some x→R j x.nm (fv.getD j Go.undef)) (k2:∀ j x,vs[j]? = some x→R (first.length + j) x (xs.getD j Go.undef)) (k3:∀ j x i,caps[j]? = some x→R i x.nm (cv.getD j Go.undef)) :
  ((fv ++ xs) ++ cv).size=(first.map AV.nm ++ vs ++ caps.map AV.nm).length∧∀ j x,(first.map AV.nm ++ vs ++ caps.map AV.nm)[j]? = some x→R j x (((fv ++ xs) ++ cv).getD j Go.undef):=by
 refine ⟨by simp [h1,h2,h3],fun j x hx=>?_⟩
 have hget:∀ i,((fv ++ xs) ++ cv).getD i Go.undef=if i < first.length then fv.getD i Go.undef else if i < first.length + vs.length then xs.getD (i - first.length) Go.undef else cv.getD (i - (first.length + vs.length)) Go.undef:=by
  intro i
  simp only [Array.getD_eq_getD_getElem?,Array.getElem?_append,Array.size_append,h1,h2]
  split
  ·split
   ·rfl
   ·rfl
  ·rename_i hge
   rw [if_neg (by omega)]
 rw [hget]
 by_cases c1:j < first.length
 ·rw [if_pos c1]
  rw [List.append_assoc,List.getElem?_append_left (by simpa using c1),List.getElem?_map] at hx
  obtain ⟨y,hy,rfl⟩:=Option.map_eq_some_iff.1 hx
  exact k1 j y hy
 ·rw [if_neg c1]
  by_cases c2:j < first.length + vs.length
  ·rw [if_pos c2]
   rw [List.append_assoc,List.getElem?_append_right (by simpa using c1),List.getElem?_append_left (by simp; omega)] at hx
   simp only [List.length_map] at hx
   have:=k2 _ x hx
   rwa [show first.length + (j - first.length)=j by omega] at this
  ·rw [if_neg c2]
   rw [List.getElem?_append_right (by simp; omega),List.getElem?_map] at hx
   simp only [List.length_append,List.length_map] at hx
   obtain ⟨y,hy,rfl⟩:=Option.map_eq_some_iff.1 hx
   exact k3 _ y j hy
theorem Zj4 {c:Call}{f:Operand}(hop:o.op=.call c)(hcal:c.callee=.value f){g:FuncId}{fv cv:Array Value}(hf:a.eval f=.func (.func g) fv cv)(w:World) :
  (execOp a.eval o).run P w=(callFunc g ((fv ++ c.args.map a.eval) ++ cv)).run P w:=by
 simp only [execOp,hop]
 simp only [resolve,hcal,Deferred.ofValue,hf,Sem.run_bind,Sem.run_pure,Result.andThen_ok,invoke]
theorem Zsl (hG:GOk G E.W0)(hS:ZM P E.W0 call)(hI:Inv E s Γ a w){c:Call}{f:Operand}(hop:o.op=.call c)(hcal:c.callee=.value f)(hc:cOp P hand draw o=some ao)(h:Zj G call s ao=some (v,s'))
  {K:Act→World→Prop} {Q:Exit→Act→World→Prop} (hK:∀ Γ' cv w',Inv E s' Γ' a w'→Rep Γ' w' v cv→OwnAt Γ' w' .res v cv→K (a.put o.dst cv) w'):o.wp P a w K Q:=by
 simp only [cOp,hop,hcal] at hc
 split at hc <;> first | (cases hc; done) | skip
 rename_i f' args hf hargs
 obtain rfl:=Option.some.inj hc
 simp only [Zj] at h
 split at h <;> first | (cases h; done) | skip
 rename_i g first caps vs sl hfv hvs
 split at h <;> first | (cases h; done) | skip
 rename_i u hp e hcall
 cases h
 obtain ⟨Γ1,i1,f1,o1,_,hlen,hall⟩:=Zri hG first.length hI hargs hvs
 have hfn:=((Zp hG hI hf hfv).1).mono f1 o1
 generalize hq:a.eval f=q at hfn
 cases hfn with
 | fn _ _ _ fv cv hs1 hr1 hs hr =>
  have f2:Yd Γ1 w (fun b=>Xg s.hp.length (Γ1 b)) w:=fun _ _ _ h1 h2=>⟨Zb8 h1,h2⟩
  have o2:Yz Γ1 (fun b=>Xg s.hp.length (Γ1 b)):=fun b g hb=>Nh.1 hb
  obtain ⟨t1,t2⟩:=three (first := first) (vs := vs) (caps := caps) (fv := fv) (cv := cv) (xs := c.args.map a.eval) hs1 (by simp [hlen]) hs
   (R := fun j x y=>Rep (fun b=>Xg s.hp.length (Γ1 b)) w x y∧OwnAt (fun b=>Xg s.hp.length (Γ1 b)) w (.slot j) x y)
   (fun j x hx=>⟨((hr1 j x hx).mono f2 o2).nm,.of_ne fun _ _=>GU⟩)
   (fun j x hx=>by
    obtain ⟨y,hy,hr,ho⟩:=hall j x hx
    have:(c.args.map a.eval).getD j Go.undef=a.eval y:=by
     rw [Array.getElem?_toList] at hy
     rw [Array.getD_eq_getD_getElem?,Array.getElem?_map,hy]; rfl
    rw [this]
    exact ⟨hr.mono f2 o2,ho.mono f2 o2 fun b n hb=>⟨by simp [hb,Xg],rfl⟩⟩)
   (fun j x i hx=>⟨((hr j x hx).mono f2 o2).nm,.of_ne fun _ _=>GU⟩)
  have hw:=hS g _ _ _ _ _ hcall _ w _ i1.rw.seen (Zol Γ1 _) t1 t2
  unfold Oper.wp
  rw [Zj4 hop hcal hq]
  have fin:∀ cv w',(∃ Γ',RW E.W0 Γ' w' hp∧Rep Γ' w' v cv∧OwnAt Γ' w' .res v cv∧Frame (fun b=>Xg s.hp.length (Γ1 b)) w Γ' w' e∧s.hp.length≤hp.length∧∀ b g,Γ' b=.own g→g < s.hp.length→Xg s.hp.length (Γ1 b)=.own g)→K (a.put o.dst cv) w':=by
   rintro cv w' ⟨Γ',r1,r2,r3,r4,r5⟩
   obtain ⟨Γ'',j1,j2,j3⟩:=i1.called r1 r2 r3 r4 r5
   exact hK Γ'' cv w' j1 j2 j3
  obtain ⟨hrun,hw⟩:=hw
  rw [hrun,Oper.upon_enter]
  refine hw.mono fun en w'' ⟨cv',hv,hR⟩=>?_
  subst hv
  exact fin cv' w'' hR
theorem Zn5 (hG:GOk G E.W0)(hS:ZM P E.W0 call)(hI:Inv E s Γ a w)(hc:cOp P hand draw o=some ao)(h:Zj G call s ao=some (v,s'))
  {K:Act→World→Prop} {Q:Exit→Act→World→Prop} (hK:∀ Γ' cv w',Inv E s' Γ' a w'→Rep Γ' w' v cv→OwnAt Γ' w' .res v cv→K (a.put o.dst cv) w'):o.wp P a w K Q:=by
 by_cases hv:∃ c f,o.op=.call c∧c.callee=.value f
 ·obtain ⟨c,f,h1,h2⟩:=hv
  exact Zsl hG hS hI h1 h2 hc h hK
 ·exact (ZqM hG hI (fun c f h1 h2=>hv ⟨c,f,h1,h2⟩) hc h).1.wp hK
structure Behind (W w:World):Prop where
 os:w.os=W.os
 tape:w.tape=W.tape
 output:w.output=W.output
 size:W.heap.size≤w.heap.size
 upon:Upon W w
theorem Behind.inv (hI:Inv E s Γ a w){w':World}(h:Behind w w'):Inv E s Γ a w' :=
 hI.plain (X := fun _=>False) ⟨h.os,h.tape,h.output,h.size,fun b hb _=>⟨rfl,h.upon b hb⟩,fun _ _ _ h1 h2=>⟨h1,h.upon.cell h2⟩,.refl _⟩ (fun _ hx=>hx.elim) (fun _ _ h=>h) (fun b hb=>hI.rw.fresh b (Nat.le_trans h.size hb))
def Xx (n:Nat):Kind→Kind
 | .list m (.cell g i)=>if g < n then .list m (.cell g i) else .imm
 | .list m _=>.list m .outer
 | k=>k
theorem Zdz {n o:Nat}{k:Kind}(h:Qk o k):Qk o (Xx n k):=by
 cases k with
 | imm=>trivial
 | own g=>exact h.elim
 | list m l =>
  cases l <;> simp only [Xx] <;> first | exact h | skip
  split
  ·exact h
  ·trivial
theorem Zd0 {n g:Nat}{k:Kind}:k=.own g↔Xx n k=.own g:=by
 cases k with
 | imm=>simp [Xx]
 | own g=>simp [Xx]
 | list m l =>
  cases l <;> simp only [Xx] <;> try simp
  split <;> simp
theorem Zl3 (Γ:Zx)(n:Nat):Tidy (fun b=>Xx n (Γ b)) n:=by
 refine ⟨fun b m h=>?_,fun b m j h=>?_,fun b m g i h=>?_⟩ <;> revert h <;> cases Γ b with
 | imm=>simp [Xx]
 | own g=>simp [Xx]
 | list m l =>
  cases l <;> simp only [Xx] <;> try simp
  try (split <;> simp <;> try omega)
theorem Zl2 (n:Nat)(k:Kind):Kept none (Xx n k):=by
 cases k with
 | imm=>trivial
 | own g=>exact fun _ _ e=>by cases e
 | list m l =>
  cases l <;> simp only [Xx] <;> try trivial
  split
  ·exact fun _ _ e=>by cases e
  ·trivial
theorem RW.quiet {W0 w:World}{Γ:Zx}{hp:List Z8}(h:RW W0 Γ w hp):RW W0 (fun b=>Xx hp.length (Γ b)) w hp :=
 h.alike (fun _ _ _ h1 h2=>⟨Zdz h1,h2⟩) (fun _ _=>Zd0) (fun b n g i hl hb=>by simp [hb,Xx,hl]) (fun b hb=>by simp [hb,Xx])
theorem ZcX (hG:GOk G E.W0)(hI:Inv E s Γ a w):∀ {args:List (Nat ⊕ Yf)} {ts:List TypeId} {xs:List Operand} {hand:Nat→Bool} {vs sl:List AV},Px P hand ts xs=some args→noHand (.call (.glob 0) args)=true →
  WU G s.sl args=some (vs,sl)→sl=s.sl∧vs.length=xs.length∧∀ (j:Nat) (v:AV),vs[j]? = some v→∃ x,xs[j]? = some x∧Rep Γ w v (a.eval x)∧∀ k r,v=.own k r→r=[]∧a.eval x=.slice none 0 0:=by
 intro args
 induction args with
 | nil =>
  intro ts xs hand vs sl hc _ h
  simp only [WU,Option.some.injEq,Prod.mk.injEq] at h
  obtain ⟨rfl,rfl⟩:=h
  have:xs=[]:=by
   cases xs with
   | nil=>rfl
   | cons x xs =>
    cases ts with
    | nil=>simp [Px] at hc
    | cons t ts =>
     simp only [Px] at hc
     split at hc <;> simp at hc
  subst this
  exact ⟨rfl,rfl,fun j v hv=>by simp at hv⟩
 | cons p args ih =>
  intro ts xs hand vs sl hc hq h
  cases xs with
  | nil=>cases ts <;> simp [Px] at hc
  | cons x xs =>
   cases ts with
   | nil=>simp [Px] at hc
   | cons t ts =>
    simp only [Px] at hc
    split at hc
    case h_2=>cases hc
    rename_i y l hy hl
    obtain ⟨rfl,rfl⟩:=List.cons.inj (Option.some.inj hc)
    simp only [noHand,List.all_cons,Bool.and_eq_true] at hq
    cases y with
    | inl i=>exact absurd hq.1 (by simp)
    | inr q =>
     have hqx:ZI P t x=some q:=by
      split at hy
      ·rename_i i
       split at hy
       ·cases hy
       ·cases hy; rfl
      ·obtain ⟨q',h1,h2⟩:=Option.map_eq_some_iff.1 hy
       cases h2; exact h1
     simp only [WU] at h
     split at h
     case h_2=>cases h
     rename_i v hv
     obtain ⟨p1,h1,h2⟩:=Option.map_eq_some_iff.1 h
     obtain ⟨rfl,rfl⟩:=Prod.mk.inj h2
     obtain ⟨e1,e2,e3⟩:=ih hl hq.2 h1
     obtain ⟨r1,r2⟩:=Zp hG hI hqx hv
     refine ⟨e1,by simp [e2],fun j u hu=>?_⟩
     cases j with
     | zero =>
      obtain rfl:=Option.some.inj hu
      exact ⟨x,rfl,r1,r2⟩
     | succ j =>
      obtain ⟨x',hx',hr⟩:=e3 j u (by simpa using hu)
      exact ⟨x',by simpa using hx',hr⟩
theorem GK {Γ Γ':Zx}{w w':World}{v:AV}{cv:Value}(h:Rep Γ w v cv)(hf:v.flat1=true):Rep Γ' w' v cv:=by
 rw [h.conc1 hf]; exact Vf hf Γ' w'
theorem ZjJ {Γ Γ':Zx}{w w':World}{v:AV}{cv:Value}(h:Rep Γ w v cv)(hf:v.flat=true):Rep Γ' w' v cv:=by
 cases h with
 | agg cells cv hs h1 hn hr =>
  simp only [AV.flat,List.all_eq_true] at hf
  exact .agg cells cv hs h1 hn fun j c hc=>GK (hr j c hc) (hf c (List.mem_of_getElem? hc))
 | tup vs cv hs hr =>
  simp only [AV.flat,List.all_eq_true] at hf
  exact .tup vs cv hs fun j c hc=>GK (hr j c hc) (hf c (List.mem_of_getElem? hc))
 | fn f fst caps fv cv hs1 hr1 hs hr=>exact GK (Rep.fn f fst caps fv cv hs1 hr1 hs hr) hf
 | undef=>exact .undef
 | bool=>exact .bool _
 | int=>exact .int _ _
 | str=>exact .str _
 | nilp=>exact .nilp
 | nilf=>exact .nilf
 | nilm=>exact .nilm
 | nili=>exact .nili
 | _=>cases hf
theorem Behind.refl (w:World):Behind w w:=⟨rfl,rfl,rfl,Nat.le_refl _,.refl w⟩
theorem Zpd {v:AV}(h:v.flat=true):∀ k r,v≠.own k r:=by cases v <;> first | (cases h; done) | simp
theorem ZjY (hG:GOk G E.W0)(hS:ZM P E.W0 call)(hI:Inv E s Γ a w)(hc:cOp P hand draw o=some ao)(hq:Zbl ao=true)(hn:noHand ao=true)(h:Zj G (Qh call) s ao=some (v,s'))
  {K:Act→Prop} (hK:∀ cv,s'=s→Rep Γ w v cv→(∀ l,OwnAt Γ w l v cv)→K (a.put o.dst cv)):o.quiet P a (Behind w) K:=by
 by_cases hv:∃ c f,o.op=.call c∧c.callee=.value f
 ·obtain ⟨c,f,hop,hcal⟩:=hv
  simp only [cOp,hop,hcal] at hc
  split at hc <;> first | (cases hc; done) | skip
  rename_i f' args hf hargs
  obtain rfl:=Option.some.inj hc
  simp only [Zj] at h
  split at h <;> first | (cases h; done) | skip
  rename_i g first caps vs sl hfv hvs
  split at h <;> first | (cases h; done) | skip
  rename_i u hp e hcall
  cases h
  unfold Qh at hcall
  split at hcall <;> first | (cases hcall; done) | skip
  rename_i u' hp1 hcall1
  split at hcall <;> first | (cases hcall; done) | skip
  rename_i hflat
  cases hcall
  obtain ⟨q1,q2,q3⟩:=ZcX hG hI hargs hn hvs
  subst q1
  have main:∀ w',Behind w w'→o.quietAt P a (Behind w) w' v.conc∧∃ Γ' w'',Rep Γ' w'' v v.conc:=by
   intro w' hw'
   have hI':=hw'.inv hI
   obtain ⟨_,_,q3⟩:=ZcX hG hI' hargs hn hvs
   have hfn:=(Zp hG hI' hf hfv).1
   generalize hq:a.eval f=q at hfn
   cases hfn with
   | fn _ _ _ fv cv hs1 hr1 hs hr =>
    have f2:Yd Γ w' (fun b=>Xx s.hp.length (Γ b)) w':=fun _ _ _ h1 h2=>⟨Zdz h1,h2⟩
    have o2:Yz Γ (fun b=>Xx s.hp.length (Γ b)):=fun b g hb=>Zd0.1 hb
    obtain ⟨t1,t2⟩:=three (first := first) (vs := vs) (caps := caps) (fv := fv) (cv := cv) (xs := c.args.map a.eval) hs1 (by simp [q2]) hs
     (R := fun j x y=>Rep (fun b=>Xx s.hp.length (Γ b)) w' x y∧OwnAt (fun b=>Xx s.hp.length (Γ b)) w' (.slot j) x y)
     (fun j x hx=>⟨((hr1 j x hx).mono f2 o2).nm,.of_ne fun _ _=>GU⟩)
     (fun j x hx=>by
      obtain ⟨y,hy,hr,ho⟩:=q3 j x hx
      have:(c.args.map a.eval).getD j Go.undef=a.eval y:=by
       rw [Array.getElem?_toList] at hy
       rw [Array.getD_eq_getD_getElem?,Array.getElem?_map,hy]; rfl
      rw [this]
      exact ⟨hr.mono f2 o2,.nil ho⟩)
     (fun j x i hx=>⟨((hr j x hx).mono f2 o2).nm,.of_ne fun _ _=>GU⟩)
    have hw:=hS g _ _ _ _ _ hcall1 _ w' _ hI'.rw.quiet (Zl3 Γ _) t1 t2
    unfold Oper.quietAt
    rw [Zj4 hop hcal hq]
    have fin:∀ cv w'',(∃ Γ',RW E.W0 Γ' w'' hp1∧Rep Γ' w'' v cv∧OwnAt Γ' w'' .res v cv∧Frame (fun b=>Xx s.hp.length (Γ b)) w' Γ' w'' none∧s.hp.length≤hp1.length∧∀ b g,Γ' b=.own g→g < s.hp.length→Xx s.hp.length (Γ b)=.own g)→cv=v.conc∧Behind w w''∧Upon w' w'':=by
     rintro cv w'' ⟨Γ',r1,r2,r3,r4,r5⟩
     have hup:Upon w' w'':=fun b hb=>(r4.keep b hb (Zl2 _ _)).2
     exact ⟨Bh r2 hflat,⟨r4.os.trans hw'.os,r4.tape.trans hw'.tape,r4.output.trans hw'.output,Nat.le_trans hw'.size r4.size,fun b hb=>(hup b (Nat.lt_of_lt_of_le hb hw'.size)).trans (hw'.upon b hb)⟩,hup⟩
    obtain ⟨hrun,hw⟩:=hw
    obtain ⟨en,w1,_,⟨cv1,_,hR1⟩,_⟩:=hw []
    rw [hrun]
    refine ⟨⟨rfl,hw.mono fun en w'' ⟨cv',hv,hR⟩=>?_⟩,?_⟩
    ·subst hv
     obtain ⟨e1,e2,_⟩:=fin cv' w'' hR
     exact ⟨by rw [e1],e2⟩
    ·obtain ⟨e1,_,_⟩:=fin cv1 w1 hR1
     obtain ⟨Γ',_,r2,_⟩:=hR1
     rw [e1] at r2
     exact ⟨Γ',w1,r2⟩
  obtain ⟨Γ',w'',hrep⟩:=(main w (.refl w)).2
  exact ⟨v.conc,fun w' hw'=>(main w' hw').1,hK _ rfl (ZjJ hrep hflat) fun l=>.of_ne (Zpd hflat)⟩
 ·obtain ⟨h1,h2⟩:=ZqM hG hI (fun c f h1 h2=>hv ⟨c,f,h1,h2⟩) hc h
  obtain ⟨e,cv,hr,r1,r2⟩:=h2 hq
  exact ⟨cv,fun w' hw'=>by
   unfold Oper.quietAt
   rw [hr w' hw'.upon]
   exact ⟨rfl,rfl⟩,hK cv e r1 fun l=>.nil r2⟩
end
end Go.Proofs.YtleomfgijkapfaaGreatDoor.Abs
end
section
namespace Go.Proofs.YtleomfgijkapfaaGreatDoor.Abs
open Go Go.RowKit
structure NQ (W:List Nat)(f:List AV→List AV):Prop where
 len:∀ l,(f l).length=l.length
 out:∀ (l:List AV) (i:Nat),i ∉ W→(f l)[i]? = l[i]?
 on:∀ (l m:List AV) (i:Nat),i ∈ W→l.length=m.length→l[i]? = m[i]?→(f l)[i]? = (f m)[i]?
theorem NQ.id (W:List Nat):NQ W id:=⟨fun _=>rfl,fun _ _ _=>rfl,fun _ _ _ _ _ h=>h⟩
theorem NQ.set (d:Nat)(v:AV):NQ [d] (fun l=>l.set d v):=by
 refine ⟨fun l=>by simp,fun l i hi=>?_,fun l m i hi hl h=>?_⟩
 ·have:d≠i:=fun e=>hi (by simp [e])
  rw [List.getElem?_set_ne this]
 ·have:i=d:=by simpa using hi
  subst this
  simp only [List.getElem?_set_self']
  rw [h]
theorem NQ.mod (t:Nat):NQ [t] (fun l=>l.modify t AV.ro):=by
 refine ⟨fun l=>by simp,fun l i hi=>?_,fun l m i hi hl h=>?_⟩
 ·have:t≠i:=fun e=>hi (by simp [e])
  rw [List.getElem?_modify]; simp [this]
 ·rw [List.getElem?_modify,List.getElem?_modify,h]
theorem NQ.comp {V W:List Nat}{f g:List AV→List AV}(hf:NQ V f)(hg:NQ W g):NQ (W ++ V) (fun l=>g (f l)):=by
 refine ⟨fun l=>by rw [hg.len,hf.len],fun l i hi=>?_,fun l m i hi hl h=>?_⟩
 ·rw [List.mem_append,not_or] at hi
  rw [hg.out _ _ hi.1,hf.out _ _ hi.2]
 ·have hfi:(f l)[i]? = (f m)[i]?:=by
   by_cases h2:i ∈ V
   ·exact hf.on l m i h2 hl h
   ·rw [hf.out _ _ h2,hf.out _ _ h2,h]
  by_cases h1:i ∈ W
  ·exact hg.on _ _ i h1 (by rw [hf.len,hf.len,hl]) hfi
  ·rw [hg.out _ _ h1,hg.out _ _ h1,hfi]
theorem NQ.swap {V W:List Nat}{f g:List AV→List AV}(hf:NQ V f)(hg:NQ W g)(hd:apartB V W=true)(l:List AV):f (g l)=g (f l):=by
 have hd':∀ i,i ∈ V→i ∉ W:=fun i hi hw=>by
  have:=List.all_eq_true.1 hd i hi
  simp at this
  exact this hw
 refine List.ext_getElem? fun i=>?_
 by_cases h1:i ∈ V
 ·have h2:=hd' i h1
  rw [hg.out (f l) i h2,hf.on (g l) l i h1 (hg.len l) (hg.out l i h2)]
 ·rw [hf.out (g l) i h1]
  by_cases h2:i ∈ W
  ·exact (hg.on (f l) l i h2 (hf.len l) (hf.out l i h1)).symm
  ·rw [hg.out l i h2,hg.out (f l) i h2,hf.out l i h1]
def Agree (R:List Nat)(l m:List AV):Prop:=∀ i ∈ R,l[i]? = m[i]?
theorem Agree.left {R S:List Nat}{l m:List AV}(h:Agree (R ++ S) l m):Agree R l m:=fun i hi=>h i (List.mem_append_left _ hi)
theorem Agree.right {R S:List Nat}{l m:List AV}(h:Agree (R ++ S) l m):Agree S l m:=fun i hi=>h i (List.mem_append_right _ hi)
theorem Agree.of_loc {W R:List Nat}{f:List AV→List AV}(hf:NQ W f)(hd:apartB W R=true)(l:List AV):Agree R l (f l):=fun i hi=>by
 refine (hf.out l i fun hw=>?_).symm
 have:=List.all_eq_true.1 hd i hw
 simp at this
 exact this hi
theorem Agree.symm {R:List Nat}{l m:List AV}(h:Agree R l m):Agree R m l:=fun i hi=>(h i hi).symm
section
variable {G:Nat→Option (List AV)}
theorem Zw {x:Yf}{l m:List AV}(h:Agree (oR x) l m):opnd G l x=opnd G m x:=by
 cases x with
 | tmp t=>simp only [opnd]; rw [h t (by simp [oR])]
 | const v=>rfl
 | glob g=>rfl
theorem VH:∀ {xs:List Yf} {l m:List AV},Agree (oRs xs) l m→opnds G l xs=opnds G m xs
 | [],_,_,_=>rfl
 | x :: xs,l,m,h=>by
  have h':Agree (oR x ++ oRs xs) l m:=by simpa [oRs] using h
  simp only [opnds]
  rw [Zw h'.left,VH h'.right]
theorem PM {x:Option Yf}{l m:List AV}(h:Agree (oRo x) l m):optOpnd G l x=optOpnd G m x:=by
 cases x with
 | none=>rfl
 | some x=>simp only [optOpnd]; rw [Zw h]
theorem Hz:∀ {args:List (Nat ⊕ Yf)} {l m:List AV} {vs sl:List AV},(args.all fun | .inr _=>true | .inl _=>false)=true →
  Agree (args.flatMap fun x=>match x with | .inl t=>[t] | .inr x=>oR x) l m→WU G l args=some (vs,sl)→sl=l∧WU G m args=some (vs,m)
 | [],l,m,vs,sl,_,_,h=>by
  simp only [WU,Option.some.injEq,Prod.mk.injEq] at h ⊢
  exact ⟨h.2.symm,h.1,trivial⟩
 | .inl t :: args,_,_,_,_,hn,_,_=>by simp at hn
 | .inr x :: args,l,m,vs,sl,hn,ha,h=>by
  simp only [List.all_cons,Bool.and_eq_true] at hn
  have ha':Agree (oR x ++ (args.flatMap fun x=>match x with | .inl t=>[t] | .inr x=>oR x)) l m:=by simpa using ha
  simp only [WU] at h ⊢
  rw [← Zw (G := G) ha'.left]
  split at h <;> first | (cases h; done) | skip
  rename_i v hv
  obtain ⟨p,h1,h2⟩:=Option.map_eq_some_iff.1 h
  obtain ⟨rfl,rfl⟩:=Prod.mk.inj h2
  obtain ⟨e1,e2⟩:=Hz hn.2 ha'.right h1
  refine ⟨e1,?_⟩
  simp only [hv,e2,Option.map_some]
end
def QM (h h':List Z8):Prop:=(∀ p v,Oi h p=some v→Oi h' p=some v)∧∀ n p v,Oh h n p=some v→Oh h' n p=some v
theorem QM.refl (h:List Z8):QM h h:=⟨fun _ _ h=>h,fun _ _ _ h=>h⟩
theorem QM.of_get {h h':List Z8}(hg:∀ (g:Nat) (cs:List AV) (t:TypeId),h[g]? = some (Z8.cells cs t)→∃ (cs':List AV) (t':TypeId),h'[g]? = some (Z8.cells cs' t')∧cs'.map AV.ro=cs.map AV.ro):QM h h':=by
 refine ⟨fun p v hv=>?_,fun n p v hv=>?_⟩
 ·unfold Oi at hv ⊢
  split at hv <;> first | exact hv | (cases hv; done) | skip
  split at hv <;> first | (cases hv; done) | skip
  rename_i g o _ cs t hcs
  obtain ⟨cs',t',h1,h2⟩:=hg _ _ _ hcs
  simp only [h1]
  rw [← List.getElem?_map] at hv ⊢
  rw [h2]; exact hv
 ·unfold Oh at hv ⊢
  split at hv <;> first | exact hv | (cases hv; done) | skip
  split at hv <;> first | (cases hv; done) | skip
  rename_i g o _ cs t hcs
  obtain ⟨cs',t',h1,h2⟩:=hg _ _ _ hcs
  simp only [h1]
  have hl:cs'.length=cs.length:=by have:=congrArg List.length h2; simpa using this
  rw [hl]
  rw [List.map_take,List.map_drop] at hv ⊢
  rw [h2]; exact hv
theorem QM.app (h:List Z8)(o:Z8):QM h (h ++ [o]):=.of_get fun g cs t hg=>⟨cs,t,by rw [List.getElem?_append_left (List.getElem?_eq_some_iff.1 hg).1]; exact hg,rfl⟩
theorem F9 (v:AV):v.ro.ro=v.ro:=by cases v <;> rfl
theorem Zdo (cs:List AV)(o:Nat)(v:AV)(h:cs[o]? = some v):(cs.set o v.ro).map AV.ro=cs.map AV.ro:=by
 refine List.ext_getElem? fun i=>?_
 rw [List.getElem?_map,List.getElem?_map,List.getElem?_set]
 split
 ·rename_i e
  subst e
  have hl:=(List.getElem?_eq_some_iff.1 h).1
  rw [if_pos hl,h]
  simp [F9]
 ·rfl
theorem QM.mark {h:List Z8}{g o:Nat}{cs:List AV}{t:TypeId}{v:AV}(h1:h[g]? = some (.cells cs t))(h2:cs[o]? = some v):QM h (h.set g (.cells (cs.set o v.ro) t))∧QM (h.set g (.cells (cs.set o v.ro) t)) h:=by
 have hl:=(List.getElem?_eq_some_iff.1 h1).1
 constructor
 ·refine .of_get fun g' cs' t' hg=>?_
  rw [List.getElem?_set]
  split
  ·rename_i e; subst e
   rw [h1] at hg; cases hg
   exact ⟨cs.set o v.ro,t,by simp [hl],Zdo cs o v h2⟩
  ·exact ⟨_,_,hg,rfl⟩
 ·refine .of_get fun g' cs' t' hg=>?_
  rw [List.getElem?_set] at hg
  split at hg
  ·rename_i e; subst e
   simp only [hl,if_true,Option.some.injEq,Z8.cells.injEq] at hg
   obtain ⟨rfl,rfl⟩:=hg
   exact ⟨_,_,h1,(Zdo cs o v h2).symm⟩
  ·exact ⟨_,_,hg,rfl⟩
section
variable {G:Nat→Option (List AV)}{call:FuncId→List AV→List Z8→Option (AV×List Z8×Eff)}
def tkF (ao:AOp)(l:List AV):List AV :=
 match VG ao with
 | [t]=>l.modify t AV.ro
 | _=>l
theorem ZsN (ao:AOp):NQ (VG ao) (tkF ao):=by
 cases ao <;> first | exact NQ.id _ | exact NQ.mod _
structure DI (G:Nat→Option (List AV))(call:FuncId→List AV→List Z8→Option (AV×List Z8×Eff))(ao:AOp)(k:HK)(s:Ze)(v:AV)(s':Ze):Prop where
 sl:s'.sl=tkF ao s.sl
 bs:s'.bs=s.bs
 any:∀ t,Agree (QQ ao) s.sl t.sl→t.hp=s.hp→t.ef=s.ef→t.bs=s.bs→Zj G call t ao=some (v,⟨tkF ao t.sl,s'.hp,s'.ef,t.bs⟩)
 still:(match k with | .free | .look | .read=>True | _=>False)→s'.hp=s.hp∧s'.ef=s.ef
 free:k=.free→∀ t,Agree (QQ ao) s.sl t.sl→Zj G call t ao=some (v,⟨tkF ao t.sl,t.hp,t.ef,t.bs⟩)
 look:k=.look→∀ t,Agree (QQ ao) s.sl t.sl→QM s.hp t.hp→Zj G call t ao=some (v,⟨tkF ao t.sl,t.hp,t.ef,t.bs⟩)
 read:(match k with | .free | .look | .read=>True | _=>False)→∀ t,Agree (QQ ao) s.sl t.sl→t.hp=s.hp→Zj G call t ao=some (v,⟨tkF ao t.sl,t.hp,t.ef,t.bs⟩)
 alloc:k=.alloc→s'.ef=s.ef∧∃ obs,s'.hp=s.hp ++ obs∧∀ t,Agree (QQ ao) s.sl t.sl→t.hp.length=s.hp.length→Zj G call t ao=some (v,⟨tkF ao t.sl,t.hp ++ obs,t.ef,t.bs⟩)
 mark:k=.mark→s'.hp.length=s.hp.length∧QM s.hp s'.hp∧QM s'.hp s.hp∧∀ t obs,Agree (QQ ao) s.sl t.sl→t.hp=s.hp ++ obs→t.ef=s.ef→t.bs=s.bs→Zj G call t ao=some (v,⟨tkF ao t.sl,s'.hp ++ obs,s'.ef,t.bs⟩)
theorem DI.of_free {ao:AOp}{s:Ze}{v:AV}{s':Ze}(h:s'=⟨tkF ao s.sl,s.hp,s.ef,s.bs⟩)(hf:∀ t,Agree (QQ ao) s.sl t.sl→Zj G call t ao=some (v,⟨tkF ao t.sl,t.hp,t.ef,t.bs⟩)):DI G call ao .free s v s':=by
 subst h
 refine ⟨rfl,rfl,fun t ha h1 h2 h3=>?_,fun _=>⟨rfl,rfl⟩,fun _=>hf,(fun h=>by cases h),fun _ t ha _=>hf t ha,(fun h=>by cases h),(fun h=>by cases h)⟩
 rw [hf t ha,h1,h2]
theorem DI.of_read {ao:AOp}{s:Ze}{v:AV}{s':Ze}(h:s'=⟨tkF ao s.sl,s.hp,s.ef,s.bs⟩)(hf:∀ t,Agree (QQ ao) s.sl t.sl→t.hp=s.hp→Zj G call t ao=some (v,⟨tkF ao t.sl,t.hp,t.ef,t.bs⟩)):DI G call ao .read s v s':=by
 subst h
 refine ⟨rfl,rfl,fun t ha h1 h2 h3=>?_,fun _=>⟨rfl,rfl⟩,(fun h=>by cases h),(fun h=>by cases h),fun _ t ha h1=>hf t ha h1,(fun h=>by cases h),(fun h=>by cases h)⟩
 rw [hf t ha h1,h1,h2]
theorem DI.of_look {ao:AOp}{s:Ze}{v:AV}{s':Ze}(h:s'=⟨tkF ao s.sl,s.hp,s.ef,s.bs⟩)(hf:∀ t,Agree (QQ ao) s.sl t.sl→QM s.hp t.hp→Zj G call t ao=some (v,⟨tkF ao t.sl,t.hp,t.ef,t.bs⟩)):DI G call ao .look s v s':=by
 subst h
 refine ⟨rfl,rfl,fun t ha h1 h2 h3=>?_,fun _=>⟨rfl,rfl⟩,(fun h=>by cases h),fun _=>hf,fun _ t ha h1=>hf t ha (h1 ▸ .refl _),(fun h=>by cases h),(fun h=>by cases h)⟩
 rw [hf t ha (h1 ▸ .refl _),h1,h2]
theorem DI.of_set {ao:AOp}{s:Ze}{v:AV}{s':Ze}(h1:s'.sl=tkF ao s.sl)(h2:s'.bs=s.bs)(hf:∀ t,Agree (QQ ao) s.sl t.sl→t.hp=s.hp→t.ef=s.ef→t.bs=s.bs→Zj G call t ao=some (v,⟨tkF ao t.sl,s'.hp,s'.ef,t.bs⟩)):DI G call ao .set s v s' :=
 ⟨h1,h2,hf,(fun h=>h.elim),(fun h=>by cases h),(fun h=>by cases h),(fun h=>h.elim),(fun h=>by cases h),(fun h=>by cases h)⟩
theorem WM {α:Type}{x:Option AV}{s:α}{v:AV}{s':α}(h:x.map (·,s)=some (v,s')):x=some v∧s'=s:=by
 cases x with
 | none=>cases h
 | some a=>cases h; exact ⟨rfl,rfl⟩
theorem Zn4 (hq:∀ f args hp v hp' e,call f args hp=some (v,hp',e)→hp'=hp∧e=none){ao:AOp}{k:HK}{s:Ze}{v:AV}{s':Ze}(hk:hkind ao=some k)(h:Zj G call s ao=some (v,s')):DI G call ao k s v s':=by
 cases ao <;> simp only [hkind,Option.some.injEq,reduceCtorEq] at hk <;> try subst hk
 case un op x =>
  simp only [Zj] at h
  split at h <;> first | (cases h; done) | skip
  rename_i a ha
  obtain ⟨h1,rfl⟩:=WM h
  refine .of_free rfl fun t ht=>?_
  simp only [Zj,← Zw (G := G) (x := x) ht,ha,h1,Option.map_some]
  rfl
 case fa off x =>
  simp only [Zj] at h
  split at h <;> first | (cases h; done) | skip
  rename_i a ha
  obtain ⟨h1,rfl⟩:=WM h
  refine .of_free rfl fun t ht=>?_
  simp only [Zj,← Zw (G := G) (x := x) ht,ha,h1,Option.map_some]
  rfl
 case fld off n agg x =>
  simp only [Zj] at h
  split at h <;> first | (cases h; done) | skip
  rename_i a ha
  obtain ⟨h1,rfl⟩:=WM h
  refine .of_free rfl fun t ht=>?_
  simp only [Zj,← Zw (G := G) (x := x) ht,ha,h1,Option.map_some]
  rfl
 case mv x =>
  simp only [Zj] at h
  obtain ⟨h1,rfl⟩:=WM h
  refine .of_free rfl fun t ht=>?_
  simp only [Zj,← Zw (G := G) (x := x) ht,h1,Option.map_some]
  rfl
 case take i =>
  simp only [Zj] at h
  split at h <;> first | (cases h; done) | skip
  rename_i a ha
  cases h
  refine .of_free rfl fun t ht=>?_
  simp only [Zj,← ht i (by simp [QQ]),ha]
  rfl
 case pick c a b =>
  simp only [Zj] at h
  split at h <;> first | (cases h; done) | skip
  ·rename_i hc
   obtain ⟨h1,rfl⟩:=WM h
   refine .of_free rfl fun t ht=>?_
   simp only [Zj,← Zw (G := G) (x := c) ht.left,← Zw (G := G) (x := a) ht.right.left,hc,h1,Option.map_some]
   rfl
  ·rename_i hc
   obtain ⟨h1,rfl⟩:=WM h
   refine .of_free rfl fun t ht=>?_
   simp only [Zj,← Zw (G := G) (x := c) ht.left,← Zw (G := G) (x := b) ht.right.right,hc,h1,Option.map_some]
   rfl
 case nilchk x =>
  simp only [Zj] at h
  split at h <;> first | (cases h; done) | skip
  all_goals
   rename_i hc
   cases h
   refine .of_free rfl fun t ht=>?_
   simp only [Zj,← Zw (G := G) (x := x) ht,hc]
   rfl
 case extract x i =>
  simp only [Zj] at h
  split at h <;> first | (cases h; done) | skip
  rename_i vs hc
  obtain ⟨u,h1,h2⟩:=Option.map_eq_some_iff.1 h
  cases h2
  refine .of_free rfl fun t ht=>?_
  simp only [Zj,← Zw (G := G) (x := x) ht,hc,h1,Option.map_some]
  rfl
 case slice sh x lo hi =>
  simp only [Zj] at h
  split at h <;> first | (cases h; done) | skip
  rename_i a b c h0 h1 h2
  obtain ⟨h3,rfl⟩:=WM h
  refine .of_free rfl fun t ht=>?_
  simp only [Zj,← Zw (G := G) (x := x) ht.left,← PM (G := G) (x := lo) ht.right.left,← PM (G := G) (x := hi) ht.right.right,h0,h1,h2,h3,Option.map_some]
  rfl
 case slice3 sh x hi mx =>
  simp only [Zj] at h
  split at h <;> first | (cases h; done) | skip
  rename_i a b c h0 h1 h2
  obtain ⟨h3,rfl⟩:=WM h
  refine .of_free rfl fun t ht=>?_
  simp only [Zj,← Zw (G := G) (x := x) ht.left,← Zw (G := G) (x := hi) ht.right.left,← Zw (G := G) (x := mx) ht.right.right,h0,h1,h2,h3,Option.map_some]
  rfl
 case build zero parts =>
  simp only [Zj] at h
  split at h <;> first | (cases h; done) | skip
  rename_i vs hvs
  obtain ⟨u,h1,h2⟩:=Option.map_eq_some_iff.1 h
  cases h2
  refine .of_free rfl fun t ht=>?_
  simp only [Zj,← VH (G := G) (xs := List.map (fun (p:Nat×Nat×Yf)=>p.2.2) parts) ht,hvs,h1,Option.map_some]
  rfl
 case bin op sh x y =>
  simp only [Zj] at h
  split at h <;> first | (cases h; done) | skip
  rename_i a b ha hb
  obtain ⟨h1,rfl⟩:=WM h
  refine .of_free rfl fun t ht=>?_
  simp only [Zj,← Zw (G := G) (x := x) ht.left,← Zw (G := G) (x := y) ht.right,ha,hb,h1,Option.map_some]
  rfl
 case ia sh x y =>
  simp only [Zj] at h
  split at h <;> first | (cases h; done) | skip
  rename_i a b ha hb
  obtain ⟨h1,rfl⟩:=WM h
  refine .of_free rfl fun t ht=>?_
  simp only [Zj,← Zw (G := G) (x := x) ht.left,← Zw (G := G) (x := y) ht.right,ha,hb,h1,Option.map_some]
  rfl
 case idx x y =>
  simp only [Zj] at h
  split at h <;> first | (cases h; done) | skip
  rename_i a b ha hb
  obtain ⟨h1,rfl⟩:=WM h
  refine .of_free rfl fun t ht=>?_
  simp only [Zj,← Zw (G := G) (x := x) ht.left,← Zw (G := G) (x := y) ht.right,ha,hb,h1,Option.map_some]
  rfl
 case min xs =>
  simp only [Zj] at h
  split at h <;> first | (cases h; done) | skip
  rename_i n l hxs
  obtain ⟨u,h1,h2⟩:=Option.map_eq_some_iff.1 h
  cases h2
  refine .of_free rfl fun t ht=>?_
  simp only [Zj,← VH (G := G) (xs := xs) ht,hxs,h1,Option.map_some]
  rfl
 case max xs =>
  simp only [Zj] at h
  split at h <;> first | (cases h; done) | skip
  rename_i n l hxs
  obtain ⟨u,h1,h2⟩:=Option.map_eq_some_iff.1 h
  cases h2
  refine .of_free rfl fun t ht=>?_
  simp only [Zj,← VH (G := G) (xs := xs) ht,hxs,h1,Option.map_some]
  rfl
 case ldc x =>
  simp only [Zj] at h
  split at h <;> first | (cases h; done) | skip
  rename_i a ha
  obtain ⟨h1,rfl⟩:=WM h
  refine .of_look rfl fun t ht hl=>?_
  simp only [Zj,← Zw (G := G) (x := x) ht,ha,hl.1 _ _ h1,Option.map_some]
  rfl
 case lda n x =>
  simp only [Zj] at h
  split at h <;> first | (cases h; done) | skip
  rename_i a ha
  obtain ⟨h1,rfl⟩:=WM h
  refine .of_look rfl fun t ht hl=>?_
  simp only [Zj,← Zw (G := G) (x := x) ht,ha,hl.2 _ _ _ h1,Option.map_some]
  rfl
 case len sh x =>
  simp only [Zj] at h
  split at h <;> first | (cases h; done) | skip
  rename_i a ha
  obtain ⟨h1,rfl⟩:=WM h
  refine .of_read rfl fun t ht hl=>?_
  have e:Rt t.hp sh a=some v:=by rw [hl]; exact h1
  simp only [Zj,← Zw (G := G) (x := x) ht,ha,e,Option.map_some]
  rfl
 case conv c x =>
  simp only [Zj] at h
  split at h <;> first | (cases h; done) | skip
  rename_i a ha
  obtain ⟨h1,rfl⟩:=WM h
  refine .of_read rfl fun t ht hl=>?_
  have e:UB t.hp c a=some v:=by rw [hl]; exact h1
  simp only [Zj,← Zw (G := G) (x := x) ht,ha,e,Option.map_some]
  rfl
 case app k b i x =>
  simp only [Zj] at h
  split at h <;> first | (cases h; done) | skip
  rename_i k' r a h0 ha
  split at h <;> first | (cases h; done) | skip
  rename_i k'' r' h1
  split at h <;> first | (cases h; done) | skip
  rename_i hc
  cases h
  refine .of_read rfl fun t ht hl=>?_
  have e0:=ht i (by simp [QQ])
  have e1:Agree (oR x) s.sl t.sl:=fun j hj=>ht j (List.mem_cons_of_mem _ hj)
  have e:rowsOf t.hp a=some (k'',r'):=by rw [hl]; exact h1
  simp only [Zj,← Zw (G := G) (x := x) e1,← e0,h0,ha,e]
  rw [if_pos hc]
  rfl
 case apps b i x =>
  simp only [Zj] at h
  split at h <;> first | (cases h; done) | skip
  rename_i k' r l h0 ha
  split at h <;> first | (cases h; done) | skip
  rename_i hc
  cases h
  refine .of_free rfl fun t ht=>?_
  have e0:=ht i (by simp [QQ])
  have e1:Agree (oR x) s.sl t.sl:=fun j hj=>ht j (List.mem_cons_of_mem _ hj)
  simp only [Zj,← Zw (G := G) (x := x) e1,← e0,h0,ha]
  rw [if_pos hc]
  rfl
 case appn k b x =>
  simp only [Zj] at h
  split at h <;> first | (cases h; done) | skip
  rename_i a ha
  split at h <;> first | (cases h; done) | skip
  rename_i k'' r' h1
  split at h <;> first | (cases h; done) | skip
  rename_i hc
  cases h
  refine .of_read rfl fun t ht hl=>?_
  have e:rowsOf t.hp a=some (k'',r'):=by rw [hl]; exact h1
  simp only [Zj,← Zw (G := G) (x := x) ht,ha,e]
  rw [if_pos hc]
  rfl
 case call f args =>
  split at hk <;> first | (cases hk; done) | skip
  rename_i hn
  cases hk
  simp only [Zj] at h
  split at h <;> first | (cases h; done) | skip
  rename_i g first caps vs sl hf hvs
  split at h <;> first | (cases h; done) | skip
  rename_i u hp e hcall
  cases h
  obtain ⟨rfl,rfl⟩:=hq _ _ _ _ _ _ hcall
  have hall:(args.all fun | .inr _=>true | .inl _=>false)=true:=hn
  obtain ⟨rfl,_⟩:=Hz (G := G) (m := s.sl) hall (fun _ _=>rfl) hvs
  refine .of_read rfl fun t ht hl=>?_
  obtain ⟨_,e2⟩:=Hz (G := G) hall ht.right hvs
  have hcall':=hcall
  rw [← hl] at hcall'
  simp only [Zj,← Zw (G := G) (x := f) ht.left,hf,e2,hcall']
  rfl
 case st n x y =>
  simp only [Zj] at h
  split at h <;> first | (cases h; done) | skip
  rename_i g o a ha hb
  split at h <;> first | (cases h; done) | skip
  rename_i cs ty hg
  split at h <;> first | (cases h; done) | skip
  rename_i hc
  cases h
  refine .of_set rfl rfl fun t ht h1 h2 h3=>?_
  simp only [Zj,← Zw (G := G) (x := x) ht.left,← Zw (G := G) (x := y) ht.right,ha,hb,h1,hg,Ze.note,h2,h3]
  rw [if_pos hc]
  rfl
 case stt x i =>
  simp only [Zj] at h
  split at h <;> first | (cases h; done) | skip
  rename_i g o a ha hb
  split at h <;> first | (cases h; done) | skip
  rename_i cs ty hg
  split at h <;> first | (cases h; done) | skip
  rename_i hc
  cases h
  refine .of_set rfl rfl fun t ht h1 h2 h3=>?_
  have e0:=ht i (by simp [QQ])
  have e1:Agree (oR x) s.sl t.sl:=fun j hj=>ht j (List.mem_cons_of_mem _ hj)
  simp only [Zj,← Zw (G := G) (x := x) e1,← e0,ha,hb,h1,hg,Ze.note,Ze.let_,h2,h3]
  rw [if_pos hc]
  rfl
 case copy k x y =>
  simp only [Zj] at h
  split at h <;> first | (cases h; done) | skip
  ·rename_i g off len k'' a ha hb
   split at h <;> first | (cases h; done) | skip
   rename_i k' r cs ty hr hg
   split at h <;> first | (cases h; done) | skip
   rename_i hc
   cases h
   refine .of_set rfl rfl fun t ht h1 h2 h3=>?_
   simp only [Zj,← Zw (G := G) (x := x) ht.left,← Zw (G := G) (x := y) ht.right,ha,hb,h1,hr,hg,Ze.note,h2,h3]
   rw [if_pos hc]
   rfl
  ·rename_i a ha hb
   split at h <;> first | (cases h; done) | skip
   rename_i k' r hr
   split at h <;> first | (cases h; done) | skip
   rename_i hc
   cases h
   refine .of_set rfl rfl fun t ht h1 h2 h3=>?_
   simp only [Zj,← Zw (G := G) (x := x) ht.left,← Zw (G := G) (x := y) ht.right,ha,hb,h1,hr]
   rw [if_pos hc,← h1,← h2]
   rfl
 case ldt x =>
  simp only [Zj] at h
  split at h <;> first | (cases h; done) | skip
  rename_i g o ha
  split at h <;> first | (cases h; done) | skip
  rename_i cs ty hg
  split at h <;> first | (cases h; done) | skip
  rename_i u hu
  cases h
  obtain ⟨l1,l2⟩:=QM.mark hg hu
  have hlt:=(List.getElem?_eq_some_iff.1 hg).1
  refine ⟨rfl,rfl,fun t ht h1 h2 h3=>?_,(fun h=>h.elim),(fun h=>by cases h),(fun h=>by cases h),(fun h=>h.elim),(fun h=>by cases h),fun _=>⟨by simp,l1,l2,fun t obs ht h1 h2 h3=>?_⟩⟩
  ·simp only [Zj,← Zw (G := G) (x := x) ht,ha,h1,hg,hu,Ze.note,h2,h3]
   rfl
  ·have e:(s.hp ++ obs)[g]? = some (.cells cs ty):=by rw [List.getElem?_append_left hlt]; exact hg
   simp only [Zj,← Zw (G := G) (x := x) ht,ha,h1,e,hu,Ze.note,h2,h3,List.set_append_left _ _ hlt]
   rfl
 case lit e k parts =>
  cases parts with
  | nil =>
   simp only [hkind,Option.some.injEq] at hk
   subst hk
   have key:∀ t:Ze,Zj G call t (.lit e k [])=some (.own k [],t):=fun t=>rfl
   rw [key] at h
   cases h
   exact .of_free rfl fun t _=>key t
  | cons p0 ps =>
  simp only [hkind,Option.some.injEq] at hk
  subst hk
  generalize hps:p0 :: ps=parts at *
  simp only [Zj] at h
  split at h <;> first | (cases h; done) | skip
  rename_i vs hvs
  split at h
  ·rename_i hc
   cases h
   have key:∀ t:Ze,Agree (QQ (.lit e k parts)) s.sl t.sl→Zj G call t (.lit e k parts)=some (.own k (vs.map fun v=>v.cells.map AV.ro),t):=fun t ht=>by
    simp only [Zj,← VH (G := G) (xs := parts) ht,hvs]
    rw [if_pos hc]
   refine ⟨rfl,rfl,fun t ht h1 h2 h3=>?_,(fun h=>h.elim),(fun h=>by cases h),(fun h=>by cases h),(fun h=>h.elim),fun _=>⟨rfl,[],by simp,fun t ht _=>?_⟩,(fun h=>by cases h)⟩
   ·rw [key t ht,← h1,← h2]; rfl
   ·rw [key t ht,List.append_nil]; rfl
  ·rename_i hc0
   split at h <;> first | (cases h; done) | skip
   rename_i hc
   cases h
   have key:∀ t:Ze,Agree (QQ (.lit e k parts)) s.sl t.sl→Zj G call t (.lit e k parts)=some (.arr t.hp.length 0 vs.length k,{ t with hp:=t.hp ++ [.cells (vs.map AV.cells).flatten e] }):=fun t ht=>by
    simp only [Zj,← VH (G := G) (xs := parts) ht,hvs]
    rw [if_neg hc0,if_pos hc]
   refine ⟨rfl,rfl,fun t ht h1 h2 h3=>?_,(fun h=>h.elim),(fun h=>by cases h),(fun h=>by cases h),(fun h=>h.elim),fun _=>⟨rfl,_,rfl,fun t ht hl=>?_⟩,(fun h=>by cases h)⟩
   ·rw [key t ht,h1,h2]; rfl
   ·rw [key t ht,hl]; rfl
theorem Zhp {s t:Ze}{g:Option (Nat×Bool)}(h:Agree (match g with | some (i,_)=>[i] | none=>[]) s.sl t.sl):YF s g=YF t g:=by
 cases g with
 | none=>rfl
 | some p =>
  obtain ⟨i,b⟩:=p
  simp only [YF]
  rw [h i (by simp)]
def Zbe (d:Option Nat)(v:AV)(l:List AV):List AV:=match d with | some d=>l.set d v | none=>l
theorem MW (d:Option Nat)(v:AV):NQ d.toList (Zbe d v):=by
 cases d with
 | none=>exact NQ.id _
 | some d=>exact NQ.set d v
theorem Yr (s:Ze)(d:Option Nat)(v:AV):s.put d v=⟨Zbe d v s.sl,s.hp,s.ef,s.bs⟩:=by cases d <;> rfl
structure StepA (G:Nat→Option (List AV))(call:FuncId→List AV→List Z8→Option (AV×List Z8×Eff))(o:ZT)(k:HK)(s s':Ze)(f:List AV→List AV):Prop where
 loc:NQ (QF o) f
 sl:s'.sl=f s.sl
 bs:s'.bs=s.bs
 any:∀ t,Agree (WL o) s.sl t.sl→t.hp=s.hp→t.ef=s.ef→t.bs=s.bs→Z5 G call o t=some ⟨f t.sl,s'.hp,s'.ef,t.bs⟩
 still:(match k with | .free | .look | .read=>True | _=>False)→s'.hp=s.hp∧s'.ef=s.ef
 free:k=.free→∀ t,Agree (WL o) s.sl t.sl→Z5 G call o t=some ⟨f t.sl,t.hp,t.ef,t.bs⟩
 look:k=.look→∀ t,Agree (WL o) s.sl t.sl→QM s.hp t.hp→Z5 G call o t=some ⟨f t.sl,t.hp,t.ef,t.bs⟩
 read:(match k with | .free | .look | .read=>True | _=>False)→∀ t,Agree (WL o) s.sl t.sl→t.hp=s.hp→Z5 G call o t=some ⟨f t.sl,t.hp,t.ef,t.bs⟩
 alloc:k=.alloc→s'.ef=s.ef∧∃ obs,s'.hp=s.hp ++ obs∧∀ t,Agree (WL o) s.sl t.sl→t.hp.length=s.hp.length→Z5 G call o t=some ⟨f t.sl,t.hp ++ obs,t.ef,t.bs⟩
 mark:k=.mark→s'.hp.length=s.hp.length∧QM s.hp s'.hp∧QM s'.hp s.hp∧∀ t obs,Agree (WL o) s.sl t.sl→t.hp=s.hp ++ obs→t.ef=s.ef→t.bs=s.bs→Z5 G call o t=some ⟨f t.sl,s'.hp ++ obs,s'.ef,t.bs⟩
theorem ZbC (hq:∀ f args hp v hp' e,call f args hp=some (v,hp',e)→hp'=hp∧e=none){o:ZT}{k:HK}{s s':Ze}(hk:hkind o.op=some k)(h:Z5 G call o s=some s'):∃ f,StepA G call o k s s' f:=by
 have wg:∀ t:Ze,Agree (WL o) s.sl t.sl→YF t o.guard=YF s o.guard:=fun t ht=>(Zhp ht.left).symm
 simp only [Z5] at h
 split at h <;> first | (cases h; done) | skip
 ·rename_i hw
  split at h <;> first | (cases h; done) | skip
  rename_i v s1 he
  obtain rfl:=Option.some.inj h
  have S:=Zn4 hq hk he
  have run:∀ (t:Ze) (hp:List Z8) (ef:Eff),YF t o.guard=some true→Zj G call t o.op=some (v,⟨tkF o.op t.sl,hp,ef,t.bs⟩)→Z5 G call o t=some ⟨Zbe o.dst v (tkF o.op t.sl),hp,ef,t.bs⟩:=fun t hp ef h1 h2=>by
   simp only [Z5,h1,h2,Yr]
  refine ⟨fun l=>Zbe o.dst v (tkF o.op l),(ZsN o.op).comp (MW o.dst v),by rw [Yr,S.sl],by rw [Yr]; exact S.bs,fun t ht h1 h2 h3=>?_,fun hs=>?_,fun hk t ht=>?_,fun hk t ht hl=>?_,fun hk t ht hl=>?_,fun hk=>?_,fun hk=>?_⟩
  ·rw [Yr]; exact run t _ _ ((wg t ht).trans hw) (S.any t ht.right h1 h2 h3)
  ·rw [Yr]; exact S.still hs
  ·exact run t _ _ ((wg t ht).trans hw) (S.free hk t ht.right)
  ·exact run t _ _ ((wg t ht).trans hw) (S.look hk t ht.right hl)
  ·exact run t _ _ ((wg t ht).trans hw) (S.read hk t ht.right hl)
  ·obtain ⟨e1,obs,e2,e3⟩:=S.alloc hk
   rw [Yr]
   exact ⟨e1,obs,e2,fun t ht hl=>run t _ _ ((wg t ht).trans hw) (e3 t ht.right hl)⟩
  ·obtain ⟨e1,e2,e3,e4⟩:=S.mark hk
   rw [Yr]
   exact ⟨e1,e2,e3,fun t obs ht h1 h2 h3=>run t _ _ ((wg t ht).trans hw) (e4 t obs ht.right h1 h2 h3)⟩
 ·rename_i hw
  obtain rfl:=Option.some.inj h
  have run:∀ t:Ze,YF t o.guard=some false→Z5 G call o t=some ⟨Zbe o.dst .undef t.sl,t.hp,t.ef,t.bs⟩:=fun t h1=>by
   simp only [Z5,h1,Yr]
  have hl:NQ (QF o) (Zbe o.dst .undef):=by
   have:=(NQ.id (VG o.op)).comp (MW o.dst .undef)
   exact this
  rw [Yr]
  refine ⟨Zbe o.dst .undef,hl,rfl,rfl,fun t ht h1 h2 h3=>?_,fun _=>⟨rfl,rfl⟩,fun _ t ht=>run t ((wg t ht).trans hw),fun _ t ht _=>run t ((wg t ht).trans hw),fun _ t ht _=>run t ((wg t ht).trans hw),fun _=>⟨rfl,[],by simp,fun t ht _=>?_⟩,fun _=>⟨rfl,.refl _,.refl _,fun t obs ht h1 h2 h3=>?_⟩⟩
  ·rw [run t ((wg t ht).trans hw),h1,h2]
  ·rw [run t ((wg t ht).trans hw),List.append_nil]
  ·rw [run t ((wg t ht).trans hw),h1,h2]
theorem Zqk (hq:∀ f args hp v hp' e,call f args hp=some (v,hp',e)→hp'=hp∧e=none){o1 o2:ZT}{s s1 s2:Ze}(hc:ZfJ o1 o2=true)(h1:Z5 G call o1 s=some s1)(h2:Z5 G call o2 s1=some s2) :
  ∃ u,Z5 G call o2 s=some u∧Z5 G call o1 u=some s2:=by
 simp only [ZfJ,Bool.and_eq_true] at hc
 obtain ⟨⟨⟨hk,ha⟩,hb⟩,hd⟩:=hc
 split at hk <;> first | (cases hk; done) | skip
 rename_i k1 k2 hk1 hk2
 obtain ⟨f1,S1⟩:=ZbC hq hk1 h1
 obtain ⟨f2,S2⟩:=ZbC hq hk2 h2
 have A2:Agree (WL o2) s1.sl s.sl:=by rw [S1.sl]; exact (Agree.of_loc S1.loc ha s.sl).symm
 have A1:∀ u:Ze,u.sl=f2 s.sl→Agree (WL o1) s.sl u.sl:=fun u hu=>by rw [hu]; exact Agree.of_loc S2.loc hd s.sl
 have fin:∀ (u:Ze) (hp:List Z8) (ef:Eff),u.sl=f2 s.sl→u.bs=s.bs→hp=s2.hp→ef=s2.ef→Z5 G call o1 u=some ⟨f1 u.sl,hp,ef,u.bs⟩→Z5 G call o1 u=some s2:=fun u hp ef e1 e2 e3 e4 h=>by
  rw [h]
  have q1:f1 u.sl=s2.sl:=by rw [e1,S2.sl,S1.sl]; exact S1.loc.swap S2.loc hb s.sl
  have q2:u.bs=s2.bs:=by rw [e2,S2.bs,S1.bs]
  rw [q1,q2,e3,e4]
 cases k1 with
 | free =>
  obtain ⟨p1,p2⟩:=S1.still trivial
  have e:=S2.any s A2 p1.symm p2.symm S1.bs.symm
  exact ⟨_,e,fin _ _ _ rfl rfl rfl rfl (S1.free rfl _ (A1 _ rfl))⟩
 | look =>
  obtain ⟨p1,p2⟩:=S1.still trivial
  have e:=S2.any s A2 p1.symm p2.symm S1.bs.symm
  cases k2 with
  | free=>obtain ⟨q1,q2⟩:=S2.still trivial; exact ⟨_,e,fin _ _ _ rfl rfl rfl rfl (S1.look rfl _ (A1 _ rfl) (by show QM s.hp s2.hp; rw [q1,p1]; exact .refl _))⟩
  | look=>obtain ⟨q1,q2⟩:=S2.still trivial; exact ⟨_,e,fin _ _ _ rfl rfl rfl rfl (S1.look rfl _ (A1 _ rfl) (by show QM s.hp s2.hp; rw [q1,p1]; exact .refl _))⟩
  | read=>obtain ⟨q1,q2⟩:=S2.still trivial; exact ⟨_,e,fin _ _ _ rfl rfl rfl rfl (S1.look rfl _ (A1 _ rfl) (by show QM s.hp s2.hp; rw [q1,p1]; exact .refl _))⟩
  | mark=>obtain ⟨_,q2,_⟩:=S2.mark rfl; exact ⟨_,e,fin _ _ _ rfl rfl rfl rfl (S1.look rfl _ (A1 _ rfl) (by show QM s.hp s2.hp; rw [← p1]; exact q2))⟩
  | alloc =>
   obtain ⟨_,obs,q2,_⟩:=S2.alloc rfl
   refine ⟨_,e,fin _ _ _ rfl rfl rfl rfl (S1.look rfl _ (A1 _ rfl) ?_)⟩
   show QM s.hp s2.hp
   rw [q2,p1]
   exact .of_get fun g cs t hg=>⟨cs,t,by rw [List.getElem?_append_left (List.getElem?_eq_some_iff.1 hg).1]; exact hg,rfl⟩
  | set=>cases hk
 | read =>
  obtain ⟨p1,p2⟩:=S1.still trivial
  have e:=S2.any s A2 p1.symm p2.symm S1.bs.symm
  cases k2 with
  | free=>obtain ⟨q1,q2⟩:=S2.still trivial; exact ⟨_,e,fin _ _ _ rfl rfl rfl rfl (S1.read trivial _ (A1 _ rfl) (q1.trans p1))⟩
  | look=>obtain ⟨q1,q2⟩:=S2.still trivial; exact ⟨_,e,fin _ _ _ rfl rfl rfl rfl (S1.read trivial _ (A1 _ rfl) (q1.trans p1))⟩
  | read=>obtain ⟨q1,q2⟩:=S2.still trivial; exact ⟨_,e,fin _ _ _ rfl rfl rfl rfl (S1.read trivial _ (A1 _ rfl) (q1.trans p1))⟩
  | mark=>cases hk
  | alloc=>cases hk
  | set=>cases hk
 | set =>
  cases k2 with
  | free =>
   obtain ⟨q1,q2⟩:=S2.still trivial
   have e:=S2.free rfl s A2
   exact ⟨_,e,fin _ _ _ rfl rfl q1.symm q2.symm (S1.any _ (A1 _ rfl) rfl rfl rfl)⟩
  | _=>cases hk
 | alloc =>
  cases k2 with
  | free =>
   obtain ⟨q1,q2⟩:=S2.still trivial
   have e:=S2.free rfl s A2
   exact ⟨_,e,fin _ _ _ rfl rfl q1.symm q2.symm (S1.any _ (A1 _ rfl) rfl rfl rfl)⟩
  | _=>cases hk
 | mark =>
  obtain ⟨m1,m2,m3,m4⟩:=S1.mark rfl
  cases k2 with
  | free =>
   obtain ⟨q1,q2⟩:=S2.still trivial
   have e:=S2.free rfl s A2
   exact ⟨_,e,fin _ _ _ rfl rfl q1.symm q2.symm (S1.any _ (A1 _ rfl) rfl rfl rfl)⟩
  | look =>
   obtain ⟨q1,q2⟩:=S2.still trivial
   have e:=S2.look rfl s A2 m3
   exact ⟨_,e,fin _ _ _ rfl rfl q1.symm q2.symm (S1.any _ (A1 _ rfl) rfl rfl rfl)⟩
  | alloc =>
   obtain ⟨q1,obs,q2,q3⟩:=S2.alloc rfl
   have e:=q3 s A2 m1.symm
   refine ⟨_,e,fin _ _ _ rfl rfl q2.symm q1.symm (m4 _ obs (A1 _ rfl) rfl rfl rfl)⟩
  | _=>cases hk
end
end Go.Proofs.YtleomfgijkapfaaGreatDoor.Abs
end
section
namespace Go.Proofs.YtleomfgijkapfaaGreatDoor.Abs
open Go Go.RowKit
section
variable {P:Program}{G:Nat→Option (List AV)}{call:FuncId→List AV→List Z8→Option (AV×List Z8×Eff)}{E:Entry}{s s':Ze}{Γ:Zx}{a:Act}{w:World}{hand:Nat→Bool}{draw:Bool}
def Rq (ops:Array Oper):Option (Nat×Bool)→Option (Option (Nat×Bool))
 | none=>some none
 | some (j,want)=>match (ops[j]?).bind (·.dst) with
  | some d=>some (some (d,want))
  | none=>none
theorem Qi (hI:Inv E s Γ a w){ops:Array Oper}{o:Oper}{g:Option (Nat×Bool)}{b:Bool}(hg:Rq ops o.guard=some g)(h:YF s g=some b):Region.wanted o (yielded ops a.tmps)=b:=by
 unfold Region.wanted
 cases hq:o.guard with
 | none =>
  rw [hq] at hg
  obtain rfl:=Option.some.inj hg
  simp only [YF,Option.some.injEq] at h
  exact h
 | some p =>
  obtain ⟨j,want⟩:=p
  rw [hq] at hg
  simp only [Rq] at hg
  split at hg
  ·rename_i d hd
   obtain rfl:=Option.some.inj hg
   simp only [YF] at h
   split at h <;> first | (cases h; done) | skip
   ·rename_i c hc
    obtain rfl:=Option.some.inj h
    have hr:=hI.slots.rep d _ hc
    have hlt:d < a.tmps.size:=by rw [hI.slots.size]; exact Zm hc
    have ht:a.tmps[d]? = some (a.tmps.getD d Go.undef):=Y1 hlt
    generalize a.tmps.getD d Go.undef=u at hr ht
    cases hr
    simp only [yielded,hd,Option.bind_some,ht]
    cases c <;> cases want <;> rfl
   ·rename_i hc
    obtain rfl:=Option.some.inj h
    have hr:=hI.slots.rep d _ hc
    have hlt:d < a.tmps.size:=by rw [hI.slots.size]; exact Zm hc
    have ht:a.tmps[d]? = some (a.tmps.getD d Go.undef):=Y1 hlt
    generalize a.tmps.getD d Go.undef=u at hr ht
    cases hr
    simp only [yielded,hd,Option.bind_some,ht]
    rfl
  ·cases hg
theorem Be {ops:Array Oper}{o:Oper}{l:List Oper}{aops:List ZT}(h:XO P hand draw ops (o :: l)=some aops) :
  ∃ g r,Rq ops o.guard=some g∧XO P hand draw ops l=some r∧aops=⟨o.dst,(cOp P hand draw o).getD .bad,g⟩ :: r:=by
 simp only [XO] at h
 split at h <;> first | (cases h; done) | skip
 rename_i g r h2 h3
 refine ⟨g,r,?_,h3,(Option.some.inj h).symm⟩
 rw [← h2]
 unfold Rq
 cases o.guard with
 | none=>rfl
 | some p=>rfl
theorem QW {o:Oper}{s s':Ze}{v:AV}{call:FuncId→List AV→List Z8→Option (AV×List Z8×Eff)}(h:Zj G call s ((cOp P hand draw o).getD .bad)=some (v,s')):cOp P hand draw o=some ((cOp P hand draw o).getD .bad):=by
 cases hc:cOp P hand draw o with
 | none=>rw [hc] at h; simp [Zj] at h
 | some ao=>rfl
theorem Zka (hG:GOk G E.W0)(hS:ZM P E.W0 call){ops:Array Oper}{Q:Exit→Act→World→Prop}:∀ {l:List Oper} {aops:List ZT} (k:Nat) {s s':Ze} {Γ:Zx} {a:Act} {w:World},(∀ j,l[j]? = ops[k + j]?) →
  XO P hand draw ops l=some aops→ZL G call aops s=some s'→Inv E s Γ a w→(∀ Γ a w,Inv E s' Γ a w→Q .normal a w)→wpOps P ops Q (List.range' k l.length) a w
 | [],aops,k,s,s',Γ,a,w,_,hc,h,hI,hQ=>by
  obtain rfl:=Option.some.inj (by simpa [XO] using hc:some []=some aops)
  obtain rfl:=Option.some.inj (by simpa [ZL] using h:some s=some s')
  exact hQ Γ a w hI
 | o :: l,aops,k,s,s',Γ,a,w,hl,hc,h,hI,hQ=>by
  obtain ⟨g,r,h2,h3,rfl⟩:=Be hc
  have ho:ops[k]? = some o:=by simpa using (hl 0).symm
  simp only [ZL] at h
  split at h <;> first | (cases h; done) | skip
  rename_i s1 he
  have hl':∀ j,l[j]? = ops[k + 1 + j]?:=fun j=>by
   have:=hl (j + 1)
   simpa [Nat.add_assoc,Nat.add_comm 1 j] using this
  simp only [List.length_cons,List.range'_succ,wpOps,ho]
  simp only [Z5] at he
  split at he <;> first | (cases he; done) | skip
  ·rename_i hw
   rw [Qi hI h2 hw]
   split at he <;> first | (cases he; done) | skip
   rename_i v s2 hev
   obtain rfl:=Option.some.inj he
   simp only [if_true]
   refine .inl (Zn5 hG hS hI (QW hev) hev fun Γ' cv w' i1 r1 o1=>?_)
   obtain ⟨Γ2,i2⟩:=i1.put o.dst r1 o1
   exact Zka hG hS (k + 1) hl' h3 h i2 hQ
  ·rename_i hw
   rw [Qi hI h2 hw]
   obtain rfl:=Option.some.inj he
   simp only [Bool.false_eq_true,if_false]
   obtain ⟨Γ2,i2⟩:=hI.put o.dst (v := .undef) (cv := Go.undef) .undef (.of_ne (by simp))
   exact Zka hG hS (k + 1) hl' h3 h i2 hQ
theorem ZaZ (hG:GOk G E.W0)(hS:ZM P E.W0 call){ops:Array Oper}{Q:Exit→Act→World→Prop}{w:World}:∀ {l:List Oper} {aops:List ZT} {s s':Ze} {Γ:Zx} {a:Act},
  XO P hand draw ops l=some aops→FV aops=true→ZL G (Qh call) aops s=some s'→Inv E s Γ a w→(∀ Γ a w,Inv E s' Γ a w→Q .normal a w) →
  wpQuiet P ops (Behind w) (fun a'=>∀ w',Behind w w'→Q .normal a' w') l a
 | [],aops,s,s',Γ,a,hc,_,h,hI,hQ=>by
  obtain rfl:=Option.some.inj (by simpa [XO] using hc:some []=some aops)
  obtain rfl:=Option.some.inj (by simpa [ZL] using h:some s=some s')
  exact fun w' hw'=>hQ Γ a w' (hw'.inv hI)
 | o :: l,aops,s,s',Γ,a,hc,hq,h,hI,hQ=>by
  obtain ⟨g,r,h2,h3,rfl⟩:=Be hc
  simp only [FV,Bool.and_eq_true] at hq
  simp only [ZL] at h
  split at h <;> first | (cases h; done) | skip
  rename_i s1 he
  simp only [wpQuiet]
  simp only [Z5] at he
  split at he <;> first | (cases he; done) | skip
  ·rename_i hw
   rw [Qi hI h2 hw]
   split at he <;> first | (cases he; done) | skip
   rename_i v s2 hev
   obtain rfl:=Option.some.inj he
   simp only [if_true]
   refine ZjY hG hS hI (QW hev) hq.1.1 hq.1.2 hev fun cv e r1 o1=>?_
   subst e
   obtain ⟨Γ2,i2⟩:=hI.put o.dst r1 (o1 .res)
   exact ZaZ hG hS h3 hq.2 h i2 hQ
  ·rename_i hw
   rw [Qi hI h2 hw]
   obtain rfl:=Option.some.inj he
   simp only [Bool.false_eq_true,if_false]
   obtain ⟨Γ2,i2⟩:=hI.put o.dst (v := .undef) (cv := Go.undef) .undef (.of_ne (by simp))
   exact ZaZ hG hS h3 hq.2 h i2 hQ
theorem bubble (hq:∀ f args hp v hp' e,call f args hp=some (v,hp',e)→hp'=hp∧e=none){o:ZT}{l2:List ZT}{sF:Ze}:∀ {l1:List ZT} {s:Ze},(∀ x ∈ l1,ZfJ x o=true)→ZL G call (l1 ++ o :: l2) s=some sF →
  ∃ u,Z5 G call o s=some u∧ZL G call (l1 ++ l2) u=some sF
 | [],s,_,h=>by
  simp only [List.nil_append,ZL] at h
  split at h <;> first | (cases h; done) | skip
  rename_i u hu
  exact ⟨u,hu,h⟩
 | x :: l1,s,hx,h=>by
  simp only [List.cons_append,ZL] at h
  split at h <;> first | (cases h; done) | skip
  rename_i s1 h1
  obtain ⟨u1,h2,h3⟩:=bubble hq (fun y hy=>hx y (List.mem_cons_of_mem _ hy)) h
  obtain ⟨u,h4,h5⟩:=Zqk hq (hx x (List.mem_cons_self ..)) h1 h2
  refine ⟨u,h4,?_⟩
  simp only [List.cons_append,ZL,h5]
  exact h3
theorem Zd1:∀ f args hp v hp' e,Qh call f args hp=some (v,hp',e)→hp'=hp∧e=none:=by
 intro f args hp v hp' e h
 unfold Qh at h
 split at h <;> first | (cases h; done) | skip
 split at h <;> first | (cases h; done) | skip
 cases h
 exact ⟨rfl,rfl⟩
theorem Xa:∀ {l:List Oper} {aops:List ZT} {ops:Array Oper},XO P hand draw ops l=some aops→l.length=aops.length∧∀ (i:Nat) (o:Oper),l[i]? = some o→∃ g,Rq ops o.guard=some g∧aops[i]? = some ⟨o.dst,(cOp P hand draw o).getD .bad,g⟩
 | [],aops,ops,h=>by
  obtain rfl:=Option.some.inj (by simpa [XO] using h:some []=some aops)
  exact ⟨rfl,fun i o hi=>by simp at hi⟩
 | o :: l,aops,ops,h=>by
  obtain ⟨g,r,h2,h3,rfl⟩:=Be h
  obtain ⟨h4,h5⟩:=Xa h3
  refine ⟨by simp [h4],fun i o' hi=>?_⟩
  cases i with
  | zero=>cases hi; exact ⟨g,h2,rfl⟩
  | succ i=>exact h5 i o' hi
theorem ZjZ (hG:GOk G E.W0)(hS:ZM P E.W0 call){ops:Array Oper}{o:Oper}{g:Option (Nat×Bool)}{u:Ze}{K:Act→World→Prop}{Q:Exit→Act→World→Prop}(hn:noHand ((cOp P hand draw o).getD .bad)=true)(h2:Rq ops o.guard=some g)
  (he:Z5 G (Qh call) ⟨o.dst,(cOp P hand draw o).getD .bad,g⟩ s=some u) (hI:Inv E s Γ a w) (hK:∀ Γ a w,Inv E u Γ a w→K a w) :
  if Region.wanted o (yielded ops a.tmps)=true then o.wp P a w K Q∨(o.asks P a w∧LetsOut Q) else K (a.put o.dst Go.undef) w:=by
 simp only [Z5] at he
 split at he <;> first | (cases he; done) | skip
 ·rename_i hw
  rw [Qi hI h2 hw]
  split at he <;> first | (cases he; done) | skip
  rename_i v s2 hev
  obtain rfl:=Option.some.inj he
  simp only [if_true]
  refine .inl ?_
  by_cases hc:∃ f args,(cOp P hand draw o).getD .bad=.call f args
  ·obtain ⟨f,args,hcall⟩:=hc
   have hqt:Zbl ((cOp P hand draw o).getD .bad)=true:=by rw [hcall]; rfl
   refine Oper.wp_of_quiet (C := Behind w) (K := fun a'=>∀ w',Behind w w'→K a' w') (Behind.refl w) (fun a' w' hw' h=>h w' hw') ?_
   refine ZjY hG hS hI (QW hev) hqt hn hev fun cv e r1 o1=>?_
   subst e
   obtain ⟨Γ2,i2⟩:=hI.put o.dst r1 (o1 .res)
   exact fun w' hw'=>hK _ _ w' (hw'.inv i2)
  ·have hev':Zj G call s ((cOp P hand draw o).getD .bad)=some (v,s2):=by
    rw [← hev]
    cases hx:(cOp P hand draw o).getD .bad <;> first | rfl | exact absurd ⟨_,_,hx⟩ hc
   refine Zn5 hG hS hI (QW hev') hev' fun Γ' cv w' i1 r1 o1=>?_
   obtain ⟨Γ2,i2⟩:=i1.put o.dst r1 o1
   exact hK _ _ _ i2
 ·rename_i hw
  rw [Qi hI h2 hw]
  obtain rfl:=Option.some.inj he
  simp only [Bool.false_eq_true,if_false]
  obtain ⟨Γ2,i2⟩:=hI.put o.dst (v := .undef) (cv := Go.undef) .undef (.of_ne (by simp))
  exact hK _ _ _ i2
theorem GL {listed:Array Bool}{i:Nat}(h:listed.getD i true=false):listed.getD i false=false:=by
 rcases Nat.lt_or_ge i listed.size with h' | h'
 ·simp [h'] at h ⊢; exact h
 ·simp [Array.getElem?_eq_none h'] at h
def Wp (n:Nat)(listed:Array Bool):List Nat:=(List.range n).filter fun i=>!listed.getD i true
theorem Qp (n:Nat)(listed:Array Bool):(Wp n listed).Pairwise (· < ·):=List.Pairwise.filter _ List.pairwise_lt_range
theorem Yv {n i:Nat}{listed:Array Bool}:i ∈ Wp n listed↔i < n∧listed.getD i true=false:=by simp [Wp]
theorem Jy {n i:Nat}{listed:Array Bool}{l1 l2:List Nat}(h:Wp n listed=l1 ++ i :: l2)(hi:i < listed.size):Wp n (listed.setIfInBounds i true)=l1 ++ l2:=by
 have hs:=Qp n listed
 rw [h] at hs
 have h1:∀ j ∈ l1,j≠i:=fun j hj=>Nat.ne_of_lt ((List.pairwise_append.1 hs).2.2 j hj i (List.mem_cons_self ..))
 have h2:∀ j ∈ l2,j≠i:=fun j hj=>Nat.ne_of_gt ((List.pairwise_cons.1 (List.pairwise_append.1 hs).2.1).1 j hj)
 have e:Wp n (listed.setIfInBounds i true)=(Wp n listed).filter fun j=>decide (j≠i):=by
  unfold Wp
  rw [List.filter_filter]
  refine List.filter_congr fun j _=>?_
  by_cases hji:j=i
  ·subst hji
   have:(listed.setIfInBounds j true).getD j true=true:=by simp [hi]
   simp [this]
  ·rw [getD_set_ne true (Ne.symm hji)]; simp [hji]
 rw [e,h,List.filter_append,List.filter_cons]
 simp only [ne_eq,not_true_eq_false,decide_false,Bool.false_eq_true,if_false]
 rw [List.filter_eq_self.2 (fun j hj=>by simpa using h1 j hj),List.filter_eq_self.2 (fun j hj=>by simpa using h2 j hj)]
theorem Zsq (hG:GOk G E.W0)(hS:ZM P E.W0 call){ops:Array Oper}{bops:List ZT}{Q:Exit→Act→World→Prop}{sF:Ze}(hc:XO P hand draw ops ops.toList=some bops)(hd:Zdh ops bops=true)(hQ:∀ Γ a w,Inv E sF Γ a w→Q .normal a w) :
  ∀ (fuel:Nat) {listed:Array Bool} {s:Ze} {Γ:Zx} {a:Act} {w:World},listed.size=ops.size→VB ops listed→(Wp ops.size listed).length=fuel→ZL G (Qh call) ((Wp ops.size listed).map fun i=>bops.getD i ⟨none,.bad,none⟩) s=some sF→Inv E s Γ a w→wpAny P .any ops Q fuel listed a w:=by
 simp only [Zdh,Bool.and_eq_true,List.all_eq_true,List.mem_range] at hd
 obtain ⟨⟨hord,hnh⟩,hpair⟩:=hd
 obtain ⟨hlen,hget⟩:=Xa hc
 intro fuel
 induction fuel with
 | zero =>
  intro listed s Γ a w hsz hcl hl h hI
  have hn:=List.eq_nil_of_length_eq_zero hl
  rw [hn] at h
  obtain rfl:=Option.some.inj (by simpa [ZL] using h:some s=some sF)
  refine ⟨List.eq_nil_iff_forall_not_mem.2 fun i hi=>?_,hQ _ _ _ hI⟩
  obtain ⟨h1,o,h2,_⟩:=mem_ready.1 hi
  have:i ∈ Wp ops.size listed:=Yv.2 ⟨(Array.getElem?_eq_some_iff.1 h2).1,h1⟩
  rw [hn] at this
  cases this
 | succ fuel ih =>
  intro listed s Γ a w hsz hcl hl h hI
  have hlisted:∀ j,j < ops.size→listed.getD j true≠false→listed.getD j false=true:=fun j hj h=>by
   have hj':j < listed.size:=by omega
   simp [hj'] at h ⊢; exact h
  refine ⟨fun hr=>?_,fun i hi=>?_⟩
  ·obtain ⟨i,r,hir⟩:∃ i r,Wp ops.size listed=i :: r:=by
    cases hx:Wp ops.size listed with
    | nil=>rw [hx] at hl; cases hl
    | cons i r=>exact ⟨i,r,rfl⟩
   have him:=Yv.1 (show i ∈ Wp ops.size listed by rw [hir]; exact List.mem_cons_self ..)
   have hoi:ops[i]? = some ops[i]:=Array.getElem?_eq_getElem him.1
   have hready:i ∈ Region.ready .any ops listed:=by
    refine mem_ready.2 ⟨him.2,_,hoi,fun e he hb=>?_⟩
    have:=hord i him.1
    rw [hoi] at this
    have hlt:=Array.all_eq_true'.1 this e he
    rw [hb] at hlt
    simp only [Bool.not_true,Bool.false_or,decide_eq_true_eq] at hlt
    refine hlisted e.on (by omega) fun hun=>?_
    have hm:=Yv.2 ⟨show e.on < ops.size by omega,hun⟩
    rw [hir] at hm
    have hs:=Qp ops.size listed
    rw [hir] at hs
    rcases List.mem_cons.1 hm with he | hm
    ·omega
    ·have:=(List.pairwise_cons.1 hs).1 _ hm
     omega
   rw [hr] at hready
   cases hready
  ·obtain ⟨hun,o,ho,hdeps⟩:=mem_ready.1 hi
   have hin:=(Array.getElem?_eq_some_iff.1 ho).1
   obtain ⟨l1,l2,hsplit⟩:=List.append_of_mem (Yv.2 ⟨hin,hun⟩)
   have hs:=Qp ops.size listed
   rw [hsplit] at hs
   obtain ⟨g,hg1,hg2⟩:=hget i o (by simpa using ho)
   have hbi:bops.getD i ⟨none,.bad,none⟩=⟨o.dst,(cOp P hand draw o).getD .bad,g⟩:=by rw [List.getD_eq_getElem?_getD,hg2]; rfl
   have hcomm:∀ x ∈ l1.map (fun i=>bops.getD i ⟨none,.bad,none⟩),ZfJ x ⟨o.dst,(cOp P hand draw o).getD .bad,g⟩=true:=fun x hx=>by
    obtain ⟨j,hj,rfl⟩:=List.mem_map.1 hx
    have hji:j < i:=(List.pairwise_append.1 hs).2.2 j hj i (List.mem_cons_self ..)
    have hjm:=Yv.1 (show j ∈ Wp ops.size listed by rw [hsplit]; exact List.mem_append_left _ hj)
    have:=hpair i hin j hji
    rw [Bool.or_eq_true] at this
    rcases this with h1 | h1
    ·exfalso
     have h2:=hcl.ready ho hdeps (NH h1)
     rw [GL hjm.2] at h2
     cases h2
    ·rw [hg2] at h1
     split at h1
     ·rename_i x y hx hy
      cases hy
      rw [List.getD_eq_getElem?_getD,hx]
      exact h1
     ·cases h1
   rw [hsplit,List.map_append,List.map_cons,hbi] at h
   obtain ⟨u,hu1,hu2⟩:=bubble Zd1 hcomm h
   rw [← List.map_append,← Jy hsplit (by omega)] at hu2
   have hkk:noHand ((cOp P hand draw o).getD .bad)=true:=hnh _ (List.mem_of_getElem? hg2)
   have hlen2:(Wp ops.size (listed.setIfInBounds i true)).length=fuel:=by
    rw [Jy hsplit (by omega)]
    rw [hsplit] at hl
    simp at hl ⊢
    omega
   unfold wpOp
   simp only [ho]
   exact ZjZ hG hS hkk hg1 hu1 hI fun Γ' a' w' hI'=>ih (by simp [hsz]) (hcl.list ho hdeps) hlen2 hu2 hI'
theorem Zn7 (hG:GOk G E.W0)(hS:ZM P E.W0 call){ops:Array Oper}{o:Oper}{g:Option (Nat×Bool)}{u:Ze}{K:Act→World→Prop}{Q:Exit→Act→World→Prop}(h2:Rq ops o.guard=some g)
  (he:Z5 G call ⟨o.dst,(cOp P hand draw o).getD .bad,g⟩ s=some u) (hI:Inv E s Γ a w) (hK:∀ Γ a w,Inv E u Γ a w→K a w) :
  if Region.wanted o (yielded ops a.tmps)=true then o.wp P a w K Q∨(o.asks P a w∧LetsOut Q) else K (a.put o.dst Go.undef) w:=by
 simp only [Z5] at he
 split at he <;> first | (cases he; done) | skip
 ·rename_i hw
  rw [Qi hI h2 hw]
  split at he <;> first | (cases he; done) | skip
  rename_i v s2 hev
  obtain rfl:=Option.some.inj he
  simp only [if_true]
  refine .inl (Zn5 hG hS hI (QW hev) hev fun Γ' cv w' i1 r1 o1=>?_)
  obtain ⟨Γ2,i2⟩:=i1.put o.dst r1 o1
  exact hK _ _ _ i2
 ·rename_i hw
  rw [Qi hI h2 hw]
  obtain rfl:=Option.some.inj he
  simp only [Bool.false_eq_true,if_false]
  obtain ⟨Γ2,i2⟩:=hI.put o.dst (v := .undef) (cv := Go.undef) .undef (.of_ne (by simp))
  exact hK _ _ _ i2
def Ha (n size:Nat)(listed:Array Bool):List Nat:=(List.range size).filter fun i=>decide (n≤i) && !listed.getD i true
theorem ZgN (n size:Nat)(listed:Array Bool):(Ha n size listed).Pairwise (· < ·):=List.Pairwise.filter _ List.pairwise_lt_range
theorem P9 {n size i:Nat}{listed:Array Bool}:i ∈ Ha n size listed↔i < size∧n≤i∧listed.getD i true=false:=by simp [Ha]
theorem ZgM {n size i:Nat}{listed:Array Bool}(hi:i < n):Ha n size (listed.setIfInBounds i true)=Ha n size listed:=by
 unfold Ha
 refine List.filter_congr fun j _=>?_
 by_cases hj:n≤j
 ·rw [getD_set_ne true (show i≠j by omega)]
 ·simp [hj]
theorem Zqg {n size i:Nat}{listed:Array Bool}(hi:i < listed.size)(hs:i < size)(hn:n≤i)(hun:listed.getD i true=false)(hb:∀ j,n≤j→j < i→listed.getD j true≠false):Ha n size listed=i :: Ha n size (listed.setIfInBounds i true):=by
 have e:Ha n size (listed.setIfInBounds i true)=(Ha n size listed).filter fun j=>decide (j≠i):=by
  unfold Ha
  rw [List.filter_filter]
  refine List.filter_congr fun j _=>?_
  by_cases hji:j=i
  ·subst hji
   have:(listed.setIfInBounds j true).getD j true=true:=by simp [hi]
   simp [this]
  ·rw [getD_set_ne true (Ne.symm hji)]; simp [hji]
 obtain ⟨l1,l2,hsp⟩:=List.append_of_mem (P9.2 ⟨hs,hn,hun⟩)
 have hso:=ZgN n size listed
 rw [hsp] at hso
 have h1:l1=[]:=List.eq_nil_iff_forall_not_mem.2 fun j hj=>by
  have hlt:=(List.pairwise_append.1 hso).2.2 j hj i (List.mem_cons_self ..)
  have hm:=P9.1 (show j ∈ Ha n size listed by rw [hsp]; exact List.mem_append_left _ hj)
  exact hb j hm.2.1 hlt hm.2.2
 subst h1
 rw [e,hsp,List.nil_append,List.filter_cons]
 simp only [ne_eq,not_true_eq_false,decide_false,Bool.false_eq_true,if_false]
 rw [List.filter_eq_self.2 fun j hj=>?_]
 have:=(List.pairwise_cons.1 hso).1 j hj
 have:j≠i:=by omega
 simpa using this
theorem Zsr (hG:GOk G E.W0)(hS:ZM P E.W0 call){ops:Array Oper}{bops:List ZT}{n:Nat}{Q:Exit→Act→World→Prop}{sF:Ze}(hc:XO P hand draw ops ops.toList=some bops)(hd:ZpX ops bops n=true)(hQ:∀ Γ a w,Inv E sF Γ a w→Q .normal a w) :
  ∀ (fuel:Nat) {listed:Array Bool} {s s1:Ze} {Γ:Zx} {a:Act} {w:World},listed.size=ops.size→VB ops listed→(Wp n listed).length + (Ha n ops.size listed).length=fuel →
   ZL G (Qh call) ((Wp n listed).map fun i=>bops.getD i ⟨none,.bad,none⟩) s=some s1→ZL G call ((Ha n ops.size listed).map fun i=>bops.getD i ⟨none,.bad,none⟩) s1=some sF→Inv E s Γ a w→wpAny P .any ops Q fuel listed a w:=by
 simp only [ZpX,Bool.and_eq_true,List.all_eq_true,List.mem_range,decide_eq_true_eq] at hd
 obtain ⟨⟨⟨⟨hord,hnh⟩,hnle⟩,hpin⟩,hpair⟩:=hd
 obtain ⟨hlen,hget⟩:=Xa hc
 intro fuel
 induction fuel with
 | zero =>
  intro listed s s1 Γ a w hsz hcl hl h h' hI
  have hn1:=List.eq_nil_of_length_eq_zero (show (Wp n listed).length=0 by omega)
  have hn2:=List.eq_nil_of_length_eq_zero (show (Ha n ops.size listed).length=0 by omega)
  rw [hn1] at h
  rw [hn2] at h'
  obtain rfl:=Option.some.inj (by simpa [ZL] using h:some s=some s1)
  obtain rfl:=Option.some.inj (by simpa [ZL] using h':some s=some sF)
  refine ⟨List.eq_nil_iff_forall_not_mem.2 fun i hi=>?_,hQ _ _ _ hI⟩
  obtain ⟨k1,o,k2,_⟩:=mem_ready.1 hi
  have hin:=(Array.getElem?_eq_some_iff.1 k2).1
  rcases Nat.lt_or_ge i n with hlt | hge
  ·have:i ∈ Wp n listed:=Yv.2 ⟨hlt,k1⟩
   rw [hn1] at this; cases this
  ·have:i ∈ Ha n ops.size listed:=P9.2 ⟨hin,hge,k1⟩
   rw [hn2] at this; cases this
 | succ fuel ih =>
  intro listed s s1 Γ a w hsz hcl hl h h' hI
  have hlisted:∀ j,j < ops.size→listed.getD j true≠false→listed.getD j false=true:=fun j hj h=>by
   have hj':j < listed.size:=by omega
   simp [hj'] at h ⊢; exact h
  refine ⟨fun hr=>?_,fun i hi=>?_⟩
  ·
   have hex:∃ i,i < ops.size∧listed.getD i true=false∧∀ j,j < i→listed.getD j true≠false:=by
    have hne:∃ i,i < ops.size∧listed.getD i true=false:=by
     cases hx:Wp n listed with
     | cons i r =>
      have:=Yv.1 (show i ∈ Wp n listed by rw [hx]; exact List.mem_cons_self ..)
      exact ⟨i,by omega,this.2⟩
     | nil =>
      cases hy:Ha n ops.size listed with
      | nil=>rw [hx,hy] at hl; simp at hl
      | cons i r =>
       have:=P9.1 (show i ∈ Ha n ops.size listed by rw [hy]; exact List.mem_cons_self ..)
       exact ⟨i,this.1,this.2.2⟩
    obtain ⟨i,h1,h2⟩:=hne
    induction i using Nat.strongRecOn with
    | _ i ihi =>
     by_cases hx:∃ j,j < i∧listed.getD j true=false
     ·obtain ⟨j,hj1,hj2⟩:=hx
      exact ihi j hj1 (by omega) hj2
     ·exact ⟨i,h1,h2,fun j hj hq=>hx ⟨j,hj,hq⟩⟩
   obtain ⟨i,him,hun,hleast⟩:=hex
   have hoi:ops[i]? = some ops[i]:=Array.getElem?_eq_getElem him
   have hready:i ∈ Region.ready .any ops listed:=by
    refine mem_ready.2 ⟨hun,_,hoi,fun e he hb=>?_⟩
    have:=hord i him
    rw [hoi] at this
    have hlt:=Array.all_eq_true'.1 this e he
    rw [hb] at hlt
    simp only [Bool.not_true,Bool.false_or,decide_eq_true_eq] at hlt
    exact hlisted e.on (by omega) (hleast _ hlt)
   rw [hr] at hready
   cases hready
  ·obtain ⟨hun,o,ho,hdeps⟩:=mem_ready.1 hi
   have hin:=(Array.getElem?_eq_some_iff.1 ho).1
   obtain ⟨g,hg1,hg2⟩:=hget i o (by simpa using ho)
   have hbi:bops.getD i ⟨none,.bad,none⟩=⟨o.dst,(cOp P hand draw o).getD .bad,g⟩:=by rw [List.getD_eq_getElem?_getD,hg2]; rfl
   unfold wpOp
   simp only [ho]
   rcases Nat.lt_or_ge i n with hlt | hge
   ·obtain ⟨l1,l2,hsplit⟩:=List.append_of_mem (Yv.2 ⟨hlt,hun⟩)
    have hs:=Qp n listed
    rw [hsplit] at hs
    have hcomm:∀ x ∈ l1.map (fun i=>bops.getD i ⟨none,.bad,none⟩),ZfJ x ⟨o.dst,(cOp P hand draw o).getD .bad,g⟩=true:=fun x hx=>by
     obtain ⟨j,hj,rfl⟩:=List.mem_map.1 hx
     have hji:j < i:=(List.pairwise_append.1 hs).2.2 j hj i (List.mem_cons_self ..)
     have hjm:=Yv.1 (show j ∈ Wp n listed by rw [hsplit]; exact List.mem_append_left _ hj)
     have:=hpair i hlt j hji
     rw [Bool.or_eq_true] at this
     rcases this with h1 | h1
     ·exfalso
      have h2:=hcl.ready ho hdeps (NH h1)
      rw [GL hjm.2] at h2
      cases h2
     ·rw [hg2] at h1
      split at h1
      ·rename_i x y hx hy
       cases hy
       rw [List.getD_eq_getElem?_getD,hx]
       exact h1
      ·cases h1
    rw [hsplit,List.map_append,List.map_cons,hbi] at h
    obtain ⟨u,hu1,hu2⟩:=bubble Zd1 hcomm h
    rw [← List.map_append,← Jy hsplit (by omega)] at hu2
    have hkk:noHand ((cOp P hand draw o).getD .bad)=true:=by
     have hm:(⟨o.dst,(cOp P hand draw o).getD .bad,g⟩:ZT) ∈ bops.take n:=by
      refine List.mem_of_getElem? (i := i) ?_
      rw [List.getElem?_take_of_lt hlt]; exact hg2
     exact hnh _ hm
    rw [← ZgM (size := ops.size) (listed := listed) hlt] at h'
    refine ZjZ hG hS hkk hg1 hu1 hI fun Γ' a' w' hI'=>ih (by simp [hsz]) (hcl.list ho hdeps) ?_ hu2 h' hI'
    rw [Jy hsplit (by omega),ZgM hlt]
    rw [hsplit] at hl
    simp at hl ⊢
    omega
   ·have hall:∀ j,j < i→listed.getD j true≠false:=fun j hj hq=>by
     have hw:AZ ops i j=true:=by
      rcases Bool.or_eq_true _ _ ▸ hpin i hin with h1 | h1
      ·have:i < n:=by simpa using h1
       omega
      ·exact List.all_eq_true.1 h1 j (List.mem_range.2 hj)
     have h2:=hcl.ready ho hdeps (NH hw)
     rw [GL hq] at h2
     cases h2
    have hnil:Wp n listed=[]:=List.eq_nil_iff_forall_not_mem.2 fun j hj=>by
     have:=Yv.1 hj
     exact hall j (by omega) this.2
    have hnil2:Wp n (listed.setIfInBounds i true)=[]:=List.eq_nil_iff_forall_not_mem.2 fun j hj=>by
     have hm:=Yv.1 hj
     rw [getD_set_ne true (show i≠j by omega)] at hm
     exact hall j (by omega) hm.2
    rw [hnil] at h
    obtain rfl:=Option.some.inj (by simpa [ZL] using h:some s=some s1)
    have hon:=Zqg (n := n) (size := ops.size) (listed := listed) (by omega) hin hge hun (fun j _ hj=>hall j hj)
    rw [hon,List.map_cons,hbi] at h'
    simp only [ZL] at h'
    split at h' <;> first | (cases h'; done) | skip
    rename_i u hu
    refine Zn7 hG hS hg1 hu hI fun Γ' a' w' hI'=>ih (s1 := u) (by simp [hsz]) (hcl.list ho hdeps) ?_ (by rw [hnil2]; rfl) h' hI'
    rw [hnil2]
    rw [hnil,hon] at hl
    simp at hl ⊢
    omega
end
end Go.Proofs.YtleomfgijkapfaaGreatDoor.Abs
end
section
namespace Go.Proofs.YtleomfgijkapfaaGreatDoor.Abs
open Go Go.RowKit
section
variable {G:Nat→Option (List AV)}{call:FuncId→List AV→List Z8→Option (AV×List Z8×Eff)}
theorem OX:∀ f args hp v hp' e,Yg call f args hp=some (v,hp',e)→hp'=hp∧e=none:=by
 intro f args hp v hp' e h
 unfold Yg at h
 split at h <;> first | (cases h; done) | skip
 split at h <;> first | (cases h; done) | skip
 split at h <;> first | (cases h; done) | skip
 cases h
 exact ⟨rfl,rfl⟩
theorem ZoF {f:FuncId}{args:List AV}{hp:List Z8}{v:AV}{hp':List Z8}{e:Eff}(h:Yg call f args hp=some (v,hp',e))(h2:List Z8):Yg call f args h2=some (v,h2,none):=by
 unfold Yg at h ⊢
 split at h <;> first | (cases h; done) | skip
 rename_i hb
 rw [if_pos hb]
 split at h <;> first | (cases h; done) | skip
 rename_i hc
 split at h <;> first | (cases h; done) | skip
 cases h
 rfl
def Pfx (h h':List Z8):Prop:=∀ (g:Nat) (o:Z8),h[g]? = some o→h'[g]? = some o
theorem Pfx.take (n:Nat)(h:List Z8):Pfx (h.take n) h:=fun g o hg=>by
 rw [List.getElem?_take] at hg
 split at hg
 ·exact hg
 ·cases hg
theorem Pfx.look {h h':List Z8}(p:Pfx h h'):QM h h':=.of_get fun g cs t hg=>⟨cs,t,p g _ hg,rfl⟩
theorem Pfx.rows {h h':List Z8}(p:Pfx h h'){x:AV}{r:Nat×List (List AV)}(hx:rowsOf h x=some r):rowsOf h' x=some r:=by
 unfold rowsOf at hx ⊢
 split at hx <;> first | exact hx | (cases hx; done) | skip
 split at hx <;> first | (cases hx; done) | skip
 rename_i hg
 rw [p _ _ hg]
 exact hx
theorem Pfx.len {h h':List Z8}(p:Pfx h h'){sh:Zk6}{x v:AV}(hx:Rt h sh x=some v):Rt h' sh x=some v:=by
 unfold Rt at hx ⊢
 split at hx <;> first | exact hx | (cases hx; done) | skip
 split at hx <;> first | (cases hx; done) | skip
 rename_i hg
 rw [p _ _ hg]
 exact hx
theorem Pfx.conv {h h':List Z8}(p:Pfx h h'){c:Conv}{x v:AV}(hx:UB h c x=some v):UB h' c x=some v:=by
 unfold UB at hx ⊢
 split at hx <;> first | exact hx | (cases hx; done) | skip
 split at hx <;> first | (cases hx; done) | skip
 rename_i hg
 rw [p.rows hg]
 exact hx
theorem Zue {ao:AOp}{k:HK}{s:Ze}{v:AV}{s':Ze}(hk:hkind ao=some k)(hk':k=.free∨k=.look∨k=.read)(h:Zj G (Yg call) s ao=some (v,s')){h2:List Z8}(p:Pfx s.hp h2) :
  s'.hp=s.hp∧s'.ef=s.ef∧s'.bs=s.bs∧Zj G (Yg call) { s with hp:=h2 } ao=some (v,{ s' with hp:=h2 }):=by
 have S:=Zn4 OX hk h
 have hst:s'.hp=s.hp∧s'.ef=s.ef:=S.still (by rcases hk' with rfl | rfl | rfl <;> trivial)
 refine ⟨hst.1,hst.2,S.bs,?_⟩
 have fin:Zj G (Yg call) { s with hp:=h2 } ao=some (v,⟨tkF ao s.sl,h2,s.ef,s.bs⟩)→Zj G (Yg call) { s with hp:=h2 } ao=some (v,{ s' with hp:=h2 }):=fun e=>by
  rw [e,← S.sl,← hst.2,← S.bs]
 refine fin ?_
 rcases hk' with rfl | rfl | rfl
 ·exact S.free rfl { s with hp:=h2 } (fun _ _=>rfl)
 ·exact S.look rfl { s with hp:=h2 } (fun _ _=>rfl) p.look
 ·cases ao <;> first | (simp only [hkind,Option.some.injEq,reduceCtorEq] at hk; done) | skip
  case lit e k parts=>cases parts <;> simp [hkind] at hk
  case len sh x =>
   simp only [Zj] at h ⊢
   split at h <;> first | (cases h; done) | skip
   rename_i y hy
   obtain ⟨h1,rfl⟩:=WM h
   simp only [hy,p.len h1,Option.map_some]
   rfl
  case app k b t x =>
   simp only [Zj] at h ⊢
   split at h <;> first | (cases h; done) | skip
   rename_i k' r y h1 h2
   split at h <;> first | (cases h; done) | skip
   rename_i k2 r2 h3
   split at h <;> first | (cases h; done) | skip
   rename_i hc
   cases h
   simp only [h1,h2,p.rows h3]
   rw [if_pos hc]
   rfl
  case appn k b x =>
   simp only [Zj] at h ⊢
   split at h <;> first | (cases h; done) | skip
   rename_i y h2
   split at h <;> first | (cases h; done) | skip
   rename_i k2 r2 h3
   split at h <;> first | (cases h; done) | skip
   rename_i hc
   cases h
   simp only [h2,p.rows h3]
   rw [if_pos hc]
   rfl
  case conv c x =>
   simp only [Zj] at h ⊢
   split at h <;> first | (cases h; done) | skip
   rename_i y hy
   obtain ⟨h1,rfl⟩:=WM h
   simp only [hy,p.conv h1,Option.map_some]
   rfl
  case call f args =>
   simp only [Zj] at h ⊢
   split at h <;> first | (cases h; done) | skip
   rename_i g first caps vs sl hf hv
   split at h <;> first | (cases h; done) | skip
   rename_i u hp' e hc
   obtain ⟨rfl,rfl⟩:=OX _ _ _ _ _ _ hc
   cases h
   have hsl:=S.sl
   simp only at hsl
   simp only [hf,hv,ZoF hc h2,Ze.after]
   rw [hsl]
variable (G call)(base:Nat)(al:List Nat)
def Sm (o:ZT)(s:Ze):Option Ze :=
 match Z5 G (Yg call) o { s with hp:=s.hp.take base } with
 | some s'=>some { s' with hp:=s.hp }
 | none=>none
def ZmV:Option Z8→Bool
 | some .dead=>true
 | _=>false
def Xd (r:Nat)(o:ZT)(s:Ze):Option Ze :=
 if ZmV s.hp[base + r]? = true∧s.bs≤base then
  match o.op with
  | .mk t cells=>some (({ s with hp:=s.hp.set (base + r) (.cells cells t) }:Ze).put o.dst (.ptr (base + r) 0))
  | .box t n x=>match opnd G s.sl x with
   | some v=>if v.cells.length=n∧v.laid=true then some (({ s with hp:=s.hp.set (base + r) (.cells v.cells t) }:Ze).put o.dst (.ptr (base + r) 0)) else none
   | none=>none
  | _=>none
 else none
def Gm (r:Nat)(o:ZT)(s:Ze):Option Ze :=
 match setSlot o with
 | some t=>match s.sl[t]? with
  | some (.ptr g 0)=>if g=base + r∧s.bs≤base then Z5 G (Yg call) o s else none
  | _=>none
 | none=>none
def JW (o:ZT)(s:Ze):Option Ze :=
 match Zck al o with
 | .pre=>Sm G call base o s
 | .at r=>match Vh o with
  | true=>Xd G base r o s
  | false=>Gm G call base r o s
 | .any=>Z5 G (Yg call) o s
def UD:List ZT→Ze→Option Ze
 | [],s=>some s
 | o :: l,s=>match JW G call base al o s with
  | some s'=>UD l s'
  | none=>none
variable {G call base al}
structure Zva (G:Nat→Option (List AV))(call:FuncId→List AV→List Z8→Option (AV×List Z8×Eff))(base:Nat)(al:List Nat)(o:ZT)(s s':Ze)(f:List AV→List AV):Prop where
 loc:NQ (QF o) f
 sl:s'.sl=f s.sl
 bs:s'.bs=s.bs
 ef:s'.ef=s.ef
 pre:Zck al o=.pre→s'.hp=s.hp∧∀ t:Ze,Agree (WL o) s.sl t.sl→t.hp.take base=s.hp.take base→JW G call base al o t=some ⟨f t.sl,t.hp,t.ef,t.bs⟩
 at_:∀ r,Zck al o=.at r→∃ x,s'.hp=s.hp.set (base + r) x∧∀ t:Ze,Agree (WL o) s.sl t.sl→t.hp[base + r]? = s.hp[base + r]?→t.bs=s.bs→JW G call base al o t=some ⟨f t.sl,t.hp.set (base + r) x,t.ef,t.bs⟩
theorem Sz {o:ZT}(h:Zen o=true):∃ k,hkind o.op=some k∧(k=.free∨k=.look∨k=.read):=by
 unfold Zen at h
 split at h <;> first | (cases h; done) | skip
 ·exact ⟨_,by assumption,.inl rfl⟩
 ·exact ⟨_,by assumption,.inr (.inl rfl)⟩
 ·exact ⟨_,by assumption,.inr (.inr rfl)⟩
theorem ZeO {o:ZT}(h:Zck al o=.pre):Zen o=true:=by
 unfold Zck at h
 split at h
 ·split at h
  ·split at h <;> cases h
  ·cases h
 ·split at h
  ·split at h <;> cases h
  ·split at h
   ·assumption
   ·cases h
theorem ZsF {o:ZT}{r:Nat}(h:Zck al o=.at r):(Vh o=true∧∃ d,o.dst=some d∧idx d al=some r)∨(Vh o=false∧∃ t,setSlot o=some t∧idx t al=some r):=by
 unfold Zck at h
 split at h
 ·rename_i h1
  split at h
  ·split at h <;> cases h
   exact .inl ⟨h1,_,by assumption,by assumption⟩
  ·cases h
 ·rename_i h1
  split at h
  ·split at h <;> cases h
   exact .inr ⟨h1,_,by assumption,by assumption⟩
  ·split at h <;> cases h
theorem Zkz {o:ZT}{s s':Ze}(hc:Zck al o≠.any)(h:JW G call base al o s=some s'):∃ f,Zva G call base al o s s' f:=by
 cases hr:Zck al o with
 | any=>exact absurd hr hc
 | pre =>
  obtain ⟨k,hk,hk'⟩:=Sz (ZeO hr)
  have hev:∀ t,JW G call base al o t=Sm G call base o t:=fun t=>by unfold JW; rw [hr]
  rw [hev] at h
  unfold Sm at h
  split at h <;> first | (cases h; done) | skip
  rename_i s1 h1
  obtain rfl:=Option.some.inj h
  obtain ⟨f,S⟩:=ZbC OX hk h1
  have k1:=S.still (by rcases hk' with rfl | rfl | rfl <;> trivial)
  have k2:=S.read (by rcases hk' with rfl | rfl | rfl <;> trivial)
  refine ⟨f,S.loc,S.sl,S.bs,k1.2,fun _=>⟨rfl,fun t ht he=>?_⟩,fun r e=>by rw [hr] at e; cases e⟩
  rw [hev]
  unfold Sm
  rw [k2 { t with hp:=t.hp.take base } ht he]
 | «at» r =>
  have hev:∀ t,JW G call base al o t=(match Vh o with | true=>Xd G base r o t | false=>Gm G call base r o t):=fun t=>by unfold JW; rw [hr]
  rw [hev] at h
  cases hal:Vh o with
  | true =>
   rw [hal] at h
   replace h:Xd G base r o s=some s':=h
   have hg:o.guard=none:=by
    unfold Vh at hal
    split at hal <;> first | (cases hal; done) | assumption
   unfold Xd at h
   split at h <;> first | (cases h; done) | skip
   rename_i hd
   split at h <;> first | (cases h; done) | skip
   ·rename_i t cells hop
    obtain rfl:=Option.some.inj h
    refine ⟨Zbe o.dst (.ptr (base + r) 0),⟨?_,by rw [Yr],by rw [Yr],by rw [Yr],fun e=>(by rw [hr] at e; cases e),fun q e=>?_⟩⟩
    ·have:=(NQ.id (VG o.op)).comp (MW o.dst (.ptr (base + r) 0))
     exact this
    ·rw [hr] at e
     cases e
     refine ⟨.cells cells t,by rw [Yr],fun t' ht he hb=>?_⟩
     rw [hev,hal]
     show Xd G base r o t'=_
     unfold Xd
     rw [he,hb,if_pos hd,hop]
     simp only [Yr,hb]
   ·rename_i t n x hop
    split at h <;> first | (cases h; done) | skip
    rename_i v hv
    split at h <;> first | (cases h; done) | skip
    rename_i hn
    obtain rfl:=Option.some.inj h
    refine ⟨Zbe o.dst (.ptr (base + r) 0),⟨?_,by rw [Yr],by rw [Yr],by rw [Yr],fun e=>(by rw [hr] at e; cases e),fun q e=>?_⟩⟩
    ·have:=(NQ.id (VG o.op)).comp (MW o.dst (.ptr (base + r) 0))
     exact this
    ·rw [hr] at e
     cases e
     refine ⟨.cells v.cells t,by rw [Yr],fun t' ht he hb=>?_⟩
     have hx:opnd G t'.sl x=some v:=by
      rw [← hv]
      refine (Zw (G := G) (x := x) ?_).symm
      exact fun i hi=>ht i (List.mem_append_right _ (by rw [hop]; exact hi))
     rw [hev,hal]
     show Xd G base r o t'=_
     unfold Xd
     rw [he,hb,if_pos hd,hop]
     simp only [hx,Yr,hb]
     rw [if_pos hn]
  | false =>
   rw [hal] at h
   replace h:Gm G call base r o s=some s':=h
   have hev':∀ t,JW G call base al o t=Gm G call base r o t:=fun t=>by rw [hev,hal]
   unfold Gm at h
   split at h <;> first | (cases h; done) | skip
   rename_i q hq
   split at h <;> first | (cases h; done) | skip
   rename_i g hs
   split at h <;> first | (cases h; done) | skip
   rename_i hg
   obtain ⟨rfl,hbs⟩:=hg
   have hgd:o.guard=none:=by
    unfold setSlot at hq
    split at hq <;> first | (cases hq; done) | assumption
   have hw:∀ t,YF t o.guard=some true:=fun t=>by rw [hgd]; rfl
   simp only [Z5,hw] at h
   split at h <;> first | (cases h; done) | skip
   rename_i v s1 he
   obtain rfl:=Option.some.inj h
   have hpt:∀ t:Ze,t.sl[q]? = s.sl[q]?→opnd G t.sl (.tmp q)=some (.ptr (base + r) 0):=fun t e=>by simp only [opnd,e,hs]; rfl
   have hnote:∀ t:Ze,t.bs=s.bs→t.note (base + r) 0=t.ef:=fun t e=>by
    unfold Ze.note
    rw [if_neg (by omega)]
   unfold setSlot at hq
   split at hq <;> first | (cases hq; done) | skip
   ·rename_i n q' x hop _
    obtain rfl:=Option.some.inj hq
    rw [hop] at he
    simp only [Zj,hpt s rfl] at he
    split at he <;> first | (cases he; done) | skip
    rename_i g0 o0 u h1 h2
    cases h1
    split at he <;> first | (cases he; done) | skip
    rename_i cs ty hcs
    split at he <;> first | (cases he; done) | skip
    rename_i hn
    cases he
    refine ⟨Zbe o.dst .undef,⟨?_,by rw [Yr],by rw [Yr],by rw [Yr]; exact hnote s rfl,fun e=>(by rw [hr] at e; cases e),fun q2 e=>?_⟩⟩
    ·have:=(NQ.id (VG o.op)).comp (MW o.dst .undef)
     exact this
    ·rw [hr] at e
     cases e
     refine ⟨.cells (splice cs 0 u.cells) ty,by rw [Yr],fun t' ht he hb=>?_⟩
     have a0:Agree (oR (.tmp q') ++ oR x) s.sl t'.sl:=fun i hi=>ht i (List.mem_append_right _ (by rw [hop]; exact hi))
     have e1:=a0.left q' (.head _)
     rw [hev']
     unfold Gm setSlot
     rw [hop,hgd]
     simp only
     rw [← e1,hs]
     simp only
     rw [if_pos ⟨trivial,by omega⟩]
     simp only [Z5,hw]
     rw [hop]
     simp only [Zj,hpt t' e1.symm,← Zw (G := G) (x := x) a0.right,h2,he,hcs]
     rw [if_pos hn]
     simp only [Yr,hnote t' hb]
   ·rename_i q' x hop _
    obtain rfl:=Option.some.inj hq
    rw [hop] at he
    simp only [Zj,hpt s rfl] at he
    split at he <;> first | (cases he; done) | skip
    rename_i g0 o0 u h1 h2
    cases h1
    split at he <;> first | (cases he; done) | skip
    rename_i cs ty hcs
    split at he <;> first | (cases he; done) | skip
    rename_i hn
    cases he
    have hto:VG o.op=[x]:=by rw [hop]; rfl
    refine ⟨fun l=>Zbe o.dst .undef (l.modify x AV.ro),⟨?_,by rw [Yr]; rfl,by rw [Yr]; rfl,by rw [Yr]; exact hnote s rfl,fun e=>(by rw [hr] at e; cases e),fun q2 e=>?_⟩⟩
    ·have:=(NQ.mod x).comp (MW o.dst .undef)
     unfold QF
     rw [hto]
     exact this
    ·rw [hr] at e
     cases e
     refine ⟨.cells (cs.set 0 u) ty,by rw [Yr],fun t' ht he hb=>?_⟩
     have a0:Agree (x :: oR (.tmp q')) s.sl t'.sl:=fun i hi=>ht i (List.mem_append_right _ (by rw [hop]; exact hi))
     have e1:=a0 q' (.tail _ (.head _))
     have e2:=a0 x (.head _)
     rw [hev']
     unfold Gm setSlot
     rw [hop,hgd]
     simp only
     rw [← e1,hs]
     simp only
     rw [if_pos ⟨trivial,by omega⟩]
     simp only [Z5,hw]
     rw [hop]
     simp only [Zj,hpt t' e1.symm,← e2,h2,he,hcs]
     rw [if_pos hn]
     simp only [Yr,hnote t' hb]
     rfl
theorem ZvU {o1 o2:ZT}{s s1 s2:Ze}(hc:ZkO al o1 o2=true)(h1:JW G call base al o1 s=some s1)(h2:JW G call base al o2 s1=some s2) :
  ∃ u,JW G call base al o2 s=some u∧JW G call base al o1 u=some s2:=by
 simp only [ZkO,Zd9,Bool.and_eq_true] at hc
 obtain ⟨hk,⟨ha,hb⟩,hd⟩:=hc
 have n1:Zck al o1≠.any:=fun e=>by rw [e] at hk; cases hk
 have n2:Zck al o2≠.any:=fun e=>by rw [e] at hk; cases h:Zck al o1 <;> rw [h] at hk <;> cases hk
 obtain ⟨f1,S1⟩:=Zkz n1 h1
 obtain ⟨f2,S2⟩:=Zkz n2 h2
 have A2:Agree (WL o2) s1.sl s.sl:=by rw [S1.sl]; exact (Agree.of_loc S1.loc ha s.sl).symm
 have A1:∀ u:Ze,u.sl=f2 s.sl→Agree (WL o1) s.sl u.sl:=fun u hu=>by rw [hu]; exact Agree.of_loc S2.loc hd s.sl
 have fin:∀ (u:Ze) (hp:List Z8),u.sl=f2 s.sl→u.bs=s.bs→u.ef=s.ef→hp=s2.hp→JW G call base al o1 u=some ⟨f1 u.sl,hp,u.ef,u.bs⟩→JW G call base al o1 u=some s2:=fun u hp e1 e2 e3 e4 h=>by
  rw [h]
  have q1:f1 u.sl=s2.sl:=by rw [e1,S2.sl,S1.sl]; exact S1.loc.swap S2.loc hb s.sl
  have q2:u.bs=s2.bs:=by rw [e2,S2.bs,S1.bs]
  have q3:u.ef=s2.ef:=by rw [e3,S2.ef,S1.ef]
  rw [q1,q2,q3,e4]
 have tk:∀ (h:List Z8) (r:Nat) (x:Z8),(h.set (base + r) x).take base=h.take base:=fun h r x=>by
  rw [List.take_set_of_le (by omega)]
 cases r1:Zck al o1 with
 | any=>exact absurd r1 n1
 | pre =>
  obtain ⟨p1,p2⟩:=S1.pre r1
  cases r2:Zck al o2 with
  | any=>exact absurd r2 n2
  | pre =>
   obtain ⟨p3,p4⟩:=S2.pre r2
   exact ⟨_,p4 s A2 (by rw [p1]),fin _ _ rfl rfl rfl (by rw [p3,p1]) (p2 _ (A1 _ rfl) rfl)⟩
  | «at» r =>
   obtain ⟨x,p3,p4⟩:=S2.at_ r r2
   exact ⟨_,p4 s A2 (by rw [p1]) S1.bs.symm,fin _ _ rfl rfl rfl (by rw [p3,p1]) (p2 _ (A1 _ rfl) (tk _ _ _))⟩
 | «at» r =>
  obtain ⟨x,p1,p2⟩:=S1.at_ r r1
  cases r2:Zck al o2 with
  | any=>exact absurd r2 n2
  | pre =>
   obtain ⟨p3,p4⟩:=S2.pre r2
   exact ⟨_,p4 s A2 (by rw [p1,tk]),fin _ _ rfl rfl rfl (by rw [p3,p1]) (p2 _ (A1 _ rfl) rfl rfl)⟩
  | «at» q =>
   rw [r1,r2] at hk
   have hne:r≠q:=by simpa using hk
   obtain ⟨y,p3,p4⟩:=S2.at_ q r2
   have o1':∀ (h:List Z8) (z:Z8),(h.set (base + r) z)[base + q]? = h[base + q]?:=fun h z=>List.getElem?_set_ne (by omega)
   have o2':∀ (h:List Z8) (z:Z8),(h.set (base + q) z)[base + r]? = h[base + r]?:=fun h z=>List.getElem?_set_ne (by omega)
   exact ⟨_,p4 s A2 (by rw [p1,o1']) S1.bs.symm,fin _ _ rfl rfl rfl (by rw [p3,p1]; exact List.set_comm _ _ (by omega)) (p2 _ (A1 _ rfl) (o2' _ _) rfl)⟩
theorem Zmi {o:ZT}{l2:List ZT}{sF:Ze}:∀ {l1:List ZT} {s:Ze},(∀ x ∈ l1,ZkO al x o=true)→UD G call base al (l1 ++ o :: l2) s=some sF →
  ∃ u,JW G call base al o s=some u∧UD G call base al (l1 ++ l2) u=some sF
 | [],s,_,h=>by
  simp only [List.nil_append,UD] at h
  split at h <;> first | (cases h; done) | skip
  rename_i u hu
  exact ⟨u,hu,h⟩
 | x :: l1,s,hx,h=>by
  simp only [List.cons_append,UD] at h
  split at h <;> first | (cases h; done) | skip
  rename_i s1 h1
  obtain ⟨u1,h2,h3⟩:=Zmi (fun y hy=>hx y (List.mem_cons_of_mem _ hy)) h
  obtain ⟨u,h4,h5⟩:=ZvU (hx x (List.mem_cons_self ..)) h1 h2
  refine ⟨u,h4,?_⟩
  simp only [List.cons_append,UD,h5]
  exact h3
end
section
variable {G:Nat→Option (List AV)}{call:FuncId→List AV→List Z8→Option (AV×List Z8×Eff)}{base:Nat}{al:List Nat}
theorem Zei:∀ {l:List Nat} {k t:Nat},nodupB l=true→l[k]? = some t→idx t l=some k
 | [],k,t,_,h=>by simp at h
 | u :: l,k,t,hn,h=>by
  simp only [nodupB,Bool.and_eq_true,Bool.not_eq_true'] at hn
  unfold idx
  cases k with
  | zero=>simp only [List.getElem?_cons_zero,Option.some.injEq] at h; rw [if_pos h]
  | succ k =>
   simp only [List.getElem?_cons_succ] at h
   have:u≠t:=fun e=>by
    subst e
    have:=List.mem_of_getElem? h
    simp [this] at hn
   rw [if_neg this,Zei hn.2 h]
   rfl
theorem ZmO:∀ {l:List Nat} {k t:Nat},idx t l=some k→l[k]? = some t
 | [],k,t,h=>by cases h
 | u :: l,k,t,h=>by
  unfold idx at h
  split at h
  ·rename_i e
   cases h
   simp [e]
  ·obtain ⟨q,hq,rfl⟩:=Option.map_eq_some_iff.1 h
   simpa using ZmO hq
def Vg (n:Nat):List Z8:=List.replicate n .dead
theorem ZlZ {l m:List Nat}(h:apartB l m=true){t:Nat}(ht:t ∈ m):t ∉ l:=fun hl=>by
 have:=List.all_eq_true.1 h t hl
 simp [ht] at this
theorem Zsp {call:FuncId→List AV→List Z8→Option (AV×List Z8×Eff)}(hq:∀ f args hp v hp' e,call f args hp=some (v,hp',e)→hp'=hp∧e=none){o:ZT}{k:HK}{s s':Ze}(hk:hkind o.op=some k)(h:Z5 G call o s=some s'):s'.bs=s.bs∧∀ t,t ∉ QF o→s'.sl[t]? = s.sl[t]?:=by
 obtain ⟨f,S⟩:=ZbC hq hk h
 exact ⟨S.bs,fun t ht=>by rw [S.sl,S.loc.out _ _ ht]⟩
theorem ZsJ {call:FuncId→List AV→List Z8→Option (AV×List Z8×Eff)}{o:ZT}{s s':Ze}(hk:hkind o.op=some .set)(h:Z5 G call o s=some s'):s'.hp.length=s.hp.length:=by
 simp only [Z5] at h
 split at h <;> first | (cases h; done) | skip
 ·split at h <;> first | (cases h; done) | skip
  rename_i v s1 he
  obtain rfl:=Option.some.inj h
  rw [Yr]
  show s1.hp.length=_
  cases hop:o.op <;> rw [hop] at hk he <;> first | (simp only [hkind,Option.some.injEq,reduceCtorEq] at hk; done) | skip
  case lit e k parts=>cases parts <;> simp [hkind] at hk
  case call f args=>simp only [hkind] at hk; split at hk <;> simp at hk
  all_goals
   simp only [Zj] at he
   repeat' split at he
   all_goals first
    | (cases he; done)
    | (cases he; simp [Ze.let_])
 ·obtain rfl:=Option.some.inj h
  rw [Yr]
theorem sim (hnd:nodupB al=true):∀ {l:List ZT} {k:Nat} {s sF:Ze},Zdt al k l=true→k≤al.length→ZL G (Yg call) l s=some sF→s.bs≤base→s.hp.length=base + k→(∀ (r t:Nat) (v:AV),r < k→al[r]? = some t→s.sl[t]? = some v→v=.ptr (base + r) 0) →
  UD G call base al l { s with hp:=s.hp ++ Vg (al.length - k) } = some sF
 | [],k,s,sF,ho,hk,h,hbs,hl,hs=>by
  simp only [Zdt,beq_iff_eq] at ho
  obtain rfl:=Option.some.inj h
  subst ho
  simp only [UD,Nat.sub_self,Vg,List.replicate_zero,List.append_nil]
 | o :: l,k,s,sF,ho,hk,h,hbs,hl,hs=>by
  simp only [ZL] at h
  split at h <;> first | (cases h; done) | skip
  rename_i s1 h1
  simp only [Zdt] at ho
  cases hal:Vh o with
  | true =>
   rw [hal] at ho
   simp only [Bool.and_eq_true,beq_iff_eq] at ho
   obtain ⟨hd,ho⟩:=ho
   have hg:o.guard=none:=by
    unfold Vh at hal
    split at hal <;> first | (cases hal; done) | assumption
   obtain ⟨t,ht⟩:∃ t,o.dst=some t:=by
    unfold Vh at hal
    split at hal <;> first | (cases hal; done) | exact ⟨_,by assumption⟩
   rw [ht] at hd
   have hkl:k < al.length:=(List.getElem?_eq_some_iff.1 hd.symm).1
   have hcls:Zck al o=.at k:=by
    unfold Zck
    rw [hal,ht]
    simp only
    rw [Zei hnd hd.symm]
   have hdead:({ s with hp:=s.hp ++ Vg (al.length - k) }:Ze).hp[base + k]? = some .dead:=by
    show (s.hp ++ Vg (al.length - k))[base + k]? = _
    rw [List.getElem?_append_right (by omega),hl,Nat.sub_self]
    unfold Vg
    rw [List.getElem?_replicate,if_pos (by omega)]
   have hset:∀ x:Z8,(s.hp ++ Vg (al.length - k)).set (base + k) x=(s.hp ++ [x]) ++ Vg (al.length - (k + 1)):=fun x=>by
    rw [List.set_append_right _ _ (by omega),hl,Nat.sub_self]
    obtain ⟨m,hm⟩:∃ m,al.length - k=m + 1:=⟨al.length - k - 1,by omega⟩
    have:al.length - (k + 1)=m:=by omega
    rw [hm,this]
    simp [Vg,List.replicate_succ]
   have key:∀ x:Z8,s1=({ s with hp:=s.hp ++ [x] }:Ze).put o.dst (.ptr s.hp.length 0)→JW G call base al o { s with hp:=s.hp ++ Vg (al.length - k) } = some (({ s with hp:=(s.hp ++ Vg (al.length - k)).set (base + k) x }:Ze).put o.dst (.ptr (base + k) 0)) →
     UD G call base al (o :: l) { s with hp:=s.hp ++ Vg (al.length - k) } = some sF:=fun x e1 e2=>by
    simp only [UD]
    rw [e2]
    have:=sim hnd (l := l) (k := k + 1) (s := s1) ho hkl h (by rw [e1,ht]; exact hbs) (by rw [e1,ht]; simp [Ze.put,hl]; omega) (fun r q v hr hq hv=>by
     rw [e1,ht] at hv
     simp only [Ze.put] at hv
     by_cases e:r=k
     ·subst e
      rw [← hd] at hq
      cases hq
      rw [List.getElem?_set] at hv
      split at hv
      ·split at hv
       ·rw [← Option.some.inj hv,hl]
       ·cases hv
      ·rename_i ne; exact absurd rfl ne
     ·refine hs r q v (by omega) hq ?_
      rw [List.getElem?_set_ne] at hv
      ·exact hv
      ·intro e'
       subst e'
       have i1:=Zei hnd hq
       rw [Zei hnd hd.symm] at i1
       cases i1
       exact e rfl)
    rw [← this,e1,ht]
    simp only [Ze.put,hset,hl]
   simp only [Z5,hg,YF] at h1
   split at h1 <;> first | (cases h1; done) | skip
   rename_i v s2 hev
   obtain rfl:=Option.some.inj h1
   have hR:JW G call base al o { s with hp:=s.hp ++ Vg (al.length - k) } = Xd G base k o { s with hp:=s.hp ++ Vg (al.length - k) }:=by
    unfold JW
    rw [hcls,hal]
   have hif:ZmV ({ s with hp:=s.hp ++ Vg (al.length - k) }:Ze).hp[base + k]? = true∧({ s with hp:=s.hp ++ Vg (al.length - k) }:Ze).bs≤base:=⟨by rw [hdead]; rfl,hbs⟩
   cases hop:o.op with
   | mk t' cells =>
    rw [hop] at hev
    cases hev
    refine key _ rfl ?_
    rw [hR]
    unfold Xd
    rw [if_pos hif,hop]
   | box t' n x =>
    rw [hop] at hev
    simp only [Zj] at hev
    split at hev <;> first | (cases hev; done) | skip
    rename_i u hu
    split at hev <;> first | (cases hev; done) | skip
    rename_i hn
    cases hev
    refine key _ rfl ?_
    rw [hR]
    unfold Xd
    rw [if_pos hif,hop]
    simp only [hu]
    rw [if_pos hn]
   | _=>unfold Vh at hal; rw [hop] at hal; simp at hal
  | false =>
   rw [hal] at ho
   simp only [Bool.and_eq_true,Bool.or_eq_true] at ho
   obtain ⟨⟨ho1,ho2⟩,ho3⟩:=ho
   have go:∀ q:HK,hkind o.op=some q→s1.hp.length=s.hp.length→JW G call base al o { s with hp:=s.hp ++ Vg (al.length - k) } = some { s1 with hp:=s1.hp ++ Vg (al.length - k) }→UD G call base al (o :: l) { s with hp:=s.hp ++ Vg (al.length - k) } = some sF:=fun q hq hlen e=>by
    obtain ⟨b1,b2⟩:=Zsp OX hq h1
    simp only [UD]
    rw [e]
    refine sim hnd ho3 hk h (by rw [b1]; exact hbs) (by rw [hlen]; exact hl) fun r t v hr ht hv=>hs r t v hr ht ?_
    rw [← b2 t (ZlZ ho2 (List.mem_of_getElem? ht))]
    exact hv
   have pre:∀ q:HK,hkind o.op=some q→(q=.free∨q=.look∨q=.read)→setSlot o=none→(q=.free∨k=0)→UD G call base al (o :: l) { s with hp:=s.hp ++ Vg (al.length - k) } = some sF:=fun q hq hq' hns hk0=>by
    obtain ⟨f,S⟩:=ZbC OX hq h1
    have st:=S.still (by rcases hq' with rfl | rfl | rfl <;> trivial)
    have hcls:Zck al o=.pre:=by
     unfold Zck
     rw [hal]
     simp only
     rw [hns]
     have:Zen o=true:=by unfold Zen; rw [hq]; rcases hq' with rfl | rfl | rfl <;> rfl
     simp [this]
    refine go q hq (by rw [st.1]) ?_
    unfold JW
    rw [hcls]
    simp only
    unfold Sm
    have hrun:Z5 G (Yg call) o { s with hp:=(s.hp ++ Vg (al.length - k)).take base } = some ⟨f s.sl,(s.hp ++ Vg (al.length - k)).take base,s.ef,s.bs⟩:=by
     rcases hk0 with rfl | rfl
     ·exact S.free rfl { s with hp:=(s.hp ++ Vg (al.length - k)).take base } (fun _ _=>rfl)
     ·have:(s.hp ++ Vg (al.length - 0)).take base=s.hp:=by
       rw [List.take_append_of_le_length (by omega),List.take_of_length_le (by omega)]
      rw [this]
      exact S.read (by rcases hq' with rfl | rfl | rfl <;> trivial) s (fun _ _=>rfl) rfl
    have e0:Z5 G (Yg call) o { ({ s with hp:=s.hp ++ Vg (al.length - k) }:Ze) with hp:=({ s with hp:=s.hp ++ Vg (al.length - k) }:Ze).hp.take base } = some ⟨f s.sl,(s.hp ++ Vg (al.length - k)).take base,s.ef,s.bs⟩:=hrun
    rw [e0]
    simp only
    rw [st.1,← S.sl,← st.2,← S.bs]
   rcases ho1 with (ho1 | ho1) | ho1
   ·have hq:hkind o.op=some .free:=by
     unfold ZqD at ho1
     split at ho1
     ·assumption
     ·cases ho1
    refine pre .free hq (.inl rfl) ?_ (.inl rfl)
    unfold setSlot
    split <;> first | rfl | (rename_i hop _; rw [hop] at hq; cases hq)
   ·simp only [beq_iff_eq] at ho1
    obtain ⟨q,hq,hq'⟩:=Sz ho1.1
    refine pre q hq hq' ?_ (.inr ho1.2)
    unfold setSlot
    split <;> first | rfl | (rename_i hop _; rw [hop] at hq; cases hq; rcases hq' with h | h | h <;> cases h)
   ·simp only [beq_iff_eq] at ho1
    obtain ⟨ho1,rfl⟩:=ho1
    have hq:hkind o.op=some .set:=by
     unfold ZtH at ho1
     split at ho1
     ·assumption
     ·cases ho1
    have hnp:Zen o=false:=by unfold Zen; rw [hq]
    refine go .set hq (ZsJ hq h1) ?_
    have e0:∀ x:Ze,({ x with hp:=x.hp ++ Vg (al.length - al.length) }:Ze)=x:=fun x=>by simp [Vg]
    rw [e0 s,e0 s1]
    unfold JW
    cases hc:Zck al o with
    | any=>exact h1
    | pre=>have:=ZeO hc; rw [hnp] at this; cases this
    | «at» r =>
     simp only
     rw [hal]
     rcases ZsF hc with ⟨e,_⟩ | ⟨_,t,ht,hr⟩
     ·rw [hal] at e; cases e
     ·have hget:=ZmO hr
      have hrl:r < al.length:=(List.getElem?_eq_some_iff.1 hget).1
      obtain ⟨v,hv⟩:∃ v,s.sl[t]? = some v:=by
       cases hv:s.sl[t]? with
       | some v=>exact ⟨v,rfl⟩
       | none =>
        exfalso
        have hnone:opnd G s.sl (.tmp t)=none:=by simp only [opnd,hv]; rfl
        simp only [Z5] at h1
        unfold setSlot at ht
        split at ht <;> first | (cases ht; done) | skip
        all_goals
         rename_i hop hgd
         obtain rfl:=Option.some.inj ht
         rw [hgd] at h1
         simp only [YF] at h1
         rw [hop] at h1
         simp only [Zj,hnone] at h1
         cases h1
      have hp:=hs r t v hrl hget hv
      subst hp
      show Gm G call base r o s=some s1
      unfold Gm
      rw [ht]
      simp only
      rw [hv]
      simp only
      rw [if_pos ⟨trivial,hbs⟩]
      exact h1
end
section
variable {P:Program}{G:Nat→Option (List AV)}{call:FuncId→List AV→List Z8→Option (AV×List Z8×Eff)}{E:Entry}{s s':Ze}{Γ:Zx}{a:Act}{w:World}{hand:Nat→Bool}{draw:Bool}{o:Oper}{base:Nat}{al:List Nat}
theorem Zgi {ao:AOp}(h:(cOp P hand draw o).getD .bad=ao)(hb:ao≠.bad):cOp P hand draw o=some ao:=by
 cases hc:cOp P hand draw o with
 | none=>rw [hc] at h; exact absurd h.symm hb
 | some x=>rw [hc] at h; exact congrArg some h
theorem Ztp {t:TypeId}{cells:List AV}(h:cOp P hand draw o=some (.mk t cells)):∃ z,o.op=.alloc t∧Zhq P t=some z∧z.cells.all AV.one=true∧cells=z.cells:=by
 unfold cOp at h
 repeat' split at h
 all_goals first
  | (cases h; done)
  | (obtain ⟨_,_,e⟩:=Option.map_eq_some_iff.1 h; cases e; done)
  | (cases h; exact ⟨_,by assumption,by assumption,by assumption,rfl⟩)
theorem Zrp {t:TypeId}{n:Nat}{x:Yf}(h:cOp P hand draw o=some (.box t n x)):∃ x',o.op=.box t x'∧ZI P t x'=some x:=by
 unfold cOp at h
 repeat' split at h
 all_goals first
  | (cases h; done)
  | (obtain ⟨_,h1,e⟩:=Option.map_eq_some_iff.1 h; cases e; exact ⟨_,by assumption,h1⟩)
  | (obtain ⟨_,h1,e⟩:=Option.map_eq_some_iff.1 h; cases e; done)
theorem ZjD (hI:Inv E s Γ a w){e:TypeId}{v:AV}{cv:Value}{n:Nat}(hd:s.hp[n]? = some .dead)(hb:s.bs≤n)(hr:Rep Γ w v cv)(hl:v.laid=true)(hn:∀ k r,v=.own k r→r=[]∧cv=.slice none 0 0) :
  Inv E { s with hp:=s.hp.set n (.cells v.cells e) } (FI Γ w.heap.size (.own n)) a (w.alloc (.cells cv.cells e))∧Rep (FI Γ w.heap.size (.own n)) (w.alloc (.cells cv.cells e)) (.ptr n 0) (.pointer (some ⟨w.heap.size,0,none⟩)):=by
 obtain ⟨a1,a2⟩:=hr.cellsRep hl hn
 have st:=XT hI.rw.fresh (.cells cv.cells e) (.own n)
 refine ⟨hI.fill _ _ hd hb ⟨w.heap.size,cv.cells,Y2 _ _ _,heap_alloc_new w _,a1,fun i c hc=>?_⟩,.ptr _ _ _ (Y2 _ _ _)⟩
 obtain ⟨b1,b2,b3⟩:=a2 i c hc
 exact ⟨b1,b2.mono st.fix st.own,.nil b3⟩
theorem ZrO (hG:GOk G E.W0)(hI:Inv E s Γ a w){g:Option (Nat×Bool)}{r:Nat}{u:Ze}(he:Xd G base r ⟨o.dst,(cOp P hand draw o).getD .bad,g⟩ s=some u){K:Act→World→Prop}{Q:Exit→Act→World→Prop}(hK:∀ Γ a w,Inv E u Γ a w→K a w) :
  o.wp P a w K Q:=by
 unfold Xd at he
 split at he <;> first | (cases he; done) | skip
 rename_i hd
 obtain ⟨hd,hbs⟩:=hd
 have hd':s.hp[base + r]? = some .dead:=by
  unfold ZmV at hd
  split at hd
  ·assumption
  ·cases hd
 split at he <;> first | (cases he; done) | skip
 ·rename_i t cells hop
  obtain rfl:=Option.some.inj he
  obtain ⟨z,h1,h2,h3,rfl⟩:=Ztp (Zgi hop (by nofun))
  obtain ⟨i,zv,hi,hzv,hrep⟩:=Zci h2
  obtain ⟨k1,k2⟩:=hrep Γ w
  obtain ⟨i1,i2⟩:=ZjD hI (e := t) hd' (by omega) k1 (BB h3) k2
  have hrun:(execOp a.eval o).run P w=.ok (.value (.pointer (some ⟨w.heap.size,0,none⟩))) (w.alloc (.cells zv.cells t)):=by
   simp only [execOp,h1]
   simp [Instr.alloc,zeroValue,typeInfo,hi,hzv,newVar,newRow]
  unfold Oper.wp
  rw [hrun]
  obtain ⟨Γ2,j2⟩:=i1.put o.dst i2 (.of_ne (by simp))
  exact hK _ _ _ j2
 ·rename_i t n x hop
  split at he <;> first | (cases he; done) | skip
  rename_i v hv
  split at he <;> first | (cases he; done) | skip
  rename_i hl
  obtain rfl:=Option.some.inj he
  obtain ⟨x',h1,h2⟩:=Zrp (Zgi hop (by nofun))
  obtain ⟨k1,k2⟩:=Zp hG hI h2 hv
  obtain ⟨i1,i2⟩:=ZjD hI (e := t) hd' (by omega) k1 hl.2 k2
  have hrun:(execOp a.eval o).run P w=.ok (.value (.pointer (some ⟨w.heap.size,0,none⟩))) (w.alloc (.cells (a.eval x').cells t)):=by
   simp only [execOp,h1]
   simp [Instr.box,newVar,newRow]
  unfold Oper.wp
  rw [hrun]
  obtain ⟨Γ2,j2⟩:=i1.put o.dst i2 (.of_ne (by simp))
  exact hK _ _ _ j2
theorem Ze5 (hG:GOk G E.W0)(hS:ZM P E.W0 call){ops:Array Oper}{g:Option (Nat×Bool)}{u:Ze}{K:Act→World→Prop}{Q:Exit→Act→World→Prop}(h2:Rq ops o.guard=some g)
  (he:Z5 G call ⟨o.dst,(cOp P hand draw o).getD .bad,g⟩ s=some u) (hI:Inv E s Γ a w) (hK:∀ Γ a w,Inv E u Γ a w→K a w) :
  if Region.wanted o (yielded ops a.tmps)=true then o.wp P a w K Q∨(o.asks P a w∧LetsOut Q) else K (a.put o.dst Go.undef) w:=by
 simp only [Z5] at he
 split at he <;> first | (cases he; done) | skip
 ·rename_i hw
  rw [Qi hI h2 hw]
  split at he <;> first | (cases he; done) | skip
  rename_i v s2 hev
  obtain rfl:=Option.some.inj he
  simp only [if_true]
  refine .inl (Zn5 hG hS hI (QW hev) hev fun Γ' cv w' i1 r1 o1=>?_)
  obtain ⟨Γ2,i2⟩:=i1.put o.dst r1 o1
  exact hK _ _ _ i2
 ·rename_i hw
  rw [Qi hI h2 hw]
  obtain rfl:=Option.some.inj he
  simp only [Bool.false_eq_true,if_false]
  obtain ⟨Γ2,i2⟩:=hI.put o.dst (v := .undef) (cv := Go.undef) .undef (.of_ne (by simp))
  exact hK _ _ _ i2
theorem ZpH (hG:GOk G E.W0)(hS:ZM P E.W0 (Yg call)){ops:Array Oper}{g:Option (Nat×Bool)}{u:Ze}{K:Act→World→Prop}{Q:Exit→Act→World→Prop}(h2:Rq ops o.guard=some g)
  (he:JW G call base al ⟨o.dst,(cOp P hand draw o).getD .bad,g⟩ s=some u) (hI:Inv E s Γ a w) (hK:∀ Γ a w,Inv E u Γ a w→K a w) :
  if Region.wanted o (yielded ops a.tmps)=true then o.wp P a w K Q∨(o.asks P a w∧LetsOut Q) else K (a.put o.dst Go.undef) w:=by
 unfold JW at he
 split at he
 ·
  rename_i hc
  obtain ⟨k,hk,hk'⟩:=Sz (ZeO hc)
  refine Ze5 (hand := hand) (draw := draw) hG hS h2 ?_ hI hK
  unfold Sm at he
  split at he <;> first | (cases he; done) | skip
  rename_i s1 h1
  obtain rfl:=Option.some.inj he
  show Z5 G (Yg call) ⟨o.dst,(cOp P hand draw o).getD .bad,g⟩ s=_
  simp only [Z5] at h1 ⊢
  have wg:∀ h,YF { s with hp:=h } g=YF s g:=fun h=>by cases g <;> rfl
  rw [wg] at h1
  split at h1 <;> first | (cases h1; done) | skip
  ·rename_i hw
   split at h1 <;> first | (cases h1; done) | skip
   rename_i v s2 hev
   obtain rfl:=Option.some.inj h1
   obtain ⟨e1,e2,e3,e4⟩:=Zue hk hk' hev (Pfx.take base s.hp)
   have e4':Zj G (Yg call) s ((cOp P hand draw o).getD .bad)=some (v,{ s2 with hp:=s.hp }):=e4
   rw [e4']
   simp only [Yr]
  ·rename_i hw
   obtain rfl:=Option.some.inj h1
   simp only [Yr]
 ·
  split at he
  ·rename_i hal
   have hg:g=none:=by
    unfold Vh at hal
    split at hal <;> first | (cases hal; done) | assumption
   subst hg
   have hw:Region.wanted o (yielded ops a.tmps)=true:=Qi hI h2 (b := true) rfl
   rw [hw]
   simp only [if_true]
   exact .inl (ZrO hG hI he hK)
  ·unfold Gm at he
   split at he <;> first | (cases he; done) | skip
   split at he <;> first | (cases he; done) | skip
   split at he <;> first | (cases he; done) | skip
   exact Ze5 hG hS h2 he hI hK
 ·exact Ze5 hG hS h2 he hI hK
theorem ZpL (hG:GOk G E.W0)(hS:ZM P E.W0 (Yg call)){ops:Array Oper}{bops:List ZT}{Q:Exit→Act→World→Prop}{sF:Ze}(hc:XO P hand draw ops ops.toList=some bops)
  (hord:∀ i,i < ops.size→(match ops[i]? with | some o=>o.after.all fun e=>!Region.binds .any e || decide (e.on < i) | none=>false)=true)
  (hpair:∀ i,i < ops.size→∀ j,j < i→(AZ ops i j || (match bops[j]?,bops[i]? with | some x,some y=>ZkO al x y | _,_=>false))=true) (hQ:∀ Γ a w,Inv E sF Γ a w→Q .normal a w) :
  ∀ (fuel:Nat) {listed:Array Bool} {s:Ze} {Γ:Zx} {a:Act} {w:World},listed.size=ops.size→VB ops listed→(Wp ops.size listed).length=fuel→UD G call base al ((Wp ops.size listed).map fun i=>bops.getD i ⟨none,.bad,none⟩) s=some sF→Inv E s Γ a w→wpAny P .any ops Q fuel listed a w:=by
 obtain ⟨hlen,hget⟩:=Xa hc
 intro fuel
 induction fuel with
 | zero =>
  intro listed s Γ a w hsz hcl hl h hI
  have hn:=List.eq_nil_of_length_eq_zero hl
  rw [hn] at h
  obtain rfl:=Option.some.inj (by simpa [UD] using h:some s=some sF)
  refine ⟨List.eq_nil_iff_forall_not_mem.2 fun i hi=>?_,hQ _ _ _ hI⟩
  obtain ⟨h1,o,h2,_⟩:=mem_ready.1 hi
  have:i ∈ Wp ops.size listed:=Yv.2 ⟨(Array.getElem?_eq_some_iff.1 h2).1,h1⟩
  rw [hn] at this
  cases this
 | succ fuel ih =>
  intro listed s Γ a w hsz hcl hl h hI
  have hlisted:∀ j,j < ops.size→listed.getD j true≠false→listed.getD j false=true:=fun j hj h=>by
   have hj':j < listed.size:=by omega
   simp [hj'] at h ⊢; exact h
  refine ⟨fun hr=>?_,fun i hi=>?_⟩
  ·obtain ⟨i,r,hir⟩:∃ i r,Wp ops.size listed=i :: r:=by
    cases hx:Wp ops.size listed with
    | nil=>rw [hx] at hl; cases hl
    | cons i r=>exact ⟨i,r,rfl⟩
   have him:=Yv.1 (show i ∈ Wp ops.size listed by rw [hir]; exact List.mem_cons_self ..)
   have hoi:ops[i]? = some ops[i]:=Array.getElem?_eq_getElem him.1
   have hready:i ∈ Region.ready .any ops listed:=by
    refine mem_ready.2 ⟨him.2,_,hoi,fun e he hb=>?_⟩
    have:=hord i him.1
    rw [hoi] at this
    have hlt:=Array.all_eq_true'.1 this e he
    rw [hb] at hlt
    simp only [Bool.not_true,Bool.false_or,decide_eq_true_eq] at hlt
    refine hlisted e.on (by omega) fun hun=>?_
    have hm:=Yv.2 ⟨show e.on < ops.size by omega,hun⟩
    rw [hir] at hm
    have hs:=Qp ops.size listed
    rw [hir] at hs
    rcases List.mem_cons.1 hm with he | hm
    ·omega
    ·have:=(List.pairwise_cons.1 hs).1 _ hm
     omega
   rw [hr] at hready
   cases hready
  ·obtain ⟨hun,o,ho,hdeps⟩:=mem_ready.1 hi
   have hin:=(Array.getElem?_eq_some_iff.1 ho).1
   obtain ⟨l1,l2,hsplit⟩:=List.append_of_mem (Yv.2 ⟨hin,hun⟩)
   have hs:=Qp ops.size listed
   rw [hsplit] at hs
   obtain ⟨g,hg1,hg2⟩:=hget i o (by simpa using ho)
   have hbi:bops.getD i ⟨none,.bad,none⟩=⟨o.dst,(cOp P hand draw o).getD .bad,g⟩:=by rw [List.getD_eq_getElem?_getD,hg2]; rfl
   have hcomm:∀ x ∈ l1.map (fun i=>bops.getD i ⟨none,.bad,none⟩),ZkO al x ⟨o.dst,(cOp P hand draw o).getD .bad,g⟩=true:=fun x hx=>by
    obtain ⟨j,hj,rfl⟩:=List.mem_map.1 hx
    have hji:j < i:=(List.pairwise_append.1 hs).2.2 j hj i (List.mem_cons_self ..)
    have hjm:=Yv.1 (show j ∈ Wp ops.size listed by rw [hsplit]; exact List.mem_append_left _ hj)
    have:=hpair i hin j hji
    rw [Bool.or_eq_true] at this
    rcases this with h1 | h1
    ·exfalso
     have h2:=hcl.ready ho hdeps (NH h1)
     rw [GL hjm.2] at h2
     cases h2
    ·rw [hg2] at h1
     split at h1
     ·rename_i x y hx hy
      cases hy
      rw [List.getD_eq_getElem?_getD,hx]
      exact h1
     ·cases h1
   rw [hsplit,List.map_append,List.map_cons,hbi] at h
   obtain ⟨u,hu1,hu2⟩:=Zmi hcomm h
   rw [← List.map_append,← Jy hsplit (by omega)] at hu2
   have hlen2:(Wp ops.size (listed.setIfInBounds i true)).length=fuel:=by
    rw [Jy hsplit (by omega)]
    rw [hsplit] at hl
    simp at hl ⊢
    omega
   unfold wpOp
   simp only [ho]
   exact ZpH hG hS hg1 hu1 hI fun Γ' a' w' hI'=>ih (by simp [hsz]) (hcl.list ho hdeps) hlen2 hu2 hI'
theorem Inv.keepFree (h:Inv E s Γ a w)(n:Nat):Inv E { s with hp:=s.hp ++ Vg n } Γ a w:=by
 refine ⟨h.defers,h.slots,⟨fun g o hg=>?_,h.rw.inj,h.rw.fresh,fun b g hb=>?_,h.rw.old,h.rw.oldImm,fun g hg b hb=>?_⟩,h.fr,h.base,h.base2,?_,h.back⟩
 ·rw [List.getElem?_append] at hg
  split at hg
  ·exact h.rw.objs g o hg
  ·have:=List.eq_of_mem_replicate (List.mem_of_getElem? hg)
   subst this
   trivial
 ·have:=h.rw.lt b g hb
  simp only [List.length_append]
  omega
 ·have:=h.rw.lt b g hb
  rw [List.getElem?_append_left this] at hg
  exact h.rw.dead g hg b hb
 ·have:=h.le
  simp only [List.length_append]
  omega
theorem Zey (hG:GOk G E.W0)(hS:ZM P E.W0 (Yg call)){ops:Array Oper}{bops:List ZT}{Q:Exit→Act→World→Prop}{sF:Ze}(hc:XO P hand draw ops ops.toList=some bops)(hd:Za3 ops bops=true)(hQ:∀ Γ a w,Inv E sF Γ a w→Q .normal a w)
  (h:ZL G (Yg call) bops s=some sF) (hI:Inv E s Γ a w):wpAny P .any ops Q ops.size (Array.replicate ops.size false) a w:=by
 simp only [Za3,Bool.and_eq_true,List.all_eq_true,List.mem_range] at hd
 obtain ⟨⟨⟨⟨hord,_⟩,hok⟩,hnd⟩,hpair⟩:=hd
 have hr:Wp ops.size (Array.replicate ops.size false)=List.range ops.size:=by
  unfold Wp
  refine List.filter_eq_self.2 fun i hi=>?_
  simp only [List.mem_range] at hi
  simp [hi]
 have hmap:(List.range ops.size).map (fun i=>bops.getD i ⟨none,.bad,none⟩)=bops:=by
  have hl:ops.size=bops.length:=by simpa using (Xa hc).1
  rw [hl]
  refine List.ext_getElem? fun i=>?_
  rw [List.getElem?_map]
  by_cases hi:i < bops.length
  ·rw [List.getElem?_range hi,Option.map_some,List.getD_eq_getElem?_getD,List.getElem?_eq_getElem hi]; rfl
  ·rw [List.getElem?_eq_none (by simpa using hi),List.getElem?_eq_none (by omega)]; rfl
 have hs:=sim (base := s.hp.length) hnd hok (Nat.zero_le _) h hI.le rfl (fun r t v hr=>absurd hr (Nat.not_lt_zero _))
 exact ZpL hG hS hc hord hpair hQ ops.size (by simp) (.start ops _) (by rw [hr]; simp) (by rw [hr,hmap]; exact hs) (hI.keepFree _)
end
end Go.Proofs.YtleomfgijkapfaaGreatDoor.Abs
end
section
namespace Go.Proofs.YtleomfgijkapfaaGreatDoor.Abs
open Go Go.RowKit
section
variable {P:Program}{G:Nat→Option (List AV)}{call:FuncId→List AV→List Z8→Option (AV×List Z8×Eff)}{E:Entry}{s s':Ze}{Γ:Zx}{a:Act}{w:World}{hand:Nat→Bool}{draw:Bool}
def Ends (E:Entry)(r:Hr×Ze)(e:Exit)(a:Act)(w:World):Prop :=
 (match r.1,e with
  | .normal,.normal=>True
  | .exit i,.exit j=>i=j
  | .ret,.ret=>True
  | _,_=>False)∧∃ Γ,Inv E r.2 Γ a w
theorem Ends.normal {s:Ze}{Γ:Zx}{a:Act}{w:World}(h:Inv E s Γ a w):Ends E (.normal,s) .normal a w:=⟨trivial,Γ,h⟩
theorem ZhL {c:Code}{f:Ze→Option (Hr×Ze)}(ih:∀ {s:Ze} {r:Hr×Ze} {Γ:Zx} {a:Act} {w:World},f s=some r→Inv E s Γ a w→c.wp P (Ends E r) a w) :
  ∀ (n:Nat) {s:Ze} {r:Hr×Ze} {Γ:Zx} {a:Act} {w:World},iter f n s=some r→Inv E s Γ a w→Code.rounds P c (Ends E r) n a w
 | 0,_,_,_,_,_,h,_=>by cases h
 | n + 1,s,r,Γ,a,w,h,hI=>by
  rw [rounds_succ]
  simp only [iter] at h
  split at h
  ·rename_i s1 h1
   refine Go.wp_mono (ih h1 hI) fun e a' w' he=>?_
   obtain ⟨k1,Γ',i1⟩:=he
   cases e <;> first | exact k1.elim | skip
   exact ZhL ih n h i1
  ·rename_i hne
   refine Go.wp_mono (ih h hI) fun e a' w' he=>?_
   cases e <;> first | exact he | skip
   obtain ⟨k1,_⟩:=he
   obtain ⟨x,s1⟩:=r
   cases x <;> first | exact k1.elim | skip
   exact absurd h (hne s1)
theorem Zry (hm:P.follows .mixedOrders=true)(hG:GOk G E.W0)(hS:ZM P E.W0 call)(hB:ZM P E.W0 (Yg call)){takes:FuncId→List Nat}{res:List Nat}(L:Nat):∀ {c:Code} {ac:JC} {s:Ze} {r:Hr×Ze} {Γ:Zx} {a:Act} {w:World},
  L6 P takes res c=some ac→Z9 G call L ac s=some r→Inv E s Γ a w→c.wp P (Ends E r) a w:=by
 intro c
 induction c with
 | skip =>
  intro ac s r Γ a w hc h hI
  cases hc; cases h
  exact Go.wp_skip (.normal hI)
 | region id ops draw =>
  intro ac s r Γ a w hc h hI
  cases draw with
  | false =>
   simp only [L6] at hc
   obtain ⟨aops,h1,rfl⟩:=Option.map_eq_some_iff.1 hc
   simp only [Z9] at h
   obtain ⟨s1,h2,rfl⟩:=Option.map_eq_some_iff.1 h
   refine wp_region ?_
   rw [List.range_eq_range']
   have:=Zka hG hS (Q := Ends E (.normal,s1)) 0 (l := ops.toList) (by simp) h1 h2 hI fun Γ a w h=>.normal h
   simpa using this
  | true =>
   simp only [L6] at hc
   split at hc <;> first | (cases hc; done) | skip
   rename_i aops bops h1 h1'
   split at hc
   ·rename_i hq
    simp only [Bool.and_eq_true] at hq
    cases hc
    generalize BJ ops ops.size=n at *
    simp only [Z9] at h
    have hl:ops.size=bops.length:=by simpa using (Xa h1').1
    have hnle:n≤ops.size:=by
     have:=hq.2
     simp only [ZpX,Bool.and_eq_true,decide_eq_true_eq] at this
     exact this.1.1.2
    cases h2:ZL G (Qh call) (bops.take n) s with
    | none=>rw [h2] at h; simp at h
    | some s1 =>
     rw [h2] at h
     simp only [Option.map_some] at h
     obtain ⟨s2,h3,rfl⟩:=Option.map_eq_some_iff.1 h
     refine wp_region_any hm ?_
     have hb:Behind w { w with drawn:=w.drawn + 1 }:=⟨rfl,rfl,rfl,Nat.le_refl _,fun _ _=>rfl⟩
     have hrep:∀ i,i < ops.size→(Array.replicate ops.size false).getD i true=false:=fun i hi=>by simp [hi]
     have hr:Wp n (Array.replicate ops.size false)=List.range n:=by
      unfold Wp
      refine List.filter_eq_self.2 fun i hi=>?_
      simp only [List.mem_range] at hi
      rw [hrep i (by omega)]; rfl
     have hr2:Ha n ops.size (Array.replicate ops.size false)=(List.range ops.size).drop n:=by
      unfold Ha
      rw [show (List.range ops.size)=List.range n ++ (List.range ops.size).drop n from by
       rw [show List.range n=(List.range ops.size).take n from by rw [List.take_range,Nat.min_eq_left hnle],List.take_append_drop]]
      rw [List.filter_append,List.filter_eq_nil_iff.2 (fun i hi=>by
       simp only [List.mem_range] at hi
       have:¬ n≤i:=by omega
       simp [this]),List.nil_append]
      rw [List.drop_append_of_le_length (by simp),show (List.range n).drop n=[] from by simp,List.nil_append]
      refine List.filter_eq_self.2 fun i hi=>?_
      obtain ⟨k,hk⟩:=List.mem_iff_getElem?.1 hi
      rw [List.getElem?_drop] at hk
      have hlt:=(List.getElem?_eq_some_iff.1 hk).1
      rw [List.getElem?_range (by simpa using hlt)] at hk
      cases hk
      simp only [List.length_range] at hlt
      rw [hrep _ hlt]; simp
     have hmap:(List.range ops.size).map (fun i=>bops.getD i ⟨none,.bad,none⟩)=bops:=by
      rw [hl]
      refine List.ext_getElem? fun i=>?_
      rw [List.getElem?_map]
      by_cases hi:i < bops.length
      ·rw [List.getElem?_range hi,Option.map_some,List.getD_eq_getElem?_getD,List.getElem?_eq_getElem hi]; rfl
      ·rw [List.getElem?_eq_none (by simpa using hi),List.getElem?_eq_none (by omega)]; rfl
     refine Zsr hG hS (n := n) (Q := Ends E (.normal,s2)) h1' hq.2 (fun Γ a w h=>.normal h) ops.size (s1 := s1) (by simp) (.start ops _) (by rw [hr,hr2]; simp; omega) ?_ ?_ (hb.inv hI)
     ·rw [hr,show List.range n=(List.range ops.size).take n from by rw [List.take_range,Nat.min_eq_left hnle],List.map_take,hmap]; exact h2
     ·rw [hr2,List.map_drop,hmap]; exact h3
   split at hc
   ·rename_i hd
    rw [Bool.and_eq_true] at hd
    cases hc
    simp only [Z9] at h
    obtain ⟨s1,h2,rfl⟩:=Option.map_eq_some_iff.1 h
    refine wp_region_any hm ?_
    have hb:Behind w { w with drawn:=w.drawn + 1 }:=⟨rfl,rfl,rfl,Nat.le_refl _,fun _ _=>rfl⟩
    exact Zey hG hB (Q := Ends E (.normal,s1)) h1' hd.2 (fun Γ a w h=>.normal h) h2 (hb.inv hI)
   split at hc
   ·rename_i hq
    simp only [Bool.and_eq_true] at hq
    cases hc
    simp only [Z9] at h
    obtain ⟨s1,h2,rfl⟩:=Option.map_eq_some_iff.1 h
    refine wp_region_quiet (C := Behind w) hm hq.1 ⟨rfl,rfl,rfl,Nat.le_refl _,fun _ _=>rfl⟩ ?_
    exact ZaZ hG hS h1 hq.2 h2 hI fun Γ a w h=>.normal h
   ·split at hc
    ·rename_i hd
     cases hc
     simp only [Z9] at h
     obtain ⟨s1,h2,rfl⟩:=Option.map_eq_some_iff.1 h
     refine wp_region_any hm ?_
     have hb:Behind w { w with drawn:=w.drawn + 1 }:=⟨rfl,rfl,rfl,Nat.le_refl _,fun _ _=>rfl⟩
     have hr:Wp ops.size (Array.replicate ops.size false)=List.range ops.size:=by
      unfold Wp
      refine List.filter_eq_self.2 fun i hi=>?_
      simp only [List.mem_range] at hi
      simp [hi]
     have hmap:(List.range ops.size).map (fun i=>bops.getD i ⟨none,.bad,none⟩)=bops:=by
      have hl:ops.size=bops.length:=by simpa using (Xa h1').1
      rw [hl]
      refine List.ext_getElem? fun i=>?_
      rw [List.getElem?_map]
      by_cases hi:i < bops.length
      ·rw [List.getElem?_range hi,Option.map_some,List.getD_eq_getElem?_getD,List.getElem?_eq_getElem hi]; rfl
      ·rw [List.getElem?_eq_none (by simpa using hi),List.getElem?_eq_none (by omega)]; rfl
     exact Zsq hG hS (Q := Ends E (.normal,s1)) h1' hd (fun Γ a w h=>.normal h) ops.size (by simp) (.start ops _) (by rw [hr]; simp) (by rw [hr,hmap]; exact h2) (hb.inv hI)
    ·split at hc
     ·rename_i hd
      cases hc
      simp only [Z9] at h
      obtain ⟨s1,h2,rfl⟩:=Option.map_eq_some_iff.1 h
      refine wp_region_any hm ?_
      have hb:Behind w { w with drawn:=w.drawn + 1 }:=⟨rfl,rfl,rfl,Nat.le_refl _,fun _ _=>rfl⟩
      exact Zey hG hB (Q := Ends E (.normal,s1)) h1' hd (fun Γ a w h=>.normal h) h2 (hb.inv hI)
     ·cases hc; cases h
 | seq x y ihx ihy =>
  intro ac s r Γ a w hc h hI
  simp only [L6] at hc
  split at hc <;> first | (cases hc; done) | skip
  rename_i ax ay hx hy
  obtain rfl:=Option.some.inj hc
  simp only [Z9] at h
  refine Go.wp_seq ?_
  split at h
  ·rename_i s1 h1
   refine Go.wp_mono (ihx hx h1 hI) fun e a' w' he=>?_
   obtain ⟨k1,Γ',i1⟩:=he
   cases e <;> first | exact k1.elim | skip
   exact ihy hy h i1
  ·rename_i hne
   refine Go.wp_mono (ihx hx h hI) fun e a' w' he=>?_
   cases e <;> first | exact he | skip
   obtain ⟨k1,_⟩:=he
   obtain ⟨q,s1⟩:=r
   cases q <;> first | exact k1.elim | skip
   exact absurd h (hne s1)
 | cond c x y ihx ihy =>
  intro ac s r Γ a w hc h hI
  simp only [L6] at hc
  split at hc <;> first | (cases hc; done) | skip
  rename_i c' ax ay hcc hx hy
  obtain rfl:=Option.some.inj hc
  simp only [Z9] at h
  split at h <;> first | (cases h; done) | skip
  ·rename_i hb
   have k:=(Zp hG hI hcc hb).1
   generalize hq:a.eval c=q at k
   cases k
   exact Go.wp_cond_true hq (ihx hx h hI)
  ·rename_i hb
   have k:=(Zp hG hI hcc hb).1
   generalize hq:a.eval c=q at k
   cases k
   exact Go.wp_cond_false hq (ihy hy h hI)
 | block id c ih =>
  intro ac s r Γ a w hc h hI
  simp only [L6] at hc
  obtain ⟨ax,hx,rfl⟩:=Option.map_eq_some_iff.1 hc
  simp only [Z9] at h
  refine Go.wp_block ?_
  split at h
  ·rename_i i s1 h1
   split at h
   ·rename_i hi
    obtain rfl:=Option.some.inj h
    refine Go.wp_mono (ih hx h1 hI) fun e a' w' he=>?_
    obtain ⟨k1,Γ',i1⟩:=he
    cases e <;> first | exact k1.elim | skip
    rename_i j
    simp only [Exit.inBlock]
    rw [if_pos (by rw [← hi]; exact (show i=j from k1).symm)]
    exact .normal i1
   ·rename_i hi
    obtain rfl:=Option.some.inj h
    refine Go.wp_mono (ih hx h1 hI) fun e a' w' he=>?_
    obtain ⟨k1,Γ',i1⟩:=he
    cases e <;> first | exact k1.elim | skip
    rename_i j
    simp only [Exit.inBlock]
    rw [if_neg (by rw [← (show i=j from k1)]; exact hi)]
    exact ⟨k1,Γ',i1⟩
  ·rename_i hne
   refine Go.wp_mono (ih hx h hI) fun e a' w' he=>?_
   cases e <;> first | exact he | skip
   obtain ⟨k1,_⟩:=he
   obtain ⟨q,s1⟩:=r
   cases q <;> first | exact k1.elim | skip
   exact absurd h (hne _ s1)
 | loop c ih =>
  intro ac s r Γ a w hc h hI
  simp only [L6] at hc
  obtain ⟨ax,hx,rfl⟩:=Option.map_eq_some_iff.1 hc
  simp only [Z9] at h
  exact wp_loop_rounds L (ZhL (fun h1 h2=>ih hx h1 h2) L h hI)
 | scope c ih =>
  intro ac s r Γ a w hc h hI
  simp only [L6] at hc
  obtain ⟨ax,hx,rfl⟩:=Option.map_eq_some_iff.1 hc
  simp only [Z9] at h
  refine Go.wp_scope_straight (Go.wp_mono (ih hx h hI) fun e a' w' he=>?_)
  cases e <;> first | exact he | skip
  obtain ⟨k1,_⟩:=he
  obtain ⟨q,s1⟩:=r
  cases q <;> exact k1.elim
 | exit id =>
  intro ac s r Γ a w hc h hI
  cases hc; cases h
  exact Go.wp_exit ⟨rfl,Γ,hI⟩
 | ret =>
  intro ac s r Γ a w hc h hI
  cases hc; cases h
  exact Go.wp_ret ⟨trivial,Γ,hI⟩
 | label l =>
  intro ac s r Γ a w hc h hI
  cases hc; cases h
  exact Go.wp_label (.normal hI)
 | _ =>
  intro ac s r Γ a w hc h
  cases hc; cases h
end
end Go.Proofs.YtleomfgijkapfaaGreatDoor.Abs
end
section
namespace Go.Proofs.YtleomfgijkapfaaGreatDoor.Abs
open Go Go.RowKit
section
variable {P:Program}{G:Nat→Option (List AV)}{E:Entry}{s:Ze}{Γ:Zx}{a:Act}{w:World}
def Zbq (tmps:Array Value):ResultVar→Sem Value
 | .tmp t=>pure (tmps.getD t Go.undef)
 | .cell x t=>do loadVar t (← asAddr (tmps.getD x Go.undef))
def packed:List Value→Value
 | [v]=>v
 | vs=>.tuple vs.toArray
theorem Zbr {fn:Func}{tmps:Array Value}{vs:List Value}(h:(fn.results.toList.mapM (Zbq tmps)).run P w=.ok vs w):(results fn tmps).run P w=.ok (packed vs) w:=by
 have e0:results fn tmps=(do let vs ← fn.results.mapM (Zbq tmps); pure (if h:vs.size=1 then vs[0] else .tuple vs)):=by
  unfold results
  congr 1
 rw [e0]
 obtain ⟨l,hl⟩:∃ l,fn.results=⟨l⟩:=⟨fn.results.toList,rfl⟩
 rw [hl] at h ⊢
 have e:((⟨l⟩:Array ResultVar).mapM (Zbq tmps)).run P w=.ok vs.toArray w:=by
  rw [List.mapM_toArray,map_eq_pure_bind,Sem.run_bind,h]
  rfl
 rw [Sem.run_bind,e]
 simp only [Result.andThen_ok,Sem.run_pure]
 cases vs with
 | nil=>rfl
 | cons v vs=>cases vs <;> rfl
theorem res_one (hI:Inv E s Γ a w){r:ResultVar}{ar:Zhr}{v:AV}(hc:Zve P r=some ar)(h:PW s ar=some v) :
  ∃ cv,(Zbq a.tmps r).run P w=.ok cv w∧Rep Γ w v cv∧((∃ t,cv=a.tmps.getD t Go.undef∧s.sl[t]? = some v)∨∀ k r,v≠.own k r):=by
 cases r with
 | tmp t =>
  obtain rfl:=Option.some.inj hc
  exact ⟨a.tmps.getD t Go.undef,rfl,hI.slots.rep t v h,.inl ⟨t,rfl,h⟩⟩
 | cell t ty =>
  simp only [Zve] at hc
  split at hc
  ·rename_i hag
   obtain rfl:=Option.some.inj hc
   simp only [PW] at h
   split at h <;> first | (cases h; done) | skip
   rename_i x hx
   obtain ⟨b,off,cv,e,hl,hcell,hr,hn⟩:=Zng hI (hI.slots.rep t x hx) h
   have hu:=ZaJ hag
   obtain ⟨i,hi⟩:=info_of_underlying hu
   have hld:=run_loadCells_list (P := P) w ⟨b,off,none⟩ cv (fun j y hj=>by rw [add_lit]; exact hcell j y hj)
   rw [hl] at hld
   refine ⟨_,?_,hr,.inr hn⟩
   simp only [Zbq,e]
   simp [asAddr,loadVar,GM hag hu,ZO hi,hld]
  ·rename_i hag
   split at hc <;> first | (cases hc; done) | skip
   rename_i hu
   obtain rfl:=Option.some.inj hc
   simp only [PW] at h
   split at h <;> first | (cases h; done) | skip
   rename_i x hx
   obtain ⟨b,off,cv,e,hcell,hr,hn⟩:=Zni hI (hI.slots.rep t x hx) h
   refine ⟨cv,?_,hr,.inr hn⟩
   simp only [Zbq,e]
   simp [asAddr,loadVar,GM (by simpa using hag) hu,hcell]
theorem Zoa (hI:Inv E s Γ a w):∀ {rs:List ResultVar} {ars:List Zhr} {vs:List AV},ZfE P rs=some ars→Gt s ars=some vs →
  ∃ cvs:List Value,(rs.mapM (Zbq a.tmps)).run P w=.ok cvs w∧cvs.length=vs.length∧ars.length=rs.length∧∀ (j:Nat) (x:AV),vs[j]? = some x→∃ u,cvs[j]? = some u∧Rep Γ w x u
 | [],ars,vs,hc,h=>by
  cases hc; cases h
  exact ⟨[],rfl,rfl,rfl,fun j x hx=>by simp at hx⟩
 | r :: rs,ars,vs,hc,h=>by
  simp only [ZfE] at hc
  split at hc <;> first | (cases hc; done) | skip
  rename_i ar l h1 h2
  obtain rfl:=Option.some.inj hc
  simp only [Gt] at h
  split at h <;> first | (cases h; done) | skip
  rename_i v vs' h3 h4
  obtain rfl:=Option.some.inj h
  obtain ⟨cv,e1,r1,_⟩:=res_one hI h1 h3
  obtain ⟨cvs,e2,e3,e4,e5⟩:=Zoa hI h2 h4
  refine ⟨cv :: cvs,?_,by simp [e3],by simp [e4],fun j x hx=>?_⟩
  ·rw [List.mapM_cons]
   simp only [Sem.run_bind,e1,Result.andThen_ok,e2]
   rfl
  ·cases j with
   | zero=>obtain rfl:=Option.some.inj hx; exact ⟨cv,rfl,r1.nm⟩
   | succ j =>
    obtain ⟨u,hu,hr⟩:=e5 j x (by simpa using hx)
    exact ⟨u,by simpa using hu,hr⟩
theorem ZqV (hI:Inv E s Γ a w){fn:Func}{rs:List Zhr}{v:AV}(hc:ZfE P fn.results.toList=some rs)(h:X4 s rs=some v) :
  ∃ cv Γ',(results fn a.tmps).run P w=.ok cv w∧RW E.W0 Γ' w s.hp∧Frame E.Γ0 E.w0 Γ' w s.ef∧Rep Γ' w v cv∧OwnAt Γ' w .res v cv∧∀ b g,Γ' b=.own g→g < s.bs→E.Γ0 b=.own g:=by
 have many:∀ vs,Gt s rs=some vs→v=.tup vs→rs.length≠1→∃ cv Γ',(results fn a.tmps).run P w=.ok cv w∧RW E.W0 Γ' w s.hp∧Frame E.Γ0 E.w0 Γ' w s.ef∧Rep Γ' w v cv∧OwnAt Γ' w .res v cv∧∀ b g,Γ' b=.own g→g < s.bs→E.Γ0 b=.own g:=by
  intro vs hvs hv hne
  obtain ⟨cvs,e2,e3,e4,e5⟩:=Zoa hI hc hvs
  have hr:=Zbr e2
  have hvl:vs.length=rs.length:=by
   clear hc e2 e3 e4 e5 hr hv hne h
   induction rs generalizing vs with
   | nil=>cases hvs; rfl
   | cons r rs ih =>
    simp only [Gt] at hvs
    split at hvs <;> first | (cases hvs; done) | skip
    rename_i h1 h2
    obtain rfl:=Option.some.inj hvs
    simp [ih _ h2]
  subst hv
  refine ⟨.tuple cvs.toArray,Γ,?_,hI.rw,hI.fr,.tup vs _ (by simpa using e3) (fun j x hx=>?_),.of_ne (by simp),hI.back⟩
  ·rw [hr]
   cases cvs with
   | nil=>rfl
   | cons u cvs =>
    cases cvs with
    | nil=>simp at e3; omega
    | cons _ _=>rfl
  ·obtain ⟨u,hu,hr⟩:=e5 j x hx
   rw [Array.getD_eq_getD_getElem?,List.getElem?_toArray,hu]
   exact hr
 cases rs with
 | nil =>
  simp only [X4] at h
  obtain ⟨vs,hvs,e⟩:=Option.map_eq_some_iff.1 h
  exact many vs hvs e.symm (by simp)
 | cons r rs =>
  cases rs with
  | cons r' rs =>
   simp only [X4] at h
   obtain ⟨vs,hvs,e⟩:=Option.map_eq_some_iff.1 h
   exact many vs hvs e.symm (by simp)
  | nil =>
   simp only [X4] at h
   cases hl:fn.results.toList with
   | nil=>rw [hl] at hc; cases hc
   | cons q qs =>
    rw [hl] at hc
    simp only [ZfE] at hc
    split at hc <;> first | (cases hc; done) | skip
    rename_i ar l h1 h2
    obtain ⟨rfl,rfl⟩:=List.cons.inj (Option.some.inj hc)
    have hqs:qs=[]:=by
     cases qs with
     | nil=>rfl
     | cons _ _ =>
      simp only [ZfE] at h2
      split at h2 <;> simp at h2
    subst hqs
    obtain ⟨cv,e1,r1,hown⟩:=res_one hI h1 h
    have hrun:=Zbr (fn := fn) (tmps := a.tmps) (P := P) (w := w) (vs := [cv]) (by
     rw [hl,List.mapM_cons]
     simp only [Sem.run_bind,e1,Result.andThen_ok]
     rfl)
    rcases hown with ⟨t,rfl,ht⟩ | hn
    ·obtain ⟨Γ',i1,r1,o1⟩:=hI.take t ht
     exact ⟨_,Γ',hrun,i1.rw,i1.fr,r1,o1,i1.back⟩
    ·exact ⟨_,Γ,hrun,hI.rw,hI.fr,r1,.of_ne hn,hI.back⟩
end
end Go.Proofs.YtleomfgijkapfaaGreatDoor.Abs
end
section
namespace Go.Proofs.YtleomfgijkapfaaGreatDoor.Abs
open Go Go.RowKit
def YS (bs:Nat):Kind→Kind
 | .own g=>if g < bs then .own g else .imm
 | .list n (.cell g i)=>if g < bs then .list n (.cell g i) else .imm
 | k=>k
theorem GG {bs o:Nat}{k:Kind}(h:Qk o k):Qk o (YS bs k):=by
 cases k with
 | imm=>trivial
 | own g=>exact h.elim
 | list m l =>
  cases l <;> simp only [YS] <;> first | exact h | skip
  split
  ·exact h
  ·trivial
theorem Qz {bs g:Nat}{k:Kind}(h:YS bs k=.own g):k=.own g∧g < bs:=by
 cases k with
 | imm=>cases h
 | own g' =>
  simp only [YS] at h
  split at h
  ·rename_i hl; cases h; exact ⟨rfl,hl⟩
  ·cases h
 | list m l =>
  cases l <;> simp only [YS] at h <;> first | (cases h; done) | skip
  split at h <;> cases h
theorem P8 {α β:Type}{f:α→Option β}:∀ {l:List α} {r:List β},l.mapM f=some r→r.length=l.length∧∀ (j:Nat) (y:β),r[j]? = some y→∃ x,l[j]? = some x∧f x=some y
 | [],r,h=>by
  simp only [List.mapM_nil] at h
  obtain rfl:=Option.some.inj h
  exact ⟨rfl,fun j y hy=>by simp at hy⟩
 | x :: l,r,h=>by
  rw [List.mapM_cons] at h
  cases hx:f x with
  | none=>rw [hx] at h; cases h
  | some y =>
   cases hl:l.mapM f with
   | none=>rw [hx,hl] at h; cases h
   | some ys =>
    rw [hx,hl] at h
    obtain rfl:=Option.some.inj h
    obtain ⟨e1,e2⟩:=P8 hl
    refine ⟨by simp [e1],fun j z hz=>?_⟩
    cases j with
    | zero=>obtain rfl:=Option.some.inj hz; exact ⟨x,rfl,hx⟩
    | succ j =>
     obtain ⟨x',h1,h2⟩:=e2 j z (by simpa using hz)
     exact ⟨x',by simpa using h1,h2⟩
section
variable {W0 w:World}{Γ Γ':Zx}{hp:List Z8}{bs:Nat}
theorem BC {x:AV}{v:Value}(hf:Yd Γ w Γ' w)(h:Rep Γ w x v)(hn:x.noId1=true):Rep Γ' w x.ro v:=(h.noId hf hn).ro
theorem OwnAt.fix {w':World}{l l':Loc}{x:AV}{v:Value}(hf:Yd Γ w Γ' w')(hb:∀ b n,Γ b=.list n l→Γ' b=.list n l'∧w'.heap[b]? = w.heap[b]?)(h:OwnAt Γ w l x v):OwnAt Γ' w' l' x v:=by
 intro k rows e
 rcases h k rows e with h | ⟨b,cap,e,cur,hv,hg,hh,h1,h2,h3,h4,h5⟩
 ·exact .inl h
 ·obtain ⟨g1,g2⟩:=hb b _ hg
  exact .inr ⟨b,cap,e,cur,hv,g1,g2.trans hh,h1,h2,h3,h4,fun i j r c a1 a2=>⟨(h5 i j r c a1 a2).1,(h5 i j r c a1 a2).2.noId hf (h5 i j r c a1 a2).1⟩⟩
theorem Zef (hr:RW W0 Γ w hp):∀ (d:Nat) {v v':AV} {cv:Value},Zfq bs hp d v=some v'→Rep Γ w v cv→Rep (fun b=>YS bs (Γ b)) w v' cv∧(∀ k r,v'≠.own k r)∧(v.one=true→v'.one=true):=by
 have hf:Yd Γ w (fun b=>YS bs (Γ b)) w:=fun _ _ _ h1 h2=>⟨GG h1,h2⟩
 have hown:∀ b g,Γ b=.own g→g < bs→YS bs (Γ b)=.own g:=fun b g h hg=>by simp [h,YS,hg]
 intro d
 induction d with
 | zero =>
  intro v v' cv h hv
  cases v <;> simp only [Zfq] at h
  case arr g off len k =>
   split at h <;> first | (cases h; done) | skip
   rename_i hg
   obtain rfl:=Option.some.inj h
   cases hv with
   | arr _ _ _ _ cap b hb hc=>exact ⟨.arr _ _ _ _ cap b (hown b g hb hg) hc,by simp,fun h=>h⟩
  case ptr g o =>
   split at h <;> first | (cases h; done) | skip
   rename_i hg
   obtain rfl:=Option.some.inj h
   cases hv with
   | ptr _ _ b hb=>exact ⟨.ptr _ _ b (hown b g hb hg),by simp,fun h=>h⟩
  case map g =>
   split at h <;> first | (cases h; done) | skip
   rename_i hg
   obtain rfl:=Option.some.inj h
   cases hv with
   | map _ b hb=>exact ⟨.map _ b (hown b g hb hg),by simp,fun h=>h⟩
  case agg=>cases h
  case tup=>cases h
  case fn f a cs =>
   split at h <;> first | (cases h; done) | skip
   rename_i hg
   obtain rfl:=Option.some.inj h
   refine ⟨?_,by simp,fun h=>h⟩
   have:=hv.noId hf (by simpa [AV.noId1] using hg)
   obtain ⟨rfl,rfl⟩:a=[]∧cs=[]:=by simpa using hg
   exact this
  case undef=>cases h; cases hv; exact ⟨.undef,by simp [AV.ro],fun h=>h⟩
  all_goals
   obtain rfl:=Option.some.inj h
   exact ⟨BC hf hv rfl,fun _ _=>Xy,fun h=>by rw [PL]; exact h⟩
 | succ d ih =>
  intro v v' cv h hv
  cases v <;> simp only [Zfq] at h
  case arr g off len k =>
   split at h
   ·rename_i hg
    obtain rfl:=Option.some.inj h
    cases hv with
    | arr _ _ _ _ cap b hb hc=>exact ⟨.arr _ _ _ _ cap b (hown b g hb hg) hc,by simp,fun h=>h⟩
   ·rename_i hg
    split at h <;> first | (cases h; done) | skip
    rename_i cs t hobj
    split at h <;> first | (cases h; done) | skip
    rename_i hfit
    obtain ⟨cs',h1,h2⟩:=Option.bind_eq_some_iff.1 h
    split at h2 <;> first | (cases h2; done) | skip
    rename_i hid
    obtain rfl:=Option.some.inj h2
    obtain ⟨m1,m2⟩:=P8 h1
    cases hv with
    | arr _ _ _ _ cap b hb hc =>
     obtain ⟨b',C,o1,o2,o3,o4⟩:=hr.objs g _ hobj
     obtain rfl:=hr.inj b b' g hb o1
     have hlen:cs'.length=len * k:=by rw [m1]; simp; omega
     have hrow:∀ (i:Nat) (r:List AV),(chunk k len cs')[i]? = some r→i < len∧r.length=k∧∀ (j:Nat) (c:AV),r[j]? = some c→j < k∧cs'[i * k + j]? = some c:=by
      intro i r hi
      have hil:=Zm hi
      rw [XQ] at hil
      have he:=Za2 k len _ i r hi
      have hle:(i + 1) * k≤len * k:=Nat.mul_le_mul_right k hil
      rw [Nat.add_mul,Nat.one_mul] at hle
      refine ⟨hil,by rw [he]; simp; omega,fun j c hj=>?_⟩
      rw [he,List.getElem?_take] at hj
      split at hj
      ·rename_i hjk
       refine ⟨hjk,?_⟩
       rw [List.getElem?_drop] at hj
       exact hj
      ·cases hj
     have hcell:∀ (p:Nat) (c:AV),cs'[p]? = some c→off + p < C.size∧Rep (fun b=>YS bs (Γ b)) w c (C.getD (off + p) Go.undef)∧c.noId1=true:=by
      intro p c hp
      obtain ⟨x,x1,x2⟩:=m2 p c hp
      have hpl:=Zm hp
      rw [List.getElem?_take,if_pos (by omega),List.getElem?_drop] at x1
      obtain ⟨_,q2,_⟩:=o4 _ x x1
      exact ⟨by omega,(ih x2 q2).1,List.all_eq_true.1 hid c (List.mem_of_getElem? hp)⟩
     refine ⟨?_,by simp,fun _=>rfl⟩
     have hl:(chunk k len cs').length=len:=XQ k len cs'
     have key:=Rep.lst (Γ := fun b=>YS bs (Γ b)) (w := w) k (chunk k len cs') b off cap (fun i j=>C.getD (off + (i * k + j)) Go.undef) (by rw [hl]; exact hc) (fun r hr=>?_) (fun i j r c hi hj=>?_) (fun i j r c hi hj=>?_)
     ·rw [hl] at key; exact key
     ·obtain ⟨i,hi⟩:=List.mem_iff_getElem?.1 hr
      exact (hrow i r hi).2.1
     ·obtain ⟨_,_,h3⟩:=hrow i r hi
      obtain ⟨_,h4⟩:=h3 j c hj
      obtain ⟨q1,q2,q3⟩:=hcell _ c h4
      refine ⟨?_,?_,q3⟩
      ·rw [cell_of_row w b _ C t (0,0) o2]
       exact Y1 q1
      ·show Qk _ (YS bs (Γ b))
       rw [hb]
       simp only [YS,if_neg hg]
       trivial
     ·obtain ⟨_,_,h3⟩:=hrow i r hi
      obtain ⟨_,h4⟩:=h3 j c hj
      exact (hcell _ c h4).2.1
  case ptr g o =>
   split at h <;> first | (cases h; done) | skip
   rename_i hg
   obtain rfl:=Option.some.inj h
   cases hv with
   | ptr _ _ b hb=>exact ⟨.ptr _ _ b (hown b g hb hg),by simp,fun h=>h⟩
  case map g =>
   split at h <;> first | (cases h; done) | skip
   rename_i hg
   obtain rfl:=Option.some.inj h
   cases hv with
   | map _ b hb=>exact ⟨.map _ b (hown b g hb hg),by simp,fun h=>h⟩
  case agg=>cases h
  case tup=>cases h
  case fn f a cs =>
   split at h <;> first | (cases h; done) | skip
   rename_i hg
   obtain rfl:=Option.some.inj h
   refine ⟨?_,by simp,fun h=>h⟩
   have:=hv.noId hf (by simpa [AV.noId1] using hg)
   obtain ⟨rfl,rfl⟩:a=[]∧cs=[]:=by simpa using hg
   exact this
  case undef=>cases h; cases hv; exact ⟨.undef,by simp [AV.ro],fun h=>h⟩
  all_goals
   obtain rfl:=Option.some.inj h
   exact ⟨BC hf hv rfl,fun _ _=>Xy,fun h=>by rw [PL]; exact h⟩
theorem Sr (hr:RW W0 Γ w hp){v v':AV}{cv:Value}(h:ZlO bs hp v=some v')(hv:Rep Γ w v cv):Rep (fun b=>YS bs (Γ b)) w v' cv∧∀ k r,v'≠.own k r:=by
 unfold ZlO at h
 split at h
 ·rename_i cs
  obtain ⟨cs',h1,rfl⟩:=Option.map_eq_some_iff.1 h
  obtain ⟨m1,m2⟩:=P8 h1
  cases hv with
  | agg _ u hs k1 kn kr =>
   refine ⟨.agg cs' u (by rw [hs,m1]) (fun j c hc=>?_) (fun j k r hc=>?_) (fun j c hc=>?_),by simp⟩
   ·obtain ⟨x,x1,x2⟩:=m2 j c hc
    exact (Zef hr 4 x2 (kr j x x1)).2.2 (k1 j x x1)
   ·obtain ⟨x,x1,x2⟩:=m2 j _ hc
    exact absurd rfl ((Zef hr 4 x2 (kr j x x1)).2.1 k r)
   ·obtain ⟨x,x1,x2⟩:=m2 j c hc
    exact (Zef hr 4 x2 (kr j x x1)).1
 ·obtain ⟨h1,h2,_⟩:=Zef hr 4 h hv
  exact ⟨h1,h2⟩
theorem ZqA (hr:RW W0 Γ w hp){v v':AV}{cv:Value}(h:frz bs hp v=some v')(hv:Rep Γ w v cv)(ho:OwnAt Γ w .res v cv):Rep (fun b=>YS bs (Γ b)) w v' cv∧OwnAt (fun b=>YS bs (Γ b)) w .res v' cv:=by
 have hf:Yd Γ w (fun b=>YS bs (Γ b)) w:=fun _ _ _ h1 h2=>⟨GG h1,h2⟩
 unfold frz at h
 split at h
 ·rename_i vs
  obtain ⟨vs',h1,rfl⟩:=Option.map_eq_some_iff.1 h
  obtain ⟨m1,m2⟩:=P8 h1
  cases hv with
  | tup _ u hs kr =>
   refine ⟨.tup vs' u (by rw [hs,m1]) fun j c hc=>?_,.of_ne (by simp)⟩
   obtain ⟨x,x1,x2⟩:=m2 j c hc
   exact (Sr hr x2 (kr j x x1)).1
 ·obtain rfl:=Option.some.inj h
  exact ⟨hv.noId hf rfl,ho.fix hf fun b n hb=>⟨by simp [hb,YS],rfl⟩⟩
 ·obtain ⟨h1,h2⟩:=Sr hr h hv
  exact ⟨h1,.of_ne h2⟩
theorem Zca {x:AV}{cv:Value}(hx:x.under1 bs=true)(hv:Rep Γ w x cv):Rep (fun b=>YS bs (Γ b)) w x cv:=by
 have hf:Yd Γ w (fun b=>YS bs (Γ b)) w:=fun _ _ _ h1 h2=>⟨GG h1,h2⟩
 have hown:∀ b g,Γ b=.own g→g < bs→YS bs (Γ b)=.own g:=fun b g h hg=>by simp [h,YS,hg]
 unfold AV.under1 at hx
 split at hx
 ·cases hv with
  | arr _ _ _ _ cap b hb hc=>exact .arr _ _ _ _ cap b (hown b _ hb (by simpa using hx)) hc
 ·cases hv with
  | ptr _ _ b hb=>exact .ptr _ _ b (hown b _ hb (by simpa using hx))
 ·cases hv with
  | map _ b hb=>exact .map _ b (hown b _ hb (by simpa using hx))
 ·exact hv.noId hf hx
theorem Zqr {x:AV}{cv:Value}(hx:x.under bs=true)(hv:Rep Γ w x cv):Rep (fun b=>YS bs (Γ b)) w x cv:=by
 unfold AV.under at hx
 split at hx
 ·simp only [Bool.and_eq_true,List.all_eq_true] at hx
  cases hv with
  | fn f a cs u v hs1 hr1 hs hr=>exact .fn _ _ _ u v hs1 (fun j c hc=>Zca (hx.1 c (List.mem_of_getElem? hc)) (hr1 j c hc)) hs (fun j c hc=>Zca (hx.2 c (List.mem_of_getElem? hc)) (hr j c hc))
 ·exact Zca hx hv
theorem ZaE {s:Ze}{Γ0:Zx}{w0:World}{hp0:List Z8}{v:AV}{cv:Value}{v':AV}{hp':List Z8}{e':Eff}(h0:RW W0 Γ0 w0 hp0)(hbs:s.bs=hp0.length)(hle:s.bs≤s.hp.length)(base:∀ b n g i,Γ0 b=.list n (.cell g i)→g < s.bs)
  (hr:RW W0 Γ w s.hp) (hfr:Frame Γ0 w0 Γ w s.ef) (hbk:∀ b g,Γ b=.own g→g < s.bs→Γ0 b=.own g) (hv:Rep Γ w v cv) (ho:OwnAt Γ w .res v cv) {keep:Bool} (h:(if keep then (v.nm,s.hp,s.ef) else finish v s hp0)=(v',hp',e')) :
  ∃ Γ',RW W0 Γ' w hp'∧Rep Γ' w v' cv∧OwnAt Γ' w .res v' cv∧Frame Γ0 w0 Γ' w e'∧hp0.length≤hp'.length∧∀ b g,Γ' b=.own g→g < hp0.length→Γ0 b=.own g:=by
 have hf:Yd Γ w (fun b=>YS s.bs (Γ b)) w:=fun _ _ _ h1 h2=>⟨GG h1,h2⟩
 have asis:(v.nm,s.hp,s.ef)=(v',hp',e')→∃ Γ',RW W0 Γ' w hp'∧Rep Γ' w v' cv∧OwnAt Γ' w .res v' cv∧Frame Γ0 w0 Γ' w e'∧hp0.length≤hp'.length∧∀ b g,Γ' b=.own g→g < hp0.length→Γ0 b=.own g:=by
  intro e
  cases e
  exact ⟨Γ,hr,hv.nm,.of_ne fun _ _=>GU,hfr,by omega,fun b g hb hl=>hbk b g hb (by omega)⟩
 have base1:∀ b g,Γ0 b=.own g→g < s.bs:=fun b g hb=>by rw [hbs]; exact h0.lt b g hb
 have same0:∀ b,b < w0.heap.size→Kept s.ef (Γ0 b)→YS s.bs (Γ b)=Γ0 b∧w.heap[b]? = w0.heap[b]?:=fun b hb hk=>by
  obtain ⟨e1,e2⟩:=hfr.keep b hb hk
  refine ⟨?_,e2⟩
  rw [e1]
  cases hg:Γ0 b with
  | imm=>rfl
  | own g=>simp [YS,base1 b g hg]
  | list n l =>
   cases l with
   | cell g i=>simp [YS,base b n g i hg]
   | _=>rfl
 have fr:Frame Γ0 w0 (fun b=>YS s.bs (Γ b)) w s.ef :=
  ⟨hfr.os,hfr.tape,hfr.output,hfr.size,hfr.fix.trans hf,fun b g hb=>by simp [hfr.own b g hb,YS,base1 b g hb],same0⟩
 have inj':∀ b b' g,YS s.bs (Γ b)=.own g→YS s.bs (Γ b')=.own g→b=b':=fun b b' g h1 h2=>hr.inj b b' g (Qz h1).1 (Qz h2).1
 have imm':∀ b,Γ b=.imm→YS s.bs (Γ b)=.imm:=fun b hb=>by rw [hb]; rfl
 split at h
 ·exact asis h
 unfold finish at h
 split at h
 case h_2=>exact asis h
 rename_i u hu
 obtain ⟨r1,r2⟩:=ZqA hr hu hv ho
 split at h
 ·rename_i he
  cases h
  rw [he] at fr
  refine ⟨_,⟨fun g o hg=>?_,inj',fun b hb=>imm' b (hr.fresh b hb),fun b g hb=>by rw [← hbs]; exact (Qz hb).2,hr.old,fun b hb=>imm' b (hr.oldImm b hb),fun g hg b hb=>h0.dead g hg b (hbk b g (Qz hb).1 (Qz hb).2)⟩,r1,r2,fr,Nat.le_refl _,fun b g hb hl=>hbk b g (Qz hb).1 (Qz hb).2⟩
  refine (h0.objs g o hg).step (X := fun b=>¬ Kept none (Γ0 b)) ⟨fr.os,fr.tape,fr.output,fr.size,fun b hb hx=>fr.keep b hb (Classical.not_not.1 hx),fr.fix,fr.own⟩ h0.fresh (fun b hx e=>hx ?_) (fun b n i hx e=>hx ?_)
  ·rw [e]; exact fun _ _ e=>by cases e
  ·rw [e]; exact fun _ _ e=>by cases e
 ·rename_i e he
  split at h
  ·rename_i hall
   cases h
   rw [he] at fr
   have hlen:(s.hp.take s.bs).length=s.bs:=by simp; omega
   refine ⟨_,⟨fun g o hg=>?_,inj',fun b hb=>imm' b (hr.fresh b hb),fun b g hb=>by rw [hlen]; exact (Qz hb).2,hr.old,fun b hb=>imm' b (hr.oldImm b hb),fun g hg b hb=>hr.dead g (by have hgl:=Zm hg; rw [hlen] at hgl; rw [List.getElem?_take,if_pos hgl] at hg; exact hg) b (Qz hb).1⟩,r1,r2,fr,by omega,fun b g hb hl=>hbk b g (Qz hb).1 (Qz hb).2⟩
   have hgl:=Zm hg
   rw [hlen] at hgl
   have hund:=List.all_eq_true.1 hall o (List.mem_of_getElem? hg)
   rw [List.getElem?_take,if_pos hgl] at hg
   have:=hr.objs g o hg
   cases o with
   | dead=>trivial
   | cells cs t =>
    obtain ⟨b,C,h1,h2,h3,h4⟩:=this
    refine ⟨b,C,by simp [h1,YS,hgl],h2,h3,fun i c hc=>?_⟩
    obtain ⟨a1,a2,a3⟩:=h4 i c hc
    exact ⟨a1,Zqr (List.all_eq_true.1 hund c (List.mem_of_getElem? hc)) a2,a3.fix hf fun b n hb=>⟨by simp [hb,YS,hgl],rfl⟩⟩
   | map es =>
    obtain ⟨b,ms,clk,h1,h2,h3,h4⟩:=this
    exact ⟨b,ms,clk,by simp [h1,YS,hgl],h2,h3,h4⟩
   | iter l pos =>
    obtain ⟨b,h1,h2⟩:=this
    exact ⟨b,by simp [h1,YS,hgl],h2⟩
   | buf _ _ _ =>
    obtain ⟨b,C,h1,h2,h3⟩:=this
    exact ⟨b,C,by simp [h1,YS,hgl],h2,h3.mono fun b n i hb=>⟨by simp [hb,YS,hgl],rfl⟩⟩
  ·exact asis h
end
end Go.Proofs.YtleomfgijkapfaaGreatDoor.Abs
end
section
namespace Go.Proofs.YtleomfgijkapfaaGreatDoor.Abs
open Go Go.RowKit
def JU (call:FuncId→List AV→List Z8→Option (AV×List Z8×Eff))(f:FuncId)(args:List AV)(hp:List Z8):Option (AV×List Z8×Eff) :=
 match call f args hp with
 | some (v,hp',none)=>match frz hp.length hp' v with
  | some v'=>some (v',hp,none)
  | none=>none
 | _=>none
theorem Zmv {call:FuncId→List AV→List Z8→Option (AV×List Z8×Eff)}:∀ f args hp v hp' e,JU call f args hp=some (v,hp',e)→hp'=hp∧e=none:=by
 intro f args hp v hp' e h
 unfold JU at h
 split at h <;> first | (cases h; done) | skip
 split at h <;> first | (cases h; done) | skip
 cases h
 exact ⟨rfl,rfl⟩
theorem Zaz {P:Program}{W0:World}{call:FuncId→List AV→List Z8→Option (AV×List Z8×Eff)}(hS:ZM P W0 call):ZM P W0 (JU call):=by
 intro f args hp v hp' e h Γ w xs hr ht hs hx
 unfold JU at h
 split at h <;> first | (cases h; done) | skip
 rename_i v0 hp0 hc
 split at h <;> first | (cases h; done) | skip
 rename_i v1 hf
 cases h
 refine (hS f args hp v0 hp0 none hc Γ w xs hr ht hs hx).mono fun cv w' ⟨Γ',r1,r2,r3,r4,r5⟩=>?_
 exact ZaE (s := ⟨[],hp0,none,hp.length⟩) hr rfl r5.1 (fun b n g i hb=>ht.cell b n g i hb) r1 r4 r5.2 r2 r3 (keep := false) (by simp only [finish,hf]; rfl)
def Va:Kind→Kind
 | .own _=>.list 0 .outer
 | .list n (.cell _ _)=>.list n .outer
 | k=>k
def V5:Kind→Bool
 | .own _=>true
 | .list _ (.cell _ _)=>true
 | _=>false
theorem Zf7 {k:Kind}{o:Nat}(h:Qk o k):Qk o (Va k):=by
 cases k with
 | imm=>trivial
 | own g=>exact h.elim
 | list n l=>cases l <;> exact h
theorem Zf8 {k:Kind}{g:Nat}:Va k≠.own g:=by
 cases k with
 | imm=>simp [Va]
 | own g=>simp [Va]
 | list n l=>cases l <;> simp [Va]
theorem ZkC {k:Kind}(h:V5 k=false):Va k=k:=by
 cases k with
 | imm=>rfl
 | own g=>cases h
 | list n l=>cases l <;> first | rfl | cases h
theorem ZkB {k:Kind}(h:V5 k=true):Kept none (Va k):=by
 cases k with
 | imm=>cases h
 | own g=>trivial
 | list n l=>cases l <;> first | trivial | cases h
theorem Zh0 {k:Kind}{o:Nat}(h:V5 k=true)(hf:Qk o (Va k)):Qk o k:=by
 cases k with
 | imm=>cases h
 | own g=>exact absurd hf (Nat.not_lt_zero _)
 | list n l=>cases l <;> first | exact hf | cases h
theorem Rep.bare {Γ Γ':Zx}{w:World}{x:AV}{v:Value}(hf:Yd Γ w Γ' w)(h:Rep Γ w x v)(hb:x.bare=true):Rep Γ' w x v:=by
 cases h with
 | agg cells cv hs h1 hn hr =>
  refine .agg cells cv hs h1 hn fun j c hc=>(hr j c hc).noId hf ?_
  exact List.all_eq_true.1 hb c (List.mem_of_getElem? hc)
 | _=>exact Rep.noId hf (by constructor <;> assumption) hb
theorem Zf9 {P:Program}{W0:World}{call:FuncId→List AV→List Z8→Option (AV×List Z8×Eff)}(hS:ZM P W0 call):ZM P W0 (Yg call):=by
 intro f args hp v hp' e h Γ w xs hr ht hs hx
 have hc:args.all AV.bare=true∧JU call f args []=some (v,[],none)∧hp'=hp∧e=none:=by
  unfold Yg at h
  split at h <;> first | (cases h; done) | skip
  rename_i hb
  split at h <;> first | (cases h; done) | skip
  rename_i v0 hp0 hc
  split at h <;> first | (cases h; done) | skip
  rename_i v1 hf
  cases h
  refine ⟨hb,?_,rfl,rfl⟩
  unfold JU
  rw [hc]
  simp only [List.length_nil]
  rw [hf]
 obtain ⟨hb,hc,rfl,rfl⟩:=hc
 have f1:Yd Γ w (fun b=>Va (Γ b)) w:=fun _ _ _ h1 h2=>⟨Zf7 h1,h2⟩
 have hr1:RW W0 (fun b=>Va (Γ b)) w []:=⟨fun g o hg=>by simp at hg,fun b b' g hb=>absurd hb Zf8,fun b hb=>by simp [hr.fresh b hb,Va],fun b g hb=>absurd hb Zf8,hr.old,fun b hb=>by simp [hr.oldImm b hb,Va],fun g hg=>by simp at hg⟩
 have ht1:Tidy (fun b=>Va (Γ b)) 0:=by
  refine ⟨fun b m h=>?_,fun b m j h=>?_,fun b m g i h=>?_⟩
  ·have:=ht.res b m
   cases hg:Γ b with
   | imm=>simp [hg,Va] at h
   | own g=>simp [hg,Va] at h
   | list n l=>cases l <;> simp [hg,Va] at h this <;> omega
  ·have:=ht.arg b m j
   cases hg:Γ b with
   | imm=>simp [hg,Va] at h
   | own g=>simp [hg,Va] at h
   | list n l=>cases l <;> simp [hg,Va] at h this <;> omega
  ·cases hg:Γ b with
   | imm=>simp [hg,Va] at h
   | own g=>simp [hg,Va] at h
   | list n l=>cases l <;> simp [hg,Va] at h
 refine (Zaz hS f args [] v [] none hc (fun b=>Va (Γ b)) w xs hr1 ht1 hs fun j x hj=>?_).mono fun cv w' ⟨Γ',r1,r2,r3,r4,r5⟩=>?_
 ·obtain ⟨q1,q2⟩:=hx j x hj
  have hbx:=List.all_eq_true.1 hb x (List.mem_of_getElem? hj)
  refine ⟨q1.bare f1 hbx,fun k rows e=>?_⟩
  rcases q2 k rows e with h | ⟨b,cap,e,cur,h1,h2,h3,h4,h5,h6,h7,h8⟩
  ·exact .inl h
  ·exact .inr ⟨b,cap,e,cur,h1,by simp [h2,Va],h3,h4,h5,h6,h7,fun i j r c hi hj=>⟨(h8 i j r c hi hj).1,(h8 i j r c hi hj).2.noId f1 (h8 i j r c hi hj).1⟩⟩
 ·have lt:∀ b,Γ b≠.imm→b < w.heap.size:=fun b hb=>by
   rcases Nat.lt_or_ge b w.heap.size with h' | h'
   ·exact h'
   ·exact absurd (hr.fresh b h') hb
  have lost:∀ b,V5 (Γ b)=true→Γ' b=Va (Γ b)∧w'.heap[b]? = w.heap[b]?:=fun b hb=>r4.keep b (lt b fun e=>by rw [e] at hb; cases hb) (ZkB hb)
  let Γ2:Zx:=fun b=>if V5 (Γ b)=true then Γ b else Γ' b
  have g1:∀ b,V5 (Γ b)=true→Γ2 b=Γ b:=fun b hb=>if_pos hb
  have g2:∀ b,¬ V5 (Γ b)=true→Γ2 b=Γ' b:=fun b hb=>if_neg hb
  have fix:Yd Γ w Γ2 w':=fun b o y h1 h2=>by
   obtain ⟨k1,k2⟩:=r4.fix b o y (Zf7 h1) h2
   refine ⟨?_,k2⟩
   unfold U3
   by_cases hb:V5 (Γ b)=true
   ·rw [g1 b hb]; exact h1
   ·rw [g2 b hb]; exact k1
  have own:Yz Γ Γ2:=fun b g hb=>by rw [g1 b (by rw [hb]; rfl)]; exact hb
  have ownI:∀ b g,Γ2 b=.own g→Γ b=.own g:=fun b g hb=>by
   by_cases hl:V5 (Γ b)=true
   ·rw [g1 b hl] at hb; exact hb
   ·rw [g2 b hl] at hb; exact absurd (r1.lt b g hb) (Nat.not_lt_zero _)
  have fix2:Yd Γ' w' Γ2 w':=fun b o y h1 h2=>by
   refine ⟨?_,h2⟩
   unfold U3 at h1 ⊢
   by_cases hb:V5 (Γ b)=true
   ·rw [g1 b hb]
    rw [(lost b hb).1] at h1
    exact Zh0 hb h1
   ·rw [g2 b hb]; exact h1
  have own2:Yz Γ' Γ2:=fun b g hb=>absurd (r1.lt b g hb) (Nat.not_lt_zero _)
  have keepL:∀ b,V5 (Γ b)=true→Γ2 b=Γ b∧w'.heap[b]? = w.heap[b]?:=fun b hb=>⟨g1 b hb,(lost b hb).2⟩
  have imm2:∀ b,Γ' b=.imm→V5 (Γ b)=false→Γ2 b=.imm:=fun b h1 h2=>by rw [g2 b (by rw [h2]; simp)]; exact h1
  refine ⟨Γ2,⟨fun g o hg=>?_,fun b b' g h1 h2=>hr.inj b b' g (ownI b g h1) (ownI b' g h2),fun b hb=>?_,fun b g hb=>hr.lt b g (ownI b g hb),r1.old,fun b hb=>?_,fun g hg b hb=>hr.dead g hg b (ownI b g hb)⟩,r2.mono fix2 own2,r3.mono fix2 own2 fun b n hb=>⟨?_,rfl⟩,
   ⟨r4.os,r4.tape,r4.output,r4.size,fix,own,fun b hb hk=>?_⟩,Nat.le_refl _,fun b g hb _=>ownI b g hb⟩
  ·have hold:=hr.objs g o hg
   cases o with
   | dead=>trivial
   | cells cs t =>
    obtain ⟨b,C,h1,h2,h3,h4⟩:=hold
    obtain ⟨k1,k2⟩:=keepL b (by rw [h1]; rfl)
    refine ⟨b,C,k1.trans h1,k2.trans h2,h3,fun i c hc=>?_⟩
    obtain ⟨a1,a2,a3⟩:=h4 i c hc
    refine ⟨a1,a2.mono fix own,a3.mono fix own fun b n hb=>?_⟩
    obtain ⟨k1,k2⟩:=keepL b (by rw [hb]; rfl)
    exact ⟨k1.trans hb,k2⟩
   | map es =>
    obtain ⟨b,ms,clk,h1,h2,h3,h4⟩:=hold
    obtain ⟨k1,k2⟩:=keepL b (by rw [h1]; rfl)
    exact ⟨b,ms,clk,k1.trans h1,k2.trans h2,h3,h4⟩
   | iter l pos =>
    obtain ⟨b,h1,h2⟩:=hold
    obtain ⟨k1,k2⟩:=keepL b (by rw [h1]; rfl)
    exact ⟨b,k1.trans h1,k2.trans h2⟩
   | buf _ _ _ =>
    obtain ⟨b,C,h1,h2,h3⟩:=hold
    obtain ⟨k1,k2⟩:=keepL b (by rw [h1]; rfl)
    refine ⟨b,C,k1.trans h1,k2.trans h2,h3.mono fun b n i hb=>?_⟩
    obtain ⟨k1,k2⟩:=keepL b (by rw [hb]; rfl)
    exact ⟨k1.trans hb,k2⟩
  ·refine imm2 b (r1.fresh b hb) ?_
   rw [hr.fresh b (Nat.le_trans r4.size hb)]; rfl
  ·refine imm2 b (r1.oldImm b hb) ?_
   rw [hr.oldImm b hb]; rfl
  ·by_cases hl:V5 (Γ b)=true
   ·have:=(lost b hl).1
    rw [hb] at this
    cases hg:Γ b with
    | imm=>simp [hg,Va] at this
    | own g=>simp [hg,Va] at this
    | list n l=>cases l <;> simp [hg,Va] at this <;> (rw [hg] at hl; cases hl)
   ·rw [g2 b hl]; exact hb
  ·by_cases hl:V5 (Γ b)=true
   ·exact keepL b hl
   ·have hsame:=ZkC (by simpa using hl:V5 (Γ b)=false)
    obtain ⟨k1,k2⟩:=r4.keep b hb (by show Kept none (Va (Γ b)); rw [hsame]; exact hk)
    exact ⟨by rw [g2 b hl,k1]; exact hsame,k2⟩
def Zt4:AV→Bool
 | .own _ r=>r.all fun l=>l.all AV.flat1
 | v=>v.flat
def ZhH (call:FuncId→List AV→List Z8→Option (AV×List Z8×Eff))(f:FuncId)(args:List AV)(hp:List Z8):Option (AV×List Z8×Eff) :=
 match args.mapM (frz 0 hp) with
 | some as=>match call f as [] with
  | some (v,hp',none)=>match frz 0 hp' v with
   | some v'=>if Zt4 v' then some (v',hp,none) else none
   | none=>none
  | _=>none
 | none=>none
theorem Zdi {k:Kind}{g:Nat}:YS 0 k≠.own g:=fun h=>absurd (Qz h).2 (Nat.not_lt_zero _)
theorem Za4 {k:Kind}(h:V5 k=false):YS 0 k=k:=by
 cases k with
 | imm=>rfl
 | own g=>cases h
 | list n l=>cases l <;> first | rfl | cases h
theorem Bj {k:Kind}(h:V5 k=true):YS 0 k=.imm:=by
 cases k with
 | imm=>cases h
 | own g=>rfl
 | list n l=>cases l <;> first | rfl | cases h
theorem Zpo {P:Program}{W0:World}{call:FuncId→List AV→List Z8→Option (AV×List Z8×Eff)}(hS:ZM P W0 call):ZM P W0 (ZhH call):=by
 intro f args hp v hp' e h Γ w xs hr ht hs hx
 unfold ZhH at h
 split at h <;> first | (cases h; done) | skip
 rename_i as hm
 have hc:JU call f as []=some (v,[],none)∧Zt4 v=true∧hp'=hp∧e=none:=by
  split at h <;> first | (cases h; done) | skip
  rename_i v0 hp0 hc
  split at h <;> first | (cases h; done) | skip
  rename_i v1 hf
  split at h <;> first | (cases h; done) | skip
  rename_i hfree
  cases h
  refine ⟨?_,hfree,rfl,rfl⟩
  unfold JU
  rw [hc]
  simp only [List.length_nil]
  rw [hf]
 clear h
 obtain ⟨hc,hfree,rfl,rfl⟩:=hc
 obtain ⟨m1,m2⟩:=P8 hm
 have f1:Yd Γ w (fun b=>YS 0 (Γ b)) w:=fun _ _ _ h1 h2=>⟨GG h1,h2⟩
 have hr1:RW W0 (fun b=>YS 0 (Γ b)) w []:=⟨fun g o hg=>by simp at hg,fun b b' g hb=>absurd hb Zdi,fun b hb=>by simp [hr.fresh b hb,YS],fun b g hb=>absurd hb Zdi,hr.old,fun b hb=>by simp [hr.oldImm b hb,YS],fun g hg=>by simp at hg⟩
 have keepL:∀ k m l,YS 0 k=.list m l→k=.list m l:=fun k m l h=>by
  cases hl:V5 k with
  | true=>rw [Bj hl] at h; cases h
  | false=>rw [Za4 hl] at h; exact h
 have ht1:Tidy (fun b=>YS 0 (Γ b)) 0:=by
  refine ⟨fun b m h=>ht.res b m (keepL _ _ _ h),fun b m j h=>ht.arg b m j (keepL _ _ _ h),fun b m g i h=>?_⟩
  have:=keepL _ _ _ h
  rw [this] at h
  cases h
 refine (Zaz hS f as [] v [] none hc (fun b=>YS 0 (Γ b)) w xs hr1 ht1 (by rw [hs,m1]) fun j x hj=>?_).mono fun cv w' ⟨Γ',r1,r2,r3,r4,r5⟩=>?_
 ·obtain ⟨y,y1,y2⟩:=m2 j x hj
  obtain ⟨q1,q2⟩:=hx j y y1
  have other:ZlO 0 hp' y=some x→Rep (fun b=>YS 0 (Γ b)) w x (xs.getD j Go.undef)∧OwnAt (fun b=>YS 0 (Γ b)) w (.slot j) x (xs.getD j Go.undef):=fun h=>by
   obtain ⟨h1,h2⟩:=Sr hr h q1
   exact ⟨h1,.of_ne h2⟩
  cases y with
  | own k r =>
   have:x=.own k r:=(Option.some.inj y2).symm
   subst this
   exact ⟨q1.noId f1 rfl,q2.fix f1 fun b n hb=>⟨by simp [hb,YS],rfl⟩⟩
  | tup vs =>
   obtain ⟨h1,h2⟩:=ZqA hr y2 q1 (.of_ne (by simp))
   obtain ⟨vs',_,e⟩:=Option.map_eq_some_iff.1 (show (vs.mapM (ZlO 0 hp')).map AV.tup=some x from y2)
   subst e
   exact ⟨h1,.of_ne (by simp)⟩
  | _=>exact other y2
 ·have lt:∀ b,Γ b≠.imm→b < w.heap.size:=fun b hb=>by
   rcases Nat.lt_or_ge b w.heap.size with h' | h'
   ·exact h'
   ·exact absurd (hr.fresh b h') hb
  have lost:∀ b,V5 (Γ b)=true→Γ' b=.imm∧w'.heap[b]? = w.heap[b]?:=fun b hb=>by
   obtain ⟨k1,k2⟩:=r4.keep b (lt b fun e=>by rw [e] at hb; cases hb) (by show Kept none (YS 0 (Γ b)); rw [Bj hb]; trivial)
   exact ⟨k1.trans (Bj hb),k2⟩
  let Γ2:Zx:=fun b=>if V5 (Γ b)=true then Γ b else Γ' b
  have g1:∀ b,V5 (Γ b)=true→Γ2 b=Γ b:=fun b hb=>if_pos hb
  have g2:∀ b,¬ V5 (Γ b)=true→Γ2 b=Γ' b:=fun b hb=>if_neg hb
  have fix:Yd Γ w Γ2 w':=fun b o y h1 h2=>by
   obtain ⟨k1,k2⟩:=r4.fix b o y (GG h1) h2
   refine ⟨?_,k2⟩
   unfold U3
   by_cases hb:V5 (Γ b)=true
   ·rw [g1 b hb]; exact h1
   ·rw [g2 b hb]; exact k1
  have own:Yz Γ Γ2:=fun b g hb=>by rw [g1 b (by rw [hb]; rfl)]; exact hb
  have ownI:∀ b g,Γ2 b=.own g→Γ b=.own g:=fun b g hb=>by
   by_cases hl:V5 (Γ b)=true
   ·rw [g1 b hl] at hb; exact hb
   ·rw [g2 b hl] at hb; exact absurd (r1.lt b g hb) (Nat.not_lt_zero _)
  have keepO:∀ b,V5 (Γ b)=true→Γ2 b=Γ b∧w'.heap[b]? = w.heap[b]?:=fun b hb=>⟨g1 b hb,(lost b hb).2⟩
  have imm2:∀ b,Γ' b=.imm→V5 (Γ b)=false→Γ2 b=.imm:=fun b h1 h2=>by rw [g2 b (by rw [h2]; simp)]; exact h1
  have resOwn:OwnAt Γ2 w' .res v cv:=fun k rows e=>by
   subst e
   rcases r3 k rows rfl with h | ⟨b,cap,e,cur,h1,h2,h3,h4,h5,h6,h7,h8⟩
   ·exact .inl h
   ·refine .inr ⟨b,cap,e,cur,h1,?_,h3,h4,h5,h6,h7,fun i j r c hi hj=>⟨(h8 i j r c hi hj).1,GK (h8 i j r c hi hj).2 ?_⟩⟩
    ·rw [g2 b fun hl=>by rw [(lost b hl).1] at h2; cases h2]; exact h2
    ·have:=List.all_eq_true.1 (show (rows.all fun l=>l.all AV.flat1)=true from hfree) r (List.mem_of_getElem? hi)
     exact List.all_eq_true.1 this c (List.mem_of_getElem? hj)
  have resRep:Rep Γ2 w' v cv:=by
   cases v with
   | own k rows=>exact resOwn.rep
   | _=>exact ZjJ r2 hfree
  refine ⟨Γ2,⟨fun g o hg=>?_,fun b b' g h1 h2=>hr.inj b b' g (ownI b g h1) (ownI b' g h2),fun b hb=>?_,fun b g hb=>hr.lt b g (ownI b g hb),r1.old,fun b hb=>?_,fun g hg b hb=>hr.dead g hg b (ownI b g hb)⟩,resRep,resOwn,
   ⟨r4.os,r4.tape,r4.output,r4.size,fix,own,fun b hb hk=>?_⟩,Nat.le_refl _,fun b g hb _=>ownI b g hb⟩
  ·have hold:=hr.objs g o hg
   cases o with
   | dead=>trivial
   | cells cs t =>
    obtain ⟨b,C,h1,h2,h3,h4⟩:=hold
    obtain ⟨k1,k2⟩:=keepO b (by rw [h1]; rfl)
    refine ⟨b,C,k1.trans h1,k2.trans h2,h3,fun i c hc=>?_⟩
    obtain ⟨a1,a2,a3⟩:=h4 i c hc
    refine ⟨a1,a2.mono fix own,a3.mono fix own fun b n hb=>?_⟩
    obtain ⟨k1,k2⟩:=keepO b (by rw [hb]; rfl)
    exact ⟨k1.trans hb,k2⟩
   | map es =>
    obtain ⟨b,ms,clk,h1,h2,h3,h4⟩:=hold
    obtain ⟨k1,k2⟩:=keepO b (by rw [h1]; rfl)
    exact ⟨b,ms,clk,k1.trans h1,k2.trans h2,h3,h4⟩
   | iter l pos =>
    obtain ⟨b,h1,h2⟩:=hold
    obtain ⟨k1,k2⟩:=keepO b (by rw [h1]; rfl)
    exact ⟨b,k1.trans h1,k2.trans h2⟩
   | buf _ _ _ =>
    obtain ⟨b,C,h1,h2,h3⟩:=hold
    obtain ⟨k1,k2⟩:=keepO b (by rw [h1]; rfl)
    refine ⟨b,C,k1.trans h1,k2.trans h2,h3.mono fun b n i hb=>?_⟩
    obtain ⟨k1,k2⟩:=keepO b (by rw [hb]; rfl)
    exact ⟨k1.trans hb,k2⟩
  ·refine imm2 b (r1.fresh b hb) ?_
   rw [hr.fresh b (Nat.le_trans r4.size hb)]; rfl
  ·refine imm2 b (r1.oldImm b hb) ?_
   rw [hr.oldImm b hb]; rfl
  ·by_cases hl:V5 (Γ b)=true
   ·exact keepO b hl
   ·have hsame:=Za4 (by simpa using hl:V5 (Γ b)=false)
    obtain ⟨k1,k2⟩:=r4.keep b hb (by show Kept none (YS 0 (Γ b)); rw [hsame]; exact hk)
    exact ⟨by rw [g2 b hl,k1]; exact hsame,k2⟩
def ZhQ (S:List Nat)(call:FuncId→List AV→List Z8→Option (AV×List Z8×Eff))(f:FuncId)(args:List AV)(hp:List Z8):Option (AV×List Z8×Eff) :=
 match S.elem f with
 | true=>ZhH call f args hp
 | false=>call f args hp
theorem Zpz {P:Program}{W0:World}{call:FuncId→List AV→List Z8→Option (AV×List Z8×Eff)}(S:List Nat)(hS:ZM P W0 call):ZM P W0 (ZhQ S call):=by
 intro f args hp v hp' e h
 unfold ZhQ at h
 split at h
 ·exact Zpo hS f args hp v hp' e h
 ·exact hS f args hp v hp' e h
end Go.Proofs.YtleomfgijkapfaaGreatDoor.Abs
end
section
namespace Go.Proofs.YtleomfgijkapfaaGreatDoor.Abs
open Go Go.RowKit
section
variable {G:Nat→Option (List AV)}{call:FuncId→List AV→List Z8→Option (AV×List Z8×Eff)}
theorem ZmD {s s':Ze}{ao:AOp}{v:AV}(h:Zj G call s ao=some (v,s')):s'.bs=s.bs:=by
 cases ao <;> simp only [Zj] at h <;> (repeat' split at h) <;> first
  | (cases h; done)
  | (obtain ⟨_,rfl⟩:=YB h; rfl)
  | (cases h; rfl)
  | (obtain ⟨x,_,e⟩:=Option.map_eq_some_iff.1 h; cases e; rfl)
theorem ZqU (s:Ze)(d:Option Nat)(v:AV):(s.put d v).bs=s.bs:=by cases d <;> rfl
theorem VF:∀ {l:List ZT} {s s':Ze},ZL G call l s=some s'→s'.bs=s.bs
 | [],s,s',h=>by cases h; rfl
 | o :: l,s,s',h=>by
  simp only [ZL] at h
  split at h <;> first | (cases h; done) | skip
  rename_i s1 h1
  rw [VF h]
  simp only [Z5] at h1
  split at h1 <;> first | (cases h1; done) | skip
  ·split at h1 <;> first | (cases h1; done) | skip
   rename_i v s2 h2
   obtain rfl:=Option.some.inj h1
   rw [ZqU,ZmD h2]
  ·obtain rfl:=Option.some.inj h1
   rw [ZqU]
theorem ZhK {f:Ze→Option (Hr×Ze)}(hf:∀ {s:Ze} {r:Hr×Ze},f s=some r→r.2.bs=s.bs):∀ (n:Nat) {s:Ze} {r:Hr×Ze},iter f n s=some r→r.2.bs=s.bs
 | 0,_,_,h=>by cases h
 | n + 1,s,r,h=>by
  simp only [iter] at h
  split at h
  ·rename_i s1 h1
   rw [ZhK hf n h]
   exact hf h1
  ·exact hf h
theorem ZhA (L:Nat):∀ {c:JC} {s:Ze} {r:Hr×Ze},Z9 G call L c s=some r→r.2.bs=s.bs:=by
 intro c
 induction c with
 | skip=>intro s r h; cases h; rfl
 | region draw ops =>
  intro s r h
  cases draw with
  | false =>
   simp only [Z9] at h
   obtain ⟨s1,h1,rfl⟩:=Option.map_eq_some_iff.1 h
   exact VF h1
  | true =>
   simp only [Z9] at h
   obtain ⟨s1,h1,rfl⟩:=Option.map_eq_some_iff.1 h
   exact VF h1
 | regionB ops =>
  intro s r h
  simp only [Z9] at h
  obtain ⟨s1,h1,rfl⟩:=Option.map_eq_some_iff.1 h
  exact VF h1
 | seq x y ihx ihy =>
  intro s r h
  simp only [Z9] at h
  split at h
  ·rename_i s1 h1
   rw [ihy h]; exact ihx h1
  ·exact ihx h
 | cond c x y ihx ihy =>
  intro s r h
  simp only [Z9] at h
  split at h <;> first | (cases h; done) | skip
  ·exact ihx h
  ·exact ihy h
 | block id c ih =>
  intro s r h
  simp only [Z9] at h
  split at h
  ·rename_i i s1 h1
   have:=ih h1
   split at h <;> (obtain rfl:=Option.some.inj h; exact this)
  ·exact ih h
 | loop c ih =>
  intro s r h
  simp only [Z9] at h
  exact ZhK ih L h
 | scope c ih=>intro s r h; simp only [Z9] at h; exact ih h
 | exit id=>intro s r h; cases h; rfl
 | ret=>intro s r h; cases h; rfl
 | bad=>intro s r h; cases h
end
structure Zfu (P:Program)(W0:World)(C:Cfg):Prop where
 mixed:P.follows .mixedOrders=true
 globals:GOk C.G W0
 table:∀ f af,C.T f=some af→∃ fn takes,P.funcs[f]? = some fn∧(fn.name == "runtime.NumGoroutine")=false∧cFn P takes fn=some af
 oracle:ZM P W0 C.O
theorem Pz {P:Program}{f:FuncId}{fn:Func}{c:Code}(hf:P.funcs[f]? = some fn)(hn:(fn.name == "runtime.NumGoroutine")=false)(hb:fn.body=some c)(xs:Array Value)(w:World):(callFunc f xs).run P w=.ok (.enter f xs) w:=by
 have hn':¬ fn.name = "runtime.NumGoroutine" := by simpa using hn
 simp [callFunc,program,hf,hn',hb,Sem.run]
theorem Bq {P:Program}{W0:World}{C:Cfg}(h:Zfu P W0 C):∀ n,ZM P W0 (Yh C n):=by
 intro n
 induction n with
 | zero=>intro f args hp v hp' e hc; cases hc
 | succ n ih =>
  intro f args hp v hp' e hc Γ w xs hr ht hs hx
  simp only [Yh] at hc
  split at hc
  case h_2=>exact h.oracle f args hp v hp' e hc Γ w xs hr ht hs hx
  rename_i af haf
  obtain ⟨fn,takes,hf,hname,hcf⟩:=h.table f af haf
  unfold cFn at hcf
  split at hcf <;> first | (cases hcf; done) | skip
  rename_i c rs hb hrs
  obtain ⟨ac,hac,rfl⟩:=Option.map_eq_some_iff.1 hcf
  split at hc
  ·cases hc
  ·rename_i x s hne hev
   split at hc <;> first | (cases hc; done) | skip
   rename_i u hu
   have hfin:=Option.some.inj hc
   refine ⟨Pz hf hname hb xs w,?_⟩
   have hbs:s.bs=hp.length:=ZhA C.L hev
   have hI:Inv ⟨W0,Γ,w⟩ ⟨args ++ List.replicate (fn.ntmps - args.length) .undef,hp,none,hp.length⟩ Γ { tmps := xs ++ Array.replicate (fn.ntmps - xs.size) Go.undef,defers := [] } w:=by
    have get:∀ (t:Nat) (y:AV),(args ++ List.replicate (fn.ntmps - args.length) AV.undef)[t]? = some y→(args[t]? = some y∧(xs ++ Array.replicate (fn.ntmps - xs.size) Go.undef).getD t Go.undef=xs.getD t Go.undef)∨(y=.undef∧(xs ++ Array.replicate (fn.ntmps - xs.size) Go.undef).getD t Go.undef=Go.undef):=by
     intro t y hy
     rw [List.getElem?_append] at hy
     split at hy
     ·rename_i hlt
      refine .inl ⟨hy,?_⟩
      rw [Array.getD_eq_getD_getElem?,Array.getD_eq_getD_getElem?,Array.getElem?_append_left (by omega)]
     ·rename_i hge
      have hm:=List.mem_of_getElem? hy
      have:=List.eq_of_mem_replicate hm
      refine .inr ⟨this,?_⟩
      have hlt:=Zm hy
      simp only [List.length_replicate] at hlt
      rw [Array.getD_eq_getD_getElem?,Array.getElem?_append_right (by omega),Array.getElem?_replicate,if_pos (by omega)]
      rfl
    refine ⟨rfl,⟨by simp [hs],fun t y hy=>?_,fun t y hy=>?_⟩,hr,.refl _ _ _,fun b g hb=>hr.lt b g hb,fun b m g i hb=>ht.cell b m g i hb,Nat.le_refl _,fun _ _ hb _=>hb⟩
    ·rcases get t y hy with ⟨h1,h2⟩ | ⟨rfl,h2⟩
     ·rw [h2]; exact (hx t y h1).1
     ·rw [h2]; exact .undef
    ·rcases get t y hy with ⟨h1,h2⟩ | ⟨rfl,h2⟩
     ·rw [h2]; exact (hx t y h1).2
     ·exact .of_ne (by simp)
   have hw:=Zry h.mixed h.globals ih (Zf9 ih) C.L hac hev hI
   refine calls_of_wp hf hb (Go.wp_mono hw fun en a' w' he=>?_)
   obtain ⟨k1,Γ',i1⟩:=he
   have fin:a'.defers=[]∧∃ cv,(results fn a'.tmps).run P w'=.ok cv w'∧∃ v',Ending.returned cv=.returned v'∧∃ Γ',RW W0 Γ' w' hp'∧Rep Γ' w' v v'∧OwnAt Γ' w' .res v v'∧Frame Γ w Γ' w' e∧hp.length≤hp'.length∧∀ b g,Γ' b=.own g→g < hp.length→Γ b=.own g:=by
    obtain ⟨cv,Γ2,q1,q2,q3,q4,q5,q6⟩:=ZqV i1 hrs hu
    obtain ⟨Γ3,p1,p2,p3,p4,p5⟩:=ZaE hr hbs (by rw [hbs]; have:=i1.le; simpa [hbs] using this) (fun b m g i hb=>by rw [hbs]; exact ht.cell b m g i hb) q2 q3 q6 q4 q5 hfin
    exact ⟨i1.defers,cv,q1,cv,rfl,Γ3,p1,p2,p3,p4,p5⟩
   cases x with
   | exit i=>exact (hne i rfl).elim
   | normal=>cases en <;> first | exact k1.elim | exact fin
   | ret=>cases en <;> first | exact k1.elim | exact fin
  ·cases hc
end Go.Proofs.YtleomfgijkapfaaGreatDoor.Abs
end
section
namespace Go.Proofs.YtleomfgijkapfaaGreatDoor.Abs
open Go Go.RowKit
def still:Zx:=fun _=>.imm
theorem ZeR (W:World):RW W still W [] :=
 ⟨fun g o hg=>by simp at hg,fun b b' g h=>(by cases h),fun _ _=>rfl,fun b g h=>(by cases h),⟨rfl,rfl,rfl,Nat.le_refl _,fun _ _=>rfl⟩,fun _ _=>rfl,fun g hg=>by simp at hg⟩
theorem Ed:Tidy still 0:=⟨fun _ _ h=>(by cases h),fun _ _ _ h=>(by cases h),fun _ _ _ _ h=>(by cases h)⟩
theorem ZqE {P:Program}{W:World}{C:Cfg}(h:Zfu P W C){n:Nat}{f:FuncId}{avs:List AV}{hp:List Z8}{e:Eff}(hev:Yh C n f avs []=some (.bool true,hp,e)){args:Array Value}
  (hs:args.size=avs.length) (hr:∀ (j:Nat) (x:AV),avs[j]? = some x→Rep still W x (args.getD j Go.undef)∧∀ k r,x≠.own k r) :
  Calls P f args W fun e W'=>e=.returned (.bool true)∧Below W.heap.size W W':=by
 obtain ⟨_,hw⟩:=Bq h n f avs [] _ _ _ hev still W args (ZeR W) Ed hs fun j x hx=>⟨(hr j x hx).1,.of_ne (hr j x hx).2⟩
 refine hw.mono fun en W' ⟨cv,hv,Γ',r1,r2,_,r4,_⟩=>?_
 subst hv
 cases r2
 exact ⟨rfl,r4.os,r4.tape,r4.output,r4.size,fun b hb=>(r4.keep b hb trivial).2⟩
end Go.Proofs.YtleomfgijkapfaaGreatDoor.Abs
end
section
namespace Go.Proofs.YtleomfgijkapfaaGreatDoor.Abs
open Go Go.RowKit
def DJ (P:Program)(W0:World)(f:FuncId)(args:List AV)(v:AV):Prop :=
 (∀ k r,v≠.own k r)∧∀ (Γ:Zx) (w:World) (xs:Array Value),Below W0.heap.size W0 w→(∀ b,w.heap.size≤b→Γ b=.imm)→xs.size=args.length→(∀ (j:Nat) (x:AV),args[j]? = some x→Rep Γ w x (xs.getD j Go.undef)) →
  Zoy P f xs w fun cv w'=>Below w.heap.size w w'∧Rep Γ w' v cv
theorem UO {P:Program}{W0:World}{O:FuncId→List AV→Option AV}(h:∀ f args v,O f args=some v→DJ P W0 f args v) :
  ZM P W0 fun f args hp=>(O f args).map fun v=>(v,hp,none):=by
 intro f args hp v hp' e ho Γ w xs hr _ hs hx
 obtain ⟨u,hu,e1⟩:=Option.map_eq_some_iff.1 ho
 cases e1
 obtain ⟨hown,hrun⟩:=h f args v hu
 refine (hrun Γ w xs hr.old hr.fresh hs fun j x hj=>(hx j x hj).1).mono fun cv w' ⟨hb,hv⟩=>?_
 have st:Step Γ w Γ w' fun _=>False:=⟨hb.os,hb.tape,hb.output,hb.size,fun b hbl _=>⟨rfl,hb.block b hbl⟩,fun b o v h1 h2=>⟨h1,(QP (hb.block b (lt_of_cell h2))).trans h2⟩,.refl _⟩
 obtain ⟨o1,o2⟩:=Uu hr.old hr.oldImm st fun _ hx=>hx.elim
 refine ⟨Γ,⟨fun g o hg=>(hr.objs g o hg).step st hr.fresh (fun _ hx=>hx.elim) (fun _ _ _ hx=>hx.elim),hr.inj,fun b hbl=>hr.fresh b (Nat.le_trans hb.size hbl),hr.lt,o1,o2,hr.dead⟩,hv,.of_ne hown,⟨hb.os,hb.tape,hb.output,hb.size,st.fix,.refl _,fun b hbl _=>⟨rfl,hb.block b hbl⟩⟩,Nat.le_refl _,fun _ _ hb _=>hb⟩
theorem Uh {P:Program}{f:FuncId}{fn:Func}{c:Code}{xs:Array Value}{w:World}{R:Value→World→Prop}(hf:P.funcs[f]? = some fn)(hn:(fn.name == "runtime.NumGoroutine")=false)(hb:fn.body=some c)
  (h:Calls P f xs w fun e w'=>∃ v,e=.returned v∧R v w'):Zoy P f xs w R:=⟨Pz hf hn hb xs w,h⟩
end Go.Proofs.YtleomfgijkapfaaGreatDoor.Abs
end
section
namespace Go.Proofs.YtleomfgijkapfaaGreatDoor.Abs
open Go
inductive KV where
 | raw (v:AV)
 | cln (v:AV)
def KV.val:KV→AV
 | .raw v=>v
 | .cln v=>v
def KV.rd:KV→AV
 | .raw v=>v.ro
 | .cln v=>v
abbrev ZoG {α:Type}(b:Bool)(x y:α):α :=
 match b with
 | true=>x
 | false=>y
abbrev Env:=Nat→KV
def Env.set (e:Env)(t:Nat)(v:KV):Env:=fun u=>ZoG (Nat.beq u t) v (e u)
def Env.put (e:Env)(d:Option Nat)(v:KV):Env :=
 match d with
 | some d=>e.set d v
 | none=>e
abbrev KR:=Option (AV×List Z8×Eff)
def Zwv:List AV→Option AV
 | .int .i64 n :: l=>(minL n l).map fun n=>.int .i64 n
 | _=>none
def Zwu:List AV→Option AV
 | .int .i64 n :: l=>(maxL n l).map fun n=>.int .i64 n
 | _=>none
def Zc0:List Nat→Nat→Bool
 | [],_=>true
 | u :: l,t=>ZoG (Nat.beq u t) false (Zc0 l t)
def rm (d:Nat):List Nat→List Nat
 | []=>[]
 | u :: l=>ZoG (Nat.beq u d) (rm d l) (u :: rm d l)
def rmO (d:Option Nat)(P:List Nat):List Nat :=
 match d with
 | some d=>rm d P
 | none=>P
section
variable (G:Nat→Option (List AV))(N bs:Nat)(P:List Nat)
def ZpI (e:Env):Yf→Option AV
 | .tmp t=>ZoG ((Nat.blt t N && Zc0 P t)) (some (e t).rd) (none)
 | .const v=>some v
 | .glob g=>(G g).map .ref
def Zn8 (e:Env):List Yf→Option (List AV)
 | []=>some []
 | x :: l=>match ZpI G N P e x with
  | some v=>match Zn8 e l with
   | some vs=>some (v :: vs)
   | none=>none
  | none=>none
def Zkb (e:Env):Option Yf→Option (Option AV)
 | none=>some none
 | some x=>match ZpI G N P e x with
  | some v=>some (some v)
  | none=>none
def Zme:Env→List (Nat ⊕ Yf)→Option (List AV×Env)
 | e,[]=>some ([],e)
 | e,.inl t :: l=>ZoG ((Nat.blt t N && Zc0 P t)) (match Zme (e.set t (.cln (e t).rd)) l with
  | some (vs,e')=>some ((e t).val :: vs,e')
  | none=>none) none
 | e,.inr x :: l=>match ZpI G N P e x with
  | some v=>match Zme e l with
   | some (vs,e')=>some (v :: vs,e')
   | none=>none
  | none=>none
end
end Go.Proofs.YtleomfgijkapfaaGreatDoor.Abs
end
section
namespace Go.Proofs.YtleomfgijkapfaaGreatDoor.Abs
open Go
theorem Zj1 {α:Type}{b:Bool}{x:Option α}{r:α}(h:ZoG b x none=some r):b=true∧x=some r:=by
 cases b with
 | false=>cases h
 | true=>exact ⟨rfl,h⟩
def Zqv (v:KV):Prop:=v.val.ro=v.rd
theorem Zu0 (v:AV):v.ro.ro=v.ro:=by cases v <;> rfl
theorem Zv1 {v:KV}(h:Zqv v):Zqv (.cln v.rd):=by
 show v.rd.ro=v.rd
 rw [← h,Zu0]
theorem Zgj:∀ {P:List Nat} {t:Nat},Zc0 P t=true↔t ∉ P
 | [],t=>by simp [Zc0]
 | u :: l,t=>by
  simp only [Zc0,List.mem_cons,not_or]
  cases hb:Nat.beq u t with
  | true =>
   have:=Nat.eq_of_beq_eq_true hb
   subst this
   simp
  | false =>
   have:t≠u:=fun h=>by subst h; rw [Nat.beq_refl] at hb; cases hb
   simp [this,← Zgj]
theorem Znr:∀ {P:List Nat} {d t:Nat},t ∈ rm d P↔t ∈ P∧t≠d
 | [],d,t=>by simp [rm]
 | u :: l,d,t=>by
  simp only [rm]
  cases hb:Nat.beq u d with
  | true =>
   have:=Nat.eq_of_beq_eq_true hb
   subst this
   simp only [Znr,List.mem_cons]
   constructor
   ·rintro ⟨a,b⟩; exact ⟨.inr a,b⟩
   ·rintro ⟨a | a,b⟩
    ·exact absurd a b
    ·exact ⟨a,b⟩
  | false =>
   have:u≠d:=fun h=>by subst h; rw [Nat.beq_refl] at hb; cases hb
   simp only [List.mem_cons,Znr]
   constructor
   ·rintro (a | ⟨a,b⟩)
    ·subst a; exact ⟨.inl rfl,this⟩
    ·exact ⟨.inr a,b⟩
   ·rintro ⟨a | a,b⟩
    ·exact .inl a
    ·exact .inr ⟨a,b⟩
structure VC (N:Nat)(P:List Nat)(e:Env)(sl:List AV):Prop where
 len:sl.length=N
 val:∀ t,t < N→t ∉ P→sl[t]? = some (e t).val
 ok:∀ t,Zqv (e t)
theorem VC.mono {N:Nat}{P P':List Nat}{e:Env}{sl:List AV}(h:VC N P e sl)(hp:∀ t,t ∈ P→t ∈ P'):VC N P' e sl:=⟨h.len,fun t ht hn=>h.val t ht fun hm=>hn (hp t hm),h.ok⟩
theorem VC.set {N:Nat}{P:List Nat}{e:Env}{sl:List AV}(h:VC N P e sl)(d:Nat){v:KV}(hv:Zqv v):VC N (rm d P) (e.set d v) (sl.set d v.val):=by
 refine ⟨by rw [List.length_set]; exact h.len,fun t ht hn=>?_,fun t=>?_⟩
 ·rw [List.getElem?_set]
  by_cases e1:d=t
  ·subst e1
   simp [Env.set,h.len,ht]
  ·have:Nat.beq t d=false:=by cases hb:Nat.beq t d with | false=>rfl | true=>exact absurd (Nat.eq_of_beq_eq_true hb).symm e1
   simp [e1,Env.set,this,h.val t ht fun hm=>hn (Znr.2 ⟨hm,fun h=>e1 h.symm⟩)]
 ·show Zqv (ZoG (Nat.beq t d) v (e t))
  cases Nat.beq t d
  ·exact h.ok t
  ·exact hv
theorem VC.put {N:Nat}{P:List Nat}{e:Env}{sl:List AV}(h:VC N P e sl)(d:Option Nat){v:KV}(hv:Zqv v){hp:List Z8}{ef:Eff}{bs:Nat}:VC N (rmO d P) (e.put d v) (Ze.put ⟨sl,hp,ef,bs⟩ d v.val).sl:=by
 cases d with
 | none=>exact h
 | some d=>exact h.set d hv
theorem VC.let_ {N:Nat}{P:List Nat}{e:Env}{sl:List AV}(h:VC N P e sl)(t:Nat):VC N P (e.set t (.cln (e t).rd)) (sl.modify t AV.ro):=by
 refine ⟨by rw [List.length_modify]; exact h.len,fun u hu hn=>?_,fun u=>?_⟩
 ·rw [List.getElem?_modify]
  by_cases e1:t=u
  ·subst e1
   simp only [if_true,h.val t hu hn,Env.set,Nat.beq_refl,KV.val]
   have:=h.ok t
   simp only [Zqv] at this
   simp only [KV.val] at this
   rw [Option.map_eq_map,Option.map_some,← this]
  ·have:Nat.beq u t=false:=by cases hb:Nat.beq u t with | false=>rfl | true=>exact absurd (Nat.eq_of_beq_eq_true hb).symm e1
   simp [e1,Env.set,this,h.val u hu hn]
 ·show Zqv (ZoG (Nat.beq u t) (.cln (e t).rd) (e u))
  cases Nat.beq u t
  ·exact h.ok u
  ·exact Zv1 (h.ok t)
section
variable {G:Nat→Option (List AV)}{N:Nat}{P:List Nat}{e:Env}{sl:List AV}
theorem Zgf {t N:Nat}{P:List Nat}(h:(Nat.blt t N && Zc0 P t)=true):t < N∧t ∉ P:=by
 rw [Bool.and_eq_true] at h
 exact ⟨Nat.le_of_ble_eq_true h.1,Zgj.1 h.2⟩
theorem VC.get (h:VC N P e sl){t:Nat}(ht:(Nat.blt t N && Zc0 P t)=true):sl[t]? = some (e t).val:=h.val t (Zgf ht).1 (Zgf ht).2
theorem VC.read (h:VC N P e sl){t:Nat}(ht:(Nat.blt t N && Zc0 P t)=true):(sl[t]?).map AV.ro=some (e t).rd:=by
 rw [h.get ht,Option.map_some,h.ok t]
theorem VC.opnd (h:VC N P e sl){x:Yf}{v:AV}(hx:ZpI G N P e x=some v):Abs.opnd G sl x=some v:=by
 cases x with
 | tmp t =>
  obtain ⟨h1,h2⟩:=Zj1 (show ZoG (Nat.blt t N && Zc0 P t) (some (e t).rd) none=some v from hx)
  cases h2
  exact h.read h1
 | const v=>exact hx
 | glob g=>exact hx
theorem VC.opnds (h:VC N P e sl):∀ {xs:List Yf} {vs:List AV},Zn8 G N P e xs=some vs→Abs.opnds G sl xs=some vs
 | [],vs,hx=>hx
 | x :: l,vs,hx=>by
  simp only [Zn8] at hx
  split at hx
  ·rename_i v hv
   split at hx
   ·rename_i us hus
    cases hx
    simp only [Abs.opnds,h.opnd hv,h.opnds hus,Option.map_some]
   ·cases hx
  ·cases hx
theorem VC.optOpnd (h:VC N P e sl){x:Option Yf}{v:Option AV}(hx:Zkb G N P e x=some v):Abs.optOpnd G sl x=some v:=by
 cases x with
 | none=>exact hx
 | some x =>
  simp only [Zkb] at hx
  split at hx
  ·rename_i u hu
   cases hx
   simp only [Abs.optOpnd,h.opnd hu,Option.map_some]
  ·cases hx
theorem VC.args:∀ {as:List (Nat ⊕ Yf)} {e e':Env} {sl:List AV} {vs:List AV},VC N P e sl→Zme G N P e as=some (vs,e')→∃ sl',WU G sl as=some (vs,sl')∧VC N P e' sl'
 | [],e,e',sl,vs,h,ha=>by
  cases ha
  exact ⟨sl,rfl,h⟩
 | .inl t :: l,e,e',sl,vs,h,ha=>by
  simp only [Zme] at ha
  obtain ⟨h1,h2⟩:=Zj1 ha
  split at h2
  ·rename_i us e1 hus
   cases h2
   obtain ⟨sl',a1,a2⟩:=VC.args (h.let_ t) hus
   refine ⟨sl',?_,a2⟩
   simp only [WU,h.get h1,a1,Option.map_some]
  ·cases h2
 | .inr x :: l,e,e',sl,vs,h,ha=>by
  simp only [Zme] at ha
  split at ha
  ·rename_i v hv
   split at ha
   ·rename_i us e1 hus
    cases ha
    obtain ⟨sl',a1,a2⟩:=VC.args h hus
    refine ⟨sl',?_,a2⟩
    simp only [WU,h.opnd hv,a1,Option.map_some]
   ·cases ha
  ·cases ha
end
end Go.Proofs.YtleomfgijkapfaaGreatDoor.Abs
end
section
namespace Go.Proofs.YtleomfgijkapfaaGreatDoor.Abs
open Go
section
variable {G:Nat→Option (List AV)}{N bs:Nat}{P:List Nat}{K:FuncId→List AV→List Z8→KR}
def Held (A:List (Nat×Bool))(sl:List AV):Prop:=∀ p ∈ A,sl[p.1]? = some (.bool p.2)
theorem Held.put {A:List (Nat×Bool)}{sl:List AV}(h:Held A sl){hp:List Z8}{ef:Eff}{bs:Nat}{d:Option Nat}(hd:∀ p ∈ A,d≠some p.1)(v:AV):Held A (Ze.put ⟨sl,hp,ef,bs⟩ d v).sl:=by
 cases d with
 | none=>exact h
 | some d =>
  intro p hp
  show (sl.set d v)[p.1]? = _
  rw [List.getElem?_set,if_neg (fun e=>hd p hp (by rw [e]))]
  exact h p hp
end
end Go.Proofs.YtleomfgijkapfaaGreatDoor.Abs
end
section
namespace Go.Proofs.YtleomfgijkapfaaGreatDoor.Abs
open Go
theorem ZqI (k:Nat)(r:List (List AV)):AV.nm (.own k r)=.lst k r:=rfl
theorem i64_in {x:Int}(h1:-9223372036854775808≤x)(h2:x≤9223372036854775807):IntKind.i64.wrap x=x:=IntWalk.i64_in x ⟨h1,h2⟩
theorem Zqt (n:Nat)(h:n < 4611686018427387904):IntKind.i64.wrap ((n:Int) + 1)=((n + 1:Nat):Int):=by rw [i64_in (by omega) (by omega)]; omega
end Go.Proofs.YtleomfgijkapfaaGreatDoor.Abs
end
end
