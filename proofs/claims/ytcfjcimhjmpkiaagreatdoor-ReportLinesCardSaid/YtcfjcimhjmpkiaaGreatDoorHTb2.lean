import Derived.Test.YtcfjcimhjmpkiaaGreatDoorHTb1
set_option linter.all false
section
section
namespace Go.Proofs.YtcfjcimhjmpkiaaGreatDoor.Abs
open Go Go.RowKit
section
variable {G:Nat→Option (List AV)}{call:FuncId→List AV→List AObj→Option (AV×List AObj×Eff)}
theorem bare_pure:∀ f args hp v hp' e,bareCall call f args hp=some (v,hp',e)→hp'=hp∧e=none:=by
 intro f args hp v hp' e h
 unfold bareCall at h
 split at h <;> first | (cases h; done) | skip
 split at h <;> first | (cases h; done) | skip
 split at h <;> first | (cases h; done) | skip
 cases h
 exact ⟨rfl,rfl⟩
theorem bare_any {f:FuncId}{args:List AV}{hp:List AObj}{v:AV}{hp':List AObj}{e:Eff}(h:bareCall call f args hp=some (v,hp',e))(h2:List AObj):bareCall call f args h2=some (v,h2,none):=by
 unfold bareCall at h ⊢
 split at h <;> first | (cases h; done) | skip
 rename_i hb
 rw [if_pos hb]
 split at h <;> first | (cases h; done) | skip
 rename_i hc
 split at h <;> first | (cases h; done) | skip
 cases h
 rfl
def Pfx (h h':List AObj):Prop:=∀ (g:Nat) (o:AObj),h[g]? = some o→h'[g]? = some o
theorem Pfx.take (n:Nat)(h:List AObj):Pfx (h.take n) h:=fun g o hg=>by
 rw [List.getElem?_take] at hg
 split at hg
 ·exact hg
 ·cases hg
theorem Pfx.look {h h':List AObj}(p:Pfx h h'):LookLe h h':=.of_get (fun g cs t hg=>⟨cs,t,p g _ hg,rfl⟩) fun g l t e m hg=>p g _ hg
theorem Pfx.rows {h h':List AObj}(p:Pfx h h'){x:AV}{r:Nat×List (List AV)}(hx:rowsOf h x=some r):rowsOf h' x=some r:=by
 unfold rowsOf at hx ⊢
 split at hx <;> first | exact hx | (cases hx; done) | skip
 split at hx <;> first | (cases hx; done) | skip
 rename_i hg
 rw [p _ _ hg]
 exact hx
theorem Pfx.len {h h':List AObj}(p:Pfx h h'){sh:LenSh}{x v:AV}(hx:lenVal h sh x=some v):lenVal h' sh x=some v:=by
 unfold lenVal at hx ⊢
 split at hx <;> first | exact hx | (cases hx; done) | skip
 split at hx <;> first | (cases hx; done) | skip
 rename_i hg
 rw [p _ _ hg]
 exact hx
theorem Pfx.conv {h h':List AObj}(p:Pfx h h'){c:Conv}{x v:AV}(hx:convVal h c x=some v):convVal h' c x=some v:=by
 unfold convVal at hx ⊢
 split at hx <;> first | exact hx | (cases hx; done) | skip
 split at hx <;> first | (cases hx; done) | skip
 rename_i hg
 rw [p.rows hg]
 exact hx
theorem op_pfx {ao:AOp}{k:HK}{s:AState}{v:AV}{s':AState}(hk:hkind ao=some k)(hk':k=.free∨k=.look∨k=.read)(h:evalOp G (bareCall call) s ao=some (v,s')){h2:List AObj}(p:Pfx s.hp h2) :
  s'.hp=s.hp∧s'.ef=s.ef∧s'.bs=s.bs∧evalOp G (bareCall call) { s with hp:=h2 } ao=some (v,{ s' with hp:=h2 }):=by
 have S:=op_spec bare_pure hk h
 have hst:s'.hp=s.hp∧s'.ef=s.ef:=S.still (by rcases hk' with rfl | rfl | rfl <;> trivial)
 refine ⟨hst.1,hst.2,S.bs,?_⟩
 have fin:evalOp G (bareCall call) { s with hp:=h2 } ao=some (v,⟨tkF ao s.sl,h2,s.ef,s.bs⟩)→evalOp G (bareCall call) { s with hp:=h2 } ao=some (v,{ s' with hp:=h2 }):=fun e=>by
  rw [e,← S.sl,← hst.2,← S.bs]
 refine fin ?_
 rcases hk' with rfl | rfl | rfl
 ·exact S.free rfl { s with hp:=h2 } (fun _ _=>rfl)
 ·exact S.look rfl { s with hp:=h2 } (fun _ _=>rfl) p.look
 ·cases ao <;> first | (simp only [hkind,Option.some.injEq,reduceCtorEq] at hk; done) | skip
  case lit e k parts=>cases parts <;> simp [hkind] at hk
  case len sh x =>
   simp only [evalOp] at h ⊢
   split at h <;> first | (cases h; done) | skip
   rename_i y hy
   obtain ⟨h1,rfl⟩:=pair_map h
   simp only [hy,p.len h1,Option.map_some]
   rfl
  case app k b t x =>
   simp only [evalOp] at h ⊢
   split at h <;> first | (cases h; done) | skip
   rename_i k' r y h1 h2
   split at h <;> first | (cases h; done) | skip
   rename_i k2 r2 h3
   split at h <;> first | (cases h; done) | skip
   rename_i hc
   cases h
   simp only [h1,h2,p.rows h3]
   rw [if_pos hc]
   rfl
  case appn k b x =>
   simp only [evalOp] at h ⊢
   split at h <;> first | (cases h; done) | skip
   rename_i y h2
   split at h <;> first | (cases h; done) | skip
   rename_i k2 r2 h3
   split at h <;> first | (cases h; done) | skip
   rename_i hc
   cases h
   simp only [h2,p.rows h3]
   rw [if_pos hc]
   rfl
  case conv c x =>
   simp only [evalOp] at h ⊢
   split at h <;> first | (cases h; done) | skip
   rename_i y hy
   obtain ⟨h1,rfl⟩:=pair_map h
   simp only [hy,p.conv h1,Option.map_some]
   rfl
  case call f args =>
   simp only [evalOp] at h ⊢
   split at h <;> first | (cases h; done) | skip
   rename_i g first caps vs sl hf hv
   split at h <;> first | (cases h; done) | skip
   rename_i u hp' e hc
   obtain ⟨rfl,rfl⟩:=bare_pure _ _ _ _ _ _ hc
   cases h
   have hsl:=S.sl
   simp only at hsl
   simp only [hf,hv,bare_any hc h2,AState.after]
   rw [hsl]
variable (G call)(base:Nat)(al:List Nat)
def evalPre (o:AOper)(s:AState):Option AState :=
 match evalOper G (bareCall call) o { s with hp:=s.hp.take base } with
 | some s'=>some { s' with hp:=s.hp }
 | none=>none
def isDead:Option AObj→Bool
 | some .dead=>true
 | _=>false
def evalMake (r:Nat)(o:AOper)(s:AState):Option AState :=
 if isDead s.hp[base + r]? = true∧s.bs≤base then
  match o.op with
  | .mk t cells=>some (({ s with hp:=s.hp.set (base + r) (.cells cells t) }:AState).put o.dst (.ptr (base + r) 0))
  | .box t n x=>match opnd G s.sl x with
   | some v=>if v.cells.length=n∧v.laid=true then some (({ s with hp:=s.hp.set (base + r) (.cells v.cells t) }:AState).put o.dst (.ptr (base + r) 0)) else none
   | none=>none
  | _=>none
 else none
def evalSet (r:Nat)(o:AOper)(s:AState):Option AState :=
 match setSlot o with
 | some t=>match s.sl[t]? with
  | some (.ptr g 0)=>if g=base + r∧s.bs≤base then evalOper G (bareCall call) o s else none
  | _=>none
 | none=>none
def evalR (o:AOper)(s:AState):Option AState :=
 match rcls al o with
 | .pre=>evalPre G call base o s
 | .at r=>match isAlloc o with
  | true=>evalMake G base r o s
  | false=>evalSet G call base r o s
 | .any=>evalOper G (bareCall call) o s
def evalRs:List AOper→AState→Option AState
 | [],s=>some s
 | o :: l,s=>match evalR G call base al o s with
  | some s'=>evalRs l s'
  | none=>none
variable {G call base al}
structure StepR (G:Nat→Option (List AV))(call:FuncId→List AV→List AObj→Option (AV×List AObj×Eff))(base:Nat)(al:List Nat)(o:AOper)(s s':AState)(f:List AV→List AV):Prop where
 loc:LocF (opWrites o) f
 sl:s'.sl=f s.sl
 bs:s'.bs=s.bs
 ef:s'.ef=s.ef
 pre:rcls al o=.pre→s'.hp=s.hp∧∀ t:AState,Agree (opReadsO o) s.sl t.sl→t.hp.take base=s.hp.take base→evalR G call base al o t=some ⟨f t.sl,t.hp,t.ef,t.bs⟩
 at_:∀ r,rcls al o=.at r→∃ x,s'.hp=s.hp.set (base + r) x∧∀ t:AState,Agree (opReadsO o) s.sl t.sl→t.hp[base + r]? = s.hp[base + r]?→t.bs=s.bs→evalR G call base al o t=some ⟨f t.sl,t.hp.set (base + r) x,t.ef,t.bs⟩
theorem isPre_kind {o:AOper}(h:isPre o=true):∃ k,hkind o.op=some k∧(k=.free∨k=.look∨k=.read):=by
 unfold isPre at h
 split at h <;> first | (cases h; done) | skip
 ·exact ⟨_,by assumption,.inl rfl⟩
 ·exact ⟨_,by assumption,.inr (.inl rfl)⟩
 ·exact ⟨_,by assumption,.inr (.inr rfl)⟩
theorem rcls_pre {o:AOper}(h:rcls al o=.pre):isPre o=true:=by
 unfold rcls at h
 split at h
 ·split at h
  ·split at h <;> cases h
  ·cases h
 ·split at h
  ·split at h <;> cases h
  ·split at h
   ·assumption
   ·cases h
theorem rcls_at {o:AOper}{r:Nat}(h:rcls al o=.at r):(isAlloc o=true∧∃ d,o.dst=some d∧idx d al=some r)∨(isAlloc o=false∧∃ t,setSlot o=some t∧idx t al=some r):=by
 unfold rcls at h
 split at h
 ·rename_i h1
  split at h
  ·split at h <;> cases h
   exact .inl ⟨h1,_,by assumption,by assumption⟩
  ·cases h
 ·rename_i h1
  split at h
  ·split at h <;> cases h
   exact .inr ⟨h1,_,by assumption,by assumption⟩
  ·split at h <;> cases h
theorem stepR_of {o:AOper}{s s':AState}(hc:rcls al o≠.any)(h:evalR G call base al o s=some s'):∃ f,StepR G call base al o s s' f:=by
 cases hr:rcls al o with
 | any=>exact absurd hr hc
 | pre =>
  obtain ⟨k,hk,hk'⟩:=isPre_kind (rcls_pre hr)
  have hev:∀ t,evalR G call base al o t=evalPre G call base o t:=fun t=>by unfold evalR; rw [hr]
  rw [hev] at h
  unfold evalPre at h
  split at h <;> first | (cases h; done) | skip
  rename_i s1 h1
  obtain rfl:=Option.some.inj h
  obtain ⟨f,S⟩:=step_of bare_pure hk h1
  have k1:=S.still (by rcases hk' with rfl | rfl | rfl <;> trivial)
  have k2:=S.read (by rcases hk' with rfl | rfl | rfl <;> trivial)
  refine ⟨f,S.loc,S.sl,S.bs,k1.2,fun _=>⟨rfl,fun t ht he=>?_⟩,fun r e=>by rw [hr] at e; cases e⟩
  rw [hev]
  unfold evalPre
  rw [k2 { t with hp:=t.hp.take base } ht he]
 | «at» r =>
  have hev:∀ t,evalR G call base al o t=(match isAlloc o with | true=>evalMake G base r o t | false=>evalSet G call base r o t):=fun t=>by unfold evalR; rw [hr]
  rw [hev] at h
  cases hal:isAlloc o with
  | true =>
   rw [hal] at h
   replace h:evalMake G base r o s=some s':=h
   have hg:o.guard=none:=by
    unfold isAlloc at hal
    split at hal <;> first | (cases hal; done) | assumption
   unfold evalMake at h
   split at h <;> first | (cases h; done) | skip
   rename_i hd
   split at h <;> first | (cases h; done) | skip
   ·rename_i t cells hop
    obtain rfl:=Option.some.inj h
    refine ⟨putF o.dst (.ptr (base + r) 0),⟨?_,by rw [putF_eq],by rw [putF_eq],by rw [putF_eq],fun e=>(by rw [hr] at e; cases e),fun q e=>?_⟩⟩
    ·have:=(LocF.id (opTakes o.op)).comp (putF_loc o.dst (.ptr (base + r) 0))
     exact this
    ·rw [hr] at e
     cases e
     refine ⟨.cells cells t,by rw [putF_eq],fun t' ht he hb=>?_⟩
     rw [hev,hal]
     show evalMake G base r o t'=_
     unfold evalMake
     rw [he,hb,if_pos hd,hop]
     simp only [putF_eq,hb]
   ·rename_i t n x hop
    split at h <;> first | (cases h; done) | skip
    rename_i v hv
    split at h <;> first | (cases h; done) | skip
    rename_i hn
    obtain rfl:=Option.some.inj h
    refine ⟨putF o.dst (.ptr (base + r) 0),⟨?_,by rw [putF_eq],by rw [putF_eq],by rw [putF_eq],fun e=>(by rw [hr] at e; cases e),fun q e=>?_⟩⟩
    ·have:=(LocF.id (opTakes o.op)).comp (putF_loc o.dst (.ptr (base + r) 0))
     exact this
    ·rw [hr] at e
     cases e
     refine ⟨.cells v.cells t,by rw [putF_eq],fun t' ht he hb=>?_⟩
     have hx:opnd G t'.sl x=some v:=by
      rw [← hv]
      refine (opnd_congr (G := G) (x := x) ?_).symm
      exact fun i hi=>ht i (List.mem_append_right _ (by rw [hop]; exact hi))
     rw [hev,hal]
     show evalMake G base r o t'=_
     unfold evalMake
     rw [he,hb,if_pos hd,hop]
     simp only [hx,putF_eq,hb]
     rw [if_pos hn]
  | false =>
   rw [hal] at h
   replace h:evalSet G call base r o s=some s':=h
   have hev':∀ t,evalR G call base al o t=evalSet G call base r o t:=fun t=>by rw [hev,hal]
   unfold evalSet at h
   split at h <;> first | (cases h; done) | skip
   rename_i q hq
   split at h <;> first | (cases h; done) | skip
   rename_i g hs
   split at h <;> first | (cases h; done) | skip
   rename_i hg
   obtain ⟨rfl,hbs⟩:=hg
   have hgd:o.guard=none:=by
    unfold setSlot at hq
    split at hq <;> first | (cases hq; done) | assumption
   have hw:∀ t,wantedA t o.guard=some true:=fun t=>by rw [hgd]; rfl
   simp only [evalOper,hw] at h
   split at h <;> first | (cases h; done) | skip
   rename_i v s1 he
   obtain rfl:=Option.some.inj h
   have hpt:∀ t:AState,t.sl[q]? = s.sl[q]?→opnd G t.sl (.tmp q)=some (.ptr (base + r) 0):=fun t e=>by simp only [opnd,e,hs]; rfl
   have hnote:∀ t:AState,t.bs=s.bs→t.note (base + r) 0=t.ef:=fun t e=>by
    unfold AState.note
    rw [if_neg (by omega)]
   unfold setSlot at hq
   split at hq <;> first | (cases hq; done) | skip
   ·rename_i n q' x hop _
    obtain rfl:=Option.some.inj hq
    rw [hop] at he
    simp only [evalOp,hpt s rfl] at he
    split at he <;> first | (cases he; done) | skip
    rename_i g0 o0 u h1 h2
    cases h1
    split at he <;> first | (cases he; done) | (split at he <;> first | (cases he; done) | (rename_i hlow; exact absurd hlow.2.1 (by decide))) | skip
    rename_i cs ty hcs
    split at he <;> first | (cases he; done) | skip
    rename_i hn
    cases he
    refine ⟨putF o.dst .undef,⟨?_,by rw [putF_eq],by rw [putF_eq],by rw [putF_eq]; exact hnote s rfl,fun e=>(by rw [hr] at e; cases e),fun q2 e=>?_⟩⟩
    ·have:=(LocF.id (opTakes o.op)).comp (putF_loc o.dst .undef)
     exact this
    ·rw [hr] at e
     cases e
     refine ⟨.cells (splice cs 0 u.cells) ty,by rw [putF_eq],fun t' ht he hb=>?_⟩
     have a0:Agree (oR (.tmp q') ++ oR x) s.sl t'.sl:=fun i hi=>ht i (List.mem_append_right _ (by rw [hop]; exact hi))
     have e1:=a0.left q' (.head _)
     rw [hev']
     unfold evalSet setSlot
     rw [hop,hgd]
     simp only
     rw [← e1,hs]
     simp only
     rw [if_pos ⟨trivial,by omega⟩]
     simp only [evalOper,hw]
     rw [hop]
     simp only [evalOp,hpt t' e1.symm,← opnd_congr (G := G) (x := x) a0.right,h2,he,hcs]
     rw [if_pos hn]
     simp only [putF_eq,hnote t' hb]
   ·rename_i q' x hop _
    obtain rfl:=Option.some.inj hq
    rw [hop] at he
    simp only [evalOp,hpt s rfl] at he
    split at he <;> first | (cases he; done) | skip
    rename_i g0 o0 u h1 h2
    cases h1
    split at he <;> first | (cases he; done) | skip
    rename_i cs ty hcs
    split at he <;> first | (cases he; done) | skip
    rename_i hn
    cases he
    have hto:opTakes o.op=[x]:=by rw [hop]; rfl
    refine ⟨fun l=>putF o.dst .undef (l.modify x AV.ro),⟨?_,by rw [putF_eq]; rfl,by rw [putF_eq]; rfl,by rw [putF_eq]; exact hnote s rfl,fun e=>(by rw [hr] at e; cases e),fun q2 e=>?_⟩⟩
    ·have:=(LocF.mod x).comp (putF_loc o.dst .undef)
     unfold opWrites
     rw [hto]
     exact this
    ·rw [hr] at e
     cases e
     refine ⟨.cells (cs.set 0 u) ty,by rw [putF_eq],fun t' ht he hb=>?_⟩
     have a0:Agree (x :: oR (.tmp q')) s.sl t'.sl:=fun i hi=>ht i (List.mem_append_right _ (by rw [hop]; exact hi))
     have e1:=a0 q' (.tail _ (.head _))
     have e2:=a0 x (.head _)
     rw [hev']
     unfold evalSet setSlot
     rw [hop,hgd]
     simp only
     rw [← e1,hs]
     simp only
     rw [if_pos ⟨trivial,by omega⟩]
     simp only [evalOper,hw]
     rw [hop]
     simp only [evalOp,hpt t' e1.symm,← e2,h2,he,hcs]
     rw [if_pos hn]
     simp only [putF_eq,hnote t' hb]
     rfl
theorem swapR {o1 o2:AOper}{s s1 s2:AState}(hc:commR al o1 o2=true)(h1:evalR G call base al o1 s=some s1)(h2:evalR G call base al o2 s1=some s2) :
  ∃ u,evalR G call base al o2 s=some u∧evalR G call base al o1 u=some s2:=by
 simp only [commR,slotsApart,Bool.and_eq_true] at hc
 obtain ⟨hk,⟨ha,hb⟩,hd⟩:=hc
 have n1:rcls al o1≠.any:=fun e=>by rw [e] at hk; cases hk
 have n2:rcls al o2≠.any:=fun e=>by rw [e] at hk; cases h:rcls al o1 <;> rw [h] at hk <;> cases hk
 obtain ⟨f1,S1⟩:=stepR_of n1 h1
 obtain ⟨f2,S2⟩:=stepR_of n2 h2
 have A2:Agree (opReadsO o2) s1.sl s.sl:=by rw [S1.sl]; exact (Agree.of_loc S1.loc ha s.sl).symm
 have A1:∀ u:AState,u.sl=f2 s.sl→Agree (opReadsO o1) s.sl u.sl:=fun u hu=>by rw [hu]; exact Agree.of_loc S2.loc hd s.sl
 have fin:∀ (u:AState) (hp:List AObj),u.sl=f2 s.sl→u.bs=s.bs→u.ef=s.ef→hp=s2.hp→evalR G call base al o1 u=some ⟨f1 u.sl,hp,u.ef,u.bs⟩→evalR G call base al o1 u=some s2:=fun u hp e1 e2 e3 e4 h=>by
  rw [h]
  have q1:f1 u.sl=s2.sl:=by rw [e1,S2.sl,S1.sl]; exact S1.loc.swap S2.loc hb s.sl
  have q2:u.bs=s2.bs:=by rw [e2,S2.bs,S1.bs]
  have q3:u.ef=s2.ef:=by rw [e3,S2.ef,S1.ef]
  rw [q1,q2,q3,e4]
 have tk:∀ (h:List AObj) (r:Nat) (x:AObj),(h.set (base + r) x).take base=h.take base:=fun h r x=>by
  rw [List.take_set_of_le (by omega)]
 cases r1:rcls al o1 with
 | any=>exact absurd r1 n1
 | pre =>
  obtain ⟨p1,p2⟩:=S1.pre r1
  cases r2:rcls al o2 with
  | any=>exact absurd r2 n2
  | pre =>
   obtain ⟨p3,p4⟩:=S2.pre r2
   exact ⟨_,p4 s A2 (by rw [p1]),fin _ _ rfl rfl rfl (by rw [p3,p1]) (p2 _ (A1 _ rfl) rfl)⟩
  | «at» r =>
   obtain ⟨x,p3,p4⟩:=S2.at_ r r2
   exact ⟨_,p4 s A2 (by rw [p1]) S1.bs.symm,fin _ _ rfl rfl rfl (by rw [p3,p1]) (p2 _ (A1 _ rfl) (tk _ _ _))⟩
 | «at» r =>
  obtain ⟨x,p1,p2⟩:=S1.at_ r r1
  cases r2:rcls al o2 with
  | any=>exact absurd r2 n2
  | pre =>
   obtain ⟨p3,p4⟩:=S2.pre r2
   exact ⟨_,p4 s A2 (by rw [p1,tk]),fin _ _ rfl rfl rfl (by rw [p3,p1]) (p2 _ (A1 _ rfl) rfl rfl)⟩
  | «at» q =>
   rw [r1,r2] at hk
   have hne:r≠q:=by simpa using hk
   obtain ⟨y,p3,p4⟩:=S2.at_ q r2
   have o1':∀ (h:List AObj) (z:AObj),(h.set (base + r) z)[base + q]? = h[base + q]?:=fun h z=>List.getElem?_set_ne (by omega)
   have o2':∀ (h:List AObj) (z:AObj),(h.set (base + q) z)[base + r]? = h[base + r]?:=fun h z=>List.getElem?_set_ne (by omega)
   exact ⟨_,p4 s A2 (by rw [p1,o1']) S1.bs.symm,fin _ _ rfl rfl rfl (by rw [p3,p1]; exact List.set_comm _ _ (by omega)) (p2 _ (A1 _ rfl) (o2' _ _) rfl)⟩
theorem bubbleR {o:AOper}{l2:List AOper}{sF:AState}:∀ {l1:List AOper} {s:AState},(∀ x ∈ l1,commR al x o=true)→evalRs G call base al (l1 ++ o :: l2) s=some sF →
  ∃ u,evalR G call base al o s=some u∧evalRs G call base al (l1 ++ l2) u=some sF
 | [],s,_,h=>by
  simp only [List.nil_append,evalRs] at h
  split at h <;> first | (cases h; done) | skip
  rename_i u hu
  exact ⟨u,hu,h⟩
 | x :: l1,s,hx,h=>by
  simp only [List.cons_append,evalRs] at h
  split at h <;> first | (cases h; done) | skip
  rename_i s1 h1
  obtain ⟨u1,h2,h3⟩:=bubbleR (fun y hy=>hx y (List.mem_cons_of_mem _ hy)) h
  obtain ⟨u,h4,h5⟩:=swapR (hx x (List.mem_cons_self ..)) h1 h2
  refine ⟨u,h4,?_⟩
  simp only [List.cons_append,evalRs,h5]
  exact h3
end
section
variable {G:Nat→Option (List AV)}{call:FuncId→List AV→List AObj→Option (AV×List AObj×Eff)}{base:Nat}{al:List Nat}
theorem idx_get:∀ {l:List Nat} {k t:Nat},nodupB l=true→l[k]? = some t→idx t l=some k
 | [],k,t,_,h=>by simp at h
 | u :: l,k,t,hn,h=>by
  simp only [nodupB,Bool.and_eq_true,Bool.not_eq_true'] at hn
  unfold idx
  cases k with
  | zero=>simp only [List.getElem?_cons_zero,Option.some.injEq] at h; rw [if_pos h]
  | succ k =>
   simp only [List.getElem?_cons_succ] at h
   have:u≠t:=fun e=>by
    subst e
    have:=List.mem_of_getElem? h
    simp [this] at hn
   rw [if_neg this,idx_get hn.2 h]
   rfl
theorem get_idx:∀ {l:List Nat} {k t:Nat},idx t l=some k→l[k]? = some t
 | [],k,t,h=>by cases h
 | u :: l,k,t,h=>by
  unfold idx at h
  split at h
  ·rename_i e
   cases h
   simp [e]
  ·obtain ⟨q,hq,rfl⟩:=Option.map_eq_some_iff.1 h
   simpa using get_idx hq
def deads (n:Nat):List AObj:=List.replicate n .dead
theorem apart_not {l m:List Nat}(h:apartB l m=true){t:Nat}(ht:t ∈ m):t ∉ l:=fun hl=>by
 have:=List.all_eq_true.1 h t hl
 simp [ht] at this
theorem oper_bs {call:FuncId→List AV→List AObj→Option (AV×List AObj×Eff)}(hq:∀ f args hp v hp' e,call f args hp=some (v,hp',e)→hp'=hp∧e=none){o:AOper}{k:HK}{s s':AState}(hk:hkind o.op=some k)(h:evalOper G call o s=some s'):s'.bs=s.bs∧∀ t,t ∉ opWrites o→s'.sl[t]? = s.sl[t]?:=by
 obtain ⟨f,S⟩:=step_of hq hk h
 exact ⟨S.bs,fun t ht=>by rw [S.sl,S.loc.out _ _ ht]⟩
theorem set_len {call:FuncId→List AV→List AObj→Option (AV×List AObj×Eff)}{o:AOper}{s s':AState}(hk:hkind o.op=some .set)(h:evalOper G call o s=some s'):s'.hp.length=s.hp.length:=by
 simp only [evalOper] at h
 split at h <;> first | (cases h; done) | skip
 ·split at h <;> first | (cases h; done) | skip
  rename_i v s1 he
  obtain rfl:=Option.some.inj h
  rw [putF_eq]
  show s1.hp.length=_
  cases hop:o.op <;> rw [hop] at hk he <;> first | (simp only [hkind,Option.some.injEq,reduceCtorEq] at hk; done) | skip
  case lit e k parts=>cases parts <;> simp [hkind] at hk
  case call f args=>simp only [hkind] at hk; split at hk <;> simp at hk
  all_goals
   simp only [evalOp] at he
   repeat' split at he
   all_goals first
    | (cases he; done)
    | (cases he; simp [AState.let_])
 ·obtain rfl:=Option.some.inj h
  rw [putF_eq]
theorem sim (hnd:nodupB al=true):∀ {l:List AOper} {k:Nat} {s sF:AState},okFrom al k l=true→k≤al.length→evalOps G (bareCall call) l s=some sF→s.bs≤base→s.hp.length=base + k→(∀ (r t:Nat) (v:AV),r < k→al[r]? = some t→s.sl[t]? = some v→v=.ptr (base + r) 0) →
  evalRs G call base al l { s with hp:=s.hp ++ deads (al.length - k) } = some sF
 | [],k,s,sF,ho,hk,h,hbs,hl,hs=>by
  simp only [okFrom,beq_iff_eq] at ho
  obtain rfl:=Option.some.inj h
  subst ho
  simp only [evalRs,Nat.sub_self,deads,List.replicate_zero,List.append_nil]
 | o :: l,k,s,sF,ho,hk,h,hbs,hl,hs=>by
  simp only [evalOps] at h
  split at h <;> first | (cases h; done) | skip
  rename_i s1 h1
  simp only [okFrom] at ho
  cases hal:isAlloc o with
  | true =>
   rw [hal] at ho
   simp only [Bool.and_eq_true,beq_iff_eq] at ho
   obtain ⟨hd,ho⟩:=ho
   have hg:o.guard=none:=by
    unfold isAlloc at hal
    split at hal <;> first | (cases hal; done) | assumption
   obtain ⟨t,ht⟩:∃ t,o.dst=some t:=by
    unfold isAlloc at hal
    split at hal <;> first | (cases hal; done) | exact ⟨_,by assumption⟩
   rw [ht] at hd
   have hkl:k < al.length:=(List.getElem?_eq_some_iff.1 hd.symm).1
   have hcls:rcls al o=.at k:=by
    unfold rcls
    rw [hal,ht]
    simp only
    rw [idx_get hnd hd.symm]
   have hdead:({ s with hp:=s.hp ++ deads (al.length - k) }:AState).hp[base + k]? = some .dead:=by
    show (s.hp ++ deads (al.length - k))[base + k]? = _
    rw [List.getElem?_append_right (by omega),hl,Nat.sub_self]
    unfold deads
    rw [List.getElem?_replicate,if_pos (by omega)]
   have hset:∀ x:AObj,(s.hp ++ deads (al.length - k)).set (base + k) x=(s.hp ++ [x]) ++ deads (al.length - (k + 1)):=fun x=>by
    rw [List.set_append_right _ _ (by omega),hl,Nat.sub_self]
    obtain ⟨m,hm⟩:∃ m,al.length - k=m + 1:=⟨al.length - k - 1,by omega⟩
    have:al.length - (k + 1)=m:=by omega
    rw [hm,this]
    simp [deads,List.replicate_succ]
   have key:∀ x:AObj,s1=({ s with hp:=s.hp ++ [x] }:AState).put o.dst (.ptr s.hp.length 0)→evalR G call base al o { s with hp:=s.hp ++ deads (al.length - k) } = some (({ s with hp:=(s.hp ++ deads (al.length - k)).set (base + k) x }:AState).put o.dst (.ptr (base + k) 0)) →
     evalRs G call base al (o :: l) { s with hp:=s.hp ++ deads (al.length - k) } = some sF:=fun x e1 e2=>by
    simp only [evalRs]
    rw [e2]
    have:=sim hnd (l := l) (k := k + 1) (s := s1) ho hkl h (by rw [e1,ht]; exact hbs) (by rw [e1,ht]; simp [AState.put,hl]; omega) (fun r q v hr hq hv=>by
     rw [e1,ht] at hv
     simp only [AState.put] at hv
     by_cases e:r=k
     ·subst e
      rw [← hd] at hq
      cases hq
      rw [List.getElem?_set] at hv
      split at hv
      ·split at hv
       ·rw [← Option.some.inj hv,hl]
       ·cases hv
      ·rename_i ne; exact absurd rfl ne
     ·refine hs r q v (by omega) hq ?_
      rw [List.getElem?_set_ne] at hv
      ·exact hv
      ·intro e'
       subst e'
       have i1:=idx_get hnd hq
       rw [idx_get hnd hd.symm] at i1
       cases i1
       exact e rfl)
    rw [← this,e1,ht]
    simp only [AState.put,hset,hl]
   simp only [evalOper,hg,wantedA] at h1
   split at h1 <;> first | (cases h1; done) | skip
   rename_i v s2 hev
   obtain rfl:=Option.some.inj h1
   have hR:evalR G call base al o { s with hp:=s.hp ++ deads (al.length - k) } = evalMake G base k o { s with hp:=s.hp ++ deads (al.length - k) }:=by
    unfold evalR
    rw [hcls,hal]
   have hif:isDead ({ s with hp:=s.hp ++ deads (al.length - k) }:AState).hp[base + k]? = true∧({ s with hp:=s.hp ++ deads (al.length - k) }:AState).bs≤base:=⟨by rw [hdead]; rfl,hbs⟩
   cases hop:o.op with
   | mk t' cells =>
    rw [hop] at hev
    cases hev
    refine key _ rfl ?_
    rw [hR]
    unfold evalMake
    rw [if_pos hif,hop]
   | box t' n x =>
    rw [hop] at hev
    simp only [evalOp] at hev
    split at hev <;> first | (cases hev; done) | skip
    rename_i u hu
    split at hev <;> first | (cases hev; done) | skip
    rename_i hn
    cases hev
    refine key _ rfl ?_
    rw [hR]
    unfold evalMake
    rw [if_pos hif,hop]
    simp only [hu]
    rw [if_pos hn]
   | _=>unfold isAlloc at hal; rw [hop] at hal; simp at hal
  | false =>
   rw [hal] at ho
   simp only [Bool.and_eq_true,Bool.or_eq_true] at ho
   obtain ⟨⟨ho1,ho2⟩,ho3⟩:=ho
   have go:∀ q:HK,hkind o.op=some q→s1.hp.length=s.hp.length→evalR G call base al o { s with hp:=s.hp ++ deads (al.length - k) } = some { s1 with hp:=s1.hp ++ deads (al.length - k) }→evalRs G call base al (o :: l) { s with hp:=s.hp ++ deads (al.length - k) } = some sF:=fun q hq hlen e=>by
    obtain ⟨b1,b2⟩:=oper_bs bare_pure hq h1
    simp only [evalRs]
    rw [e]
    refine sim hnd ho3 hk h (by rw [b1]; exact hbs) (by rw [hlen]; exact hl) fun r t v hr ht hv=>hs r t v hr ht ?_
    rw [← b2 t (apart_not ho2 (List.mem_of_getElem? ht))]
    exact hv
   have pre:∀ q:HK,hkind o.op=some q→(q=.free∨q=.look∨q=.read)→setSlot o=none→(q=.free∨k=0)→evalRs G call base al (o :: l) { s with hp:=s.hp ++ deads (al.length - k) } = some sF:=fun q hq hq' hns hk0=>by
    obtain ⟨f,S⟩:=step_of bare_pure hq h1
    have st:=S.still (by rcases hq' with rfl | rfl | rfl <;> trivial)
    have hcls:rcls al o=.pre:=by
     unfold rcls
     rw [hal]
     simp only
     rw [hns]
     have:isPre o=true:=by unfold isPre; rw [hq]; rcases hq' with rfl | rfl | rfl <;> rfl
     simp [this]
    refine go q hq (by rw [st.1]) ?_
    unfold evalR
    rw [hcls]
    simp only
    unfold evalPre
    have hrun:evalOper G (bareCall call) o { s with hp:=(s.hp ++ deads (al.length - k)).take base } = some ⟨f s.sl,(s.hp ++ deads (al.length - k)).take base,s.ef,s.bs⟩:=by
     rcases hk0 with rfl | rfl
     ·exact S.free rfl { s with hp:=(s.hp ++ deads (al.length - k)).take base } (fun _ _=>rfl)
     ·have:(s.hp ++ deads (al.length - 0)).take base=s.hp:=by
       rw [List.take_append_of_le_length (by omega),List.take_of_length_le (by omega)]
      rw [this]
      exact S.read (by rcases hq' with rfl | rfl | rfl <;> trivial) s (fun _ _=>rfl) rfl
    have e0:evalOper G (bareCall call) o { ({ s with hp:=s.hp ++ deads (al.length - k) }:AState) with hp:=({ s with hp:=s.hp ++ deads (al.length - k) }:AState).hp.take base } = some ⟨f s.sl,(s.hp ++ deads (al.length - k)).take base,s.ef,s.bs⟩:=hrun
    rw [e0]
    simp only
    rw [st.1,← S.sl,← st.2,← S.bs]
   rcases ho1 with (ho1 | ho1) | ho1
   ·have hq:hkind o.op=some .free:=by
     unfold isFree at ho1
     split at ho1
     ·assumption
     ·cases ho1
    refine pre .free hq (.inl rfl) ?_ (.inl rfl)
    unfold setSlot
    split <;> first | rfl | (rename_i hop _; rw [hop] at hq; cases hq)
   ·simp only [beq_iff_eq] at ho1
    obtain ⟨q,hq,hq'⟩:=isPre_kind ho1.1
    refine pre q hq hq' ?_ (.inr ho1.2)
    unfold setSlot
    split <;> first | rfl | (rename_i hop _; rw [hop] at hq; cases hq; rcases hq' with h | h | h <;> cases h)
   ·simp only [beq_iff_eq] at ho1
    obtain ⟨ho1,rfl⟩:=ho1
    have hq:hkind o.op=some .set:=by
     unfold isSet at ho1
     split at ho1
     ·assumption
     ·cases ho1
    have hnp:isPre o=false:=by unfold isPre; rw [hq]
    refine go .set hq (set_len hq h1) ?_
    have e0:∀ x:AState,({ x with hp:=x.hp ++ deads (al.length - al.length) }:AState)=x:=fun x=>by simp [deads]
    rw [e0 s,e0 s1]
    unfold evalR
    cases hc:rcls al o with
    | any=>exact h1
    | pre=>have:=rcls_pre hc; rw [hnp] at this; cases this
    | «at» r =>
     simp only
     rw [hal]
     rcases rcls_at hc with ⟨e,_⟩ | ⟨_,t,ht,hr⟩
     ·rw [hal] at e; cases e
     ·have hget:=get_idx hr
      have hrl:r < al.length:=(List.getElem?_eq_some_iff.1 hget).1
      obtain ⟨v,hv⟩:∃ v,s.sl[t]? = some v:=by
       cases hv:s.sl[t]? with
       | some v=>exact ⟨v,rfl⟩
       | none =>
        exfalso
        have hnone:opnd G s.sl (.tmp t)=none:=by simp only [opnd,hv]; rfl
        simp only [evalOper] at h1
        unfold setSlot at ht
        split at ht <;> first | (cases ht; done) | skip
        all_goals
         rename_i hop hgd
         obtain rfl:=Option.some.inj ht
         rw [hgd] at h1
         simp only [wantedA] at h1
         rw [hop] at h1
         simp only [evalOp,hnone] at h1
         cases h1
      have hp:=hs r t v hrl hget hv
      subst hp
      show evalSet G call base r o s=some s1
      unfold evalSet
      rw [ht]
      simp only
      rw [hv]
      simp only
      rw [if_pos ⟨trivial,hbs⟩]
      exact h1
end
section
variable {P:Program}{G:Nat→Option (List AV)}{call:FuncId→List AV→List AObj→Option (AV×List AObj×Eff)}{E:Entry}{s s':AState}{Γ:Ghost}{a:Act}{w:World}{hand:Nat→Bool}{draw:Bool}{o:Oper}{base:Nat}{al:List Nat}
theorem none_getD {ao:AOp}(h:(cOp P hand draw o).getD .bad=ao)(hb:ao≠.bad):cOp P hand draw o=some ao:=by
 cases hc:cOp P hand draw o with
 | none=>rw [hc] at h; exact absurd h.symm hb
 | some x=>rw [hc] at h; exact congrArg some h
theorem cOp_mk {t:TypeId}{cells:List AV}(h:cOp P hand draw o=some (.mk t cells)):∃ z,o.op=.alloc t∧zeroMk P t=some z∧z.cells.all AV.one=true∧cells=z.cells:=by
 unfold cOp at h
 repeat' split at h
 all_goals first
  | (cases h; done)
  | (obtain ⟨_,_,e⟩:=Option.map_eq_some_iff.1 h; cases e; done)
  | (cases h; exact ⟨_,by assumption,by assumption,by assumption,rfl⟩)
theorem cOp_box {t:TypeId}{n:Nat}{x:Opnd}(h:cOp P hand draw o=some (.box t n x)):∃ x',o.op=.box t x'∧cOpnd P t x'=some x:=by
 unfold cOp at h
 repeat' split at h
 all_goals first
  | (cases h; done)
  | (obtain ⟨_,h1,e⟩:=Option.map_eq_some_iff.1 h; cases e; exact ⟨_,by assumption,h1⟩)
  | (obtain ⟨_,h1,e⟩:=Option.map_eq_some_iff.1 h; cases e; done)
theorem fill_obj (hI:Inv E s Γ a w){e:TypeId}{v:AV}{cv:Value}{n:Nat}(hd:s.hp[n]? = some .dead)(hb:s.bs≤n)(hr:Rep Γ w v cv)(hl:v.laid=true)(hn:∀ k r,v=.own k r→r=[]∧cv=.slice none 0 0) :
  Inv E { s with hp:=s.hp.set n (.cells v.cells e) } (setG Γ w.heap.size (.own n)) a (w.alloc (.cells cv.cells e))∧Rep (setG Γ w.heap.size (.own n)) (w.alloc (.cells cv.cells e)) (.ptr n 0) (.pointer (some ⟨w.heap.size,0,none⟩)):=by
 obtain ⟨a1,a2⟩:=hr.cellsRep hl hn
 have st:=step_alloc hI.rw.fresh (.cells cv.cells e) (.own n)
 refine ⟨hI.fill _ _ hd hb ⟨w.heap.size,cv.cells,setG_same _ _ _,heap_alloc_new w _,a1,fun i c hc=>?_⟩,.ptr _ _ _ (setG_same _ _ _)⟩
 obtain ⟨b1,b2,b3⟩:=a2 i c hc
 exact ⟨b1,b2.mono st.fix st.own,.nil b3⟩
theorem make_ok (hG:GOk G E.W0)(hI:Inv E s Γ a w){g:Option (Nat×Bool)}{r:Nat}{u:AState}(he:evalMake G base r ⟨o.dst,(cOp P hand draw o).getD .bad,g⟩ s=some u){K:Act→World→Prop}{Q:Exit→Act→World→Prop}(hK:∀ Γ a w,Inv E u Γ a w→K a w) :
  o.wp P a w K Q:=by
 unfold evalMake at he
 split at he <;> first | (cases he; done) | skip
 rename_i hd
 obtain ⟨hd,hbs⟩:=hd
 have hd':s.hp[base + r]? = some .dead:=by
  unfold isDead at hd
  split at hd
  ·assumption
  ·cases hd
 split at he <;> first | (cases he; done) | skip
 ·rename_i t cells hop
  obtain rfl:=Option.some.inj he
  obtain ⟨z,h1,h2,h3,rfl⟩:=cOp_mk (none_getD hop (by nofun))
  obtain ⟨i,zv,hi,hzv,hrep⟩:=zeroMk_spec h2
  obtain ⟨k1,k2⟩:=hrep Γ w
  obtain ⟨i1,i2⟩:=fill_obj hI (e := t) hd' (by omega) k1 (laid_of_one h3) k2
  have hrun:(execOp a.eval o).run P w=.ok (.value (.pointer (some ⟨w.heap.size,0,none⟩))) (w.alloc (.cells zv.cells t)):=by
   simp only [execOp,h1]
   simp [Instr.alloc,zeroValue,typeInfo,hi,hzv,newVar,newRow]
  unfold Oper.wp
  rw [hrun]
  obtain ⟨Γ2,j2⟩:=i1.put o.dst i2 (.of_ne (by simp))
  exact hK _ _ _ j2
 ·rename_i t n x hop
  split at he <;> first | (cases he; done) | skip
  rename_i v hv
  split at he <;> first | (cases he; done) | skip
  rename_i hl
  obtain rfl:=Option.some.inj he
  obtain ⟨x',h1,h2⟩:=cOp_box (none_getD hop (by nofun))
  obtain ⟨k1,k2⟩:=cOpnd_rep hG hI h2 hv
  obtain ⟨i1,i2⟩:=fill_obj hI (e := t) hd' (by omega) k1 hl.2 k2
  have hrun:(execOp a.eval o).run P w=.ok (.value (.pointer (some ⟨w.heap.size,0,none⟩))) (w.alloc (.cells (a.eval x').cells t)):=by
   simp only [execOp,h1]
   simp [Instr.box,newVar,newRow]
  unfold Oper.wp
  rw [hrun]
  obtain ⟨Γ2,j2⟩:=i1.put o.dst i2 (.of_ne (by simp))
  exact hK _ _ _ j2
theorem plain_ok (hG:GOk G E.W0)(hS:CallSpec P E.W0 call){ops:Array Oper}{g:Option (Nat×Bool)}{u:AState}{K:Act→World→Prop}{Q:Exit→Act→World→Prop}(h2:cGuard ops o.guard=some g)
  (he:evalOper G call ⟨o.dst,(cOp P hand draw o).getD .bad,g⟩ s=some u) (hI:Inv E s Γ a w) (hK:∀ Γ a w,Inv E u Γ a w→K a w) :
  if Region.wanted o (yielded ops a.tmps)=true then o.wp P a w K Q∨(o.asks P a w∧LetsOut Q) else K (a.put o.dst Go.undef) w:=by
 simp only [evalOper] at he
 split at he <;> first | (cases he; done) | skip
 ·rename_i hw
  rw [wanted_ok hI h2 hw]
  split at he <;> first | (cases he; done) | skip
  rename_i v s2 hev
  obtain rfl:=Option.some.inj he
  simp only [if_true]
  refine .inl (op_wp hG hS hI (some_of_eval hev) hev fun Γ' cv w' i1 r1 o1=>?_)
  obtain ⟨Γ2,i2⟩:=i1.put o.dst r1 o1
  exact hK _ _ _ i2
 ·rename_i hw
  rw [wanted_ok hI h2 hw]
  obtain rfl:=Option.some.inj he
  simp only [Bool.false_eq_true,if_false]
  obtain ⟨Γ2,i2⟩:=hI.put o.dst (v := .undef) (cv := Go.undef) .undef (.of_ne (by simp))
  exact hK _ _ _ i2
theorem operR_ok (hG:GOk G E.W0)(hS:CallSpec P E.W0 (bareCall call)){ops:Array Oper}{g:Option (Nat×Bool)}{u:AState}{K:Act→World→Prop}{Q:Exit→Act→World→Prop}(h2:cGuard ops o.guard=some g)
  (he:evalR G call base al ⟨o.dst,(cOp P hand draw o).getD .bad,g⟩ s=some u) (hI:Inv E s Γ a w) (hK:∀ Γ a w,Inv E u Γ a w→K a w) :
  if Region.wanted o (yielded ops a.tmps)=true then o.wp P a w K Q∨(o.asks P a w∧LetsOut Q) else K (a.put o.dst Go.undef) w:=by
 unfold evalR at he
 split at he
 ·
  rename_i hc
  obtain ⟨k,hk,hk'⟩:=isPre_kind (rcls_pre hc)
  refine plain_ok (hand := hand) (draw := draw) hG hS h2 ?_ hI hK
  unfold evalPre at he
  split at he <;> first | (cases he; done) | skip
  rename_i s1 h1
  obtain rfl:=Option.some.inj he
  show evalOper G (bareCall call) ⟨o.dst,(cOp P hand draw o).getD .bad,g⟩ s=_
  simp only [evalOper] at h1 ⊢
  have wg:∀ h,wantedA { s with hp:=h } g=wantedA s g:=fun h=>by cases g <;> rfl
  rw [wg] at h1
  split at h1 <;> first | (cases h1; done) | skip
  ·rename_i hw
   split at h1 <;> first | (cases h1; done) | skip
   rename_i v s2 hev
   obtain rfl:=Option.some.inj h1
   obtain ⟨e1,e2,e3,e4⟩:=op_pfx hk hk' hev (Pfx.take base s.hp)
   have e4':evalOp G (bareCall call) s ((cOp P hand draw o).getD .bad)=some (v,{ s2 with hp:=s.hp }):=e4
   rw [e4']
   simp only [putF_eq]
  ·rename_i hw
   obtain rfl:=Option.some.inj h1
   simp only [putF_eq]
 ·
  split at he
  ·rename_i hal
   have hg:g=none:=by
    unfold isAlloc at hal
    split at hal <;> first | (cases hal; done) | assumption
   subst hg
   have hw:Region.wanted o (yielded ops a.tmps)=true:=wanted_ok hI h2 (b := true) rfl
   rw [hw]
   simp only [if_true]
   exact .inl (make_ok hG hI he hK)
  ·unfold evalSet at he
   split at he <;> first | (cases he; done) | skip
   split at he <;> first | (cases he; done) | skip
   split at he <;> first | (cases he; done) | skip
   exact plain_ok hG hS h2 he hI hK
 ·exact plain_ok hG hS h2 he hI hK
theorem ops_anyR (hG:GOk G E.W0)(hS:CallSpec P E.W0 (bareCall call)){ops:Array Oper}{bops:List AOper}{Q:Exit→Act→World→Prop}{sF:AState}(hc:cOpers P hand draw ops ops.toList=some bops)
  (hord:∀ i,i < ops.size→(match ops[i]? with | some o=>o.after.all fun e=>!Region.binds .any e || decide (e.on < i) | none=>false)=true)
  (hpair:∀ i,i < ops.size→∀ j,j < i→(waitsB ops i j || (match bops[j]?,bops[i]? with | some x,some y=>commR al x y | _,_=>false))=true) (hQ:∀ Γ a w,Inv E sF Γ a w→Q .normal a w) :
  ∀ (fuel:Nat) {listed:Array Bool} {s:AState} {Γ:Ghost} {a:Act} {w:World},listed.size=ops.size→ClosedL ops listed→(restL ops.size listed).length=fuel→evalRs G call base al ((restL ops.size listed).map fun i=>bops.getD i ⟨none,.bad,none⟩) s=some sF→Inv E s Γ a w→wpAny P .any ops Q fuel listed a w:=by
 obtain ⟨hlen,hget⟩:=cOpers_get hc
 intro fuel
 induction fuel with
 | zero =>
  intro listed s Γ a w hsz hcl hl h hI
  have hn:=List.eq_nil_of_length_eq_zero hl
  rw [hn] at h
  obtain rfl:=Option.some.inj (by simpa [evalRs] using h:some s=some sF)
  refine ⟨List.eq_nil_iff_forall_not_mem.2 fun i hi=>?_,hQ _ _ _ hI⟩
  obtain ⟨h1,o,h2,_⟩:=mem_ready.1 hi
  have:i ∈ restL ops.size listed:=mem_restL.2 ⟨(Array.getElem?_eq_some_iff.1 h2).1,h1⟩
  rw [hn] at this
  cases this
 | succ fuel ih =>
  intro listed s Γ a w hsz hcl hl h hI
  have hlisted:∀ j,j < ops.size→listed.getD j true≠false→listed.getD j false=true:=fun j hj h=>by
   have hj':j < listed.size:=by omega
   simp [hj'] at h ⊢; exact h
  refine ⟨fun hr=>?_,fun i hi=>?_⟩
  ·obtain ⟨i,r,hir⟩:∃ i r,restL ops.size listed=i :: r:=by
    cases hx:restL ops.size listed with
    | nil=>rw [hx] at hl; cases hl
    | cons i r=>exact ⟨i,r,rfl⟩
   have him:=mem_restL.1 (show i ∈ restL ops.size listed by rw [hir]; exact List.mem_cons_self ..)
   have hoi:ops[i]? = some ops[i]:=Array.getElem?_eq_getElem him.1
   have hready:i ∈ Region.ready .any ops listed:=by
    refine mem_ready.2 ⟨him.2,_,hoi,fun e he hb=>?_⟩
    have:=hord i him.1
    rw [hoi] at this
    have hlt:=Array.all_eq_true'.1 this e he
    rw [hb] at hlt
    simp only [Bool.not_true,Bool.false_or,decide_eq_true_eq] at hlt
    refine hlisted e.on (by omega) fun hun=>?_
    have hm:=mem_restL.2 ⟨show e.on < ops.size by omega,hun⟩
    rw [hir] at hm
    have hs:=restL_sorted ops.size listed
    rw [hir] at hs
    rcases List.mem_cons.1 hm with he | hm
    ·omega
    ·have:=(List.pairwise_cons.1 hs).1 _ hm
     omega
   rw [hr] at hready
   cases hready
  ·obtain ⟨hun,o,ho,hdeps⟩:=mem_ready.1 hi
   have hin:=(Array.getElem?_eq_some_iff.1 ho).1
   obtain ⟨l1,l2,hsplit⟩:=List.append_of_mem (mem_restL.2 ⟨hin,hun⟩)
   have hs:=restL_sorted ops.size listed
   rw [hsplit] at hs
   obtain ⟨g,hg1,hg2⟩:=hget i o (by simpa using ho)
   have hbi:bops.getD i ⟨none,.bad,none⟩=⟨o.dst,(cOp P hand draw o).getD .bad,g⟩:=by rw [List.getD_eq_getElem?_getD,hg2]; rfl
   have hcomm:∀ x ∈ l1.map (fun i=>bops.getD i ⟨none,.bad,none⟩),commR al x ⟨o.dst,(cOp P hand draw o).getD .bad,g⟩=true:=fun x hx=>by
    obtain ⟨j,hj,rfl⟩:=List.mem_map.1 hx
    have hji:j < i:=(List.pairwise_append.1 hs).2.2 j hj i (List.mem_cons_self ..)
    have hjm:=mem_restL.1 (show j ∈ restL ops.size listed by rw [hsplit]; exact List.mem_append_left _ hj)
    have:=hpair i hin j hji
    rw [Bool.or_eq_true] at this
    rcases this with h1 | h1
    ·exfalso
     have h2:=hcl.ready ho hdeps (waits_of h1)
     rw [getD_both' hjm.2] at h2
     cases h2
    ·rw [hg2] at h1
     split at h1
     ·rename_i x y hx hy
      cases hy
      rw [List.getD_eq_getElem?_getD,hx]
      exact h1
     ·cases h1
   rw [hsplit,List.map_append,List.map_cons,hbi] at h
   obtain ⟨u,hu1,hu2⟩:=bubbleR hcomm h
   rw [← List.map_append,← restL_set hsplit (by omega)] at hu2
   have hlen2:(restL ops.size (listed.setIfInBounds i true)).length=fuel:=by
    rw [restL_set hsplit (by omega)]
    rw [hsplit] at hl
    simp at hl ⊢
    omega
   unfold wpOp
   simp only [ho]
   exact operR_ok hG hS hg1 hu1 hI fun Γ' a' w' hI'=>ih (by simp [hsz]) (hcl.list ho hdeps) hlen2 hu2 hI'
theorem Inv.keepFree (h:Inv E s Γ a w)(n:Nat):Inv E { s with hp:=s.hp ++ deads n } Γ a w:=by
 refine ⟨h.defers,h.slots,⟨fun g o hg=>?_,h.rw.inj,h.rw.fresh,fun b g hb=>?_,h.rw.old,h.rw.oldImm,fun g hg b hb=>?_⟩,h.fr,h.base,h.base2,?_,h.back⟩
 ·rw [List.getElem?_append] at hg
  split at hg
  ·exact h.rw.objs g o hg
  ·have:=List.eq_of_mem_replicate (List.mem_of_getElem? hg)
   subst this
   trivial
 ·have:=h.rw.lt b g hb
  simp only [List.length_append]
  omega
 ·have:=h.rw.lt b g hb
  rw [List.getElem?_append_left this] at hg
  exact h.rw.dead g hg b hb
 ·have:=h.le
  simp only [List.length_append]
  omega
theorem opsB_any (hG:GOk G E.W0)(hS:CallSpec P E.W0 (bareCall call)){ops:Array Oper}{bops:List AOper}{Q:Exit→Act→World→Prop}{sF:AState}(hc:cOpers P hand draw ops ops.toList=some bops)(hd:drawOk2 ops bops=true)(hQ:∀ Γ a w,Inv E sF Γ a w→Q .normal a w)
  (h:evalOps G (bareCall call) bops s=some sF) (hI:Inv E s Γ a w):wpAny P .any ops Q ops.size (Array.replicate ops.size false) a w:=by
 simp only [drawOk2,Bool.and_eq_true,List.all_eq_true,List.mem_range] at hd
 obtain ⟨⟨⟨⟨hord,_⟩,hok⟩,hnd⟩,hpair⟩:=hd
 have hr:restL ops.size (Array.replicate ops.size false)=List.range ops.size:=by
  unfold restL
  refine List.filter_eq_self.2 fun i hi=>?_
  simp only [List.mem_range] at hi
  simp [hi]
 have hmap:(List.range ops.size).map (fun i=>bops.getD i ⟨none,.bad,none⟩)=bops:=by
  have hl:ops.size=bops.length:=by simpa using (cOpers_get hc).1
  rw [hl]
  refine List.ext_getElem? fun i=>?_
  rw [List.getElem?_map]
  by_cases hi:i < bops.length
  ·rw [List.getElem?_range hi,Option.map_some,List.getD_eq_getElem?_getD,List.getElem?_eq_getElem hi]; rfl
  ·rw [List.getElem?_eq_none (by simpa using hi),List.getElem?_eq_none (by omega)]; rfl
 have hs:=sim (base := s.hp.length) hnd hok (Nat.zero_le _) h hI.le rfl (fun r t v hr=>absurd hr (Nat.not_lt_zero _))
 exact ops_anyR hG hS hc hord hpair hQ ops.size (by simp) (.start ops _) (by rw [hr]; simp) (by rw [hr,hmap]; exact hs) (hI.keepFree _)
end
end Go.Proofs.YtcfjcimhjmpkiaaGreatDoor.Abs
end
section
namespace Go.Proofs.YtcfjcimhjmpkiaaGreatDoor.Abs
open Go Go.RowKit
section
variable {P:Program}{G:Nat→Option (List AV)}{call:FuncId→List AV→List AObj→Option (AV×List AObj×Eff)}{E:Entry}{s s':AState}{Γ:Ghost}{a:Act}{w:World}{hand:Nat→Bool}{draw:Bool}
theorem ite_some {α:Type}{c:Prop}[Decidable c]{x:Option α}{y:α}(h:(if c then x else none)=some y):c∧x=some y:=by
 split at h
 ·exact ⟨‹_›,h⟩
 ·cases h
theorem ldaO_run {d n p g o:Nat}(h:s.sl[p]? = some (.ptr g o)):evalOper G call ⟨some d,.lda n (.tmp p),none⟩ s=(ldaVal s.hp n (.ptr g o)).map fun v=>⟨s.sl.set d v,s.hp,s.ef,s.bs⟩:=by
 simp only [evalOper,wantedA,evalOp,opnd,h,Option.map_some,AV.ro]
 cases ldaVal s.hp n (.ptr g o) <;> rfl
def stoV (B:AObj)(n o:Nat)(v:AV):Option AObj:=match B with
 | .cells cs t=>if v.cells.length=n∧o + n≤cs.length∧v.laid=true then some (.cells (splice cs o v.cells) t) else none
 | .buf l t e m=>if n=1∧2≤o∧o - 2 < m.length∧v.flat1=true∧v.one=true then some (.buf l t e (m.set (o - 2) v)) else none
 | _=>none
theorem stO_run {n p t g o:Nat}(h:s.sl[p]? = some (.ptr g o))(hb:s.bs≤g):evalOper G call ⟨none,.st n (.tmp p) (.tmp t),none⟩ s=((s.sl[t]?).bind fun v=>(s.hp[g]?).bind fun B=>stoV B n o v.ro).map fun X=>⟨s.sl,s.hp.set g X,s.ef,s.bs⟩:=by
 have hn:s.note g 0=s.ef:=by unfold AState.note; rw [if_neg (by omega)]
 have hr:(AV.ptr g o).ro=.ptr g o:=rfl
 simp only [evalOper,wantedA,evalOp,opnd,h,Option.map_some,hr]
 cases hv:s.sl[t]? with
 | none=>simp
 | some v =>
  simp only [Option.map_some,Option.bind_some]
  cases hB:s.hp[g]? with
  | none=>rfl
  | some B =>
   cases B with
   | cells cs t =>
    simp only [stoV,Option.bind_some]
    by_cases hc:v.ro.cells.length=n∧o + n≤cs.length∧v.ro.laid=true
    ·rw [if_pos hc,if_pos hc]; simp only [Option.map_some,AState.put,hn]
    ·rw [if_neg hc,if_neg hc]; rfl
   | buf l t e m =>
    simp only [stoV,Option.bind_some]
    by_cases hc:n=1∧2≤o∧o - 2 < m.length∧v.ro.flat1=true∧v.ro.one=true
    ·rw [if_pos hc,if_pos hc]; simp only [Option.map_some,AState.put,hn]
    ·rw [if_neg hc,if_neg hc]; rfl
   | _=>rfl
theorem lda_congr {h h':List AObj}{n g o:Nat}(e:h'[g]? = h[g]?):ldaVal h' n (.ptr g o)=ldaVal h n (.ptr g o):=by simp only [ldaVal,e]
theorem stPat1_cases {ds:List Nat}{x:AOper}(h:stPat1 ds x=true):(∃ d n p,x=⟨some d,.lda n (.tmp p),none⟩∧p ∉ ds)∨∃ n p t,x=⟨none,.st n (.tmp p) (.tmp t),none⟩∧p ∉ ds:=by
 obtain ⟨d,op,g⟩:=x
 unfold stPat1 at h
 split at h <;> first | (cases h; done) | skip
 ·rename_i e1 e2
  simp only [Bool.and_eq_true,Bool.not_eq_true',List.contains_eq_mem,decide_eq_false_iff_not] at h
  subst e1 e2
  cases d with
  | none=>cases h.2
  | some d=>exact .inl ⟨_,_,_,rfl,h.1⟩
 ·rename_i e1 e2
  simp only [Bool.and_eq_true,Bool.not_eq_true',List.contains_eq_mem,decide_eq_false_iff_not] at h
  subst e1 e2
  cases d with
  | none=>exact .inr ⟨_,_,_,rfl,h.1⟩
  | some d=>cases h.2
theorem stObj_lda {n p:Nat}{r:Bool×Nat}(h:stObj s (.lda n (.tmp p))=some r):∃ g o,s.sl[p]? = some (.ptr g o)∧r=(false,g):=by
 simp only [stObj] at h
 split at h <;> first | (cases h; done) | skip
 rename_i g o e
 cases h; exact ⟨g,o,e,rfl⟩
theorem stObj_st {n p t:Nat}{r:Bool×Nat}(h:stObj s (.st n (.tmp p) (.tmp t))=some r):∃ g o,s.sl[p]? = some (.ptr g o)∧r=(true,g):=by
 simp only [stObj] at h
 split at h <;> first | (cases h; done) | skip
 rename_i g o e
 cases h; exact ⟨g,o,e,rfl⟩
theorem st_keeps {ds:List Nat}{x:AOper}{r:Bool×Nat}(hx:stPat1 ds x=true)(hd:∀ d,x.dst=some d→d ∈ ds)(ho:stObj s x.op=some r)(hb:r.1=true→s.bs≤r.2){s1:AState}(h:evalOper G call x s=some s1) :
  s1.bs=s.bs∧∀ {y:AOper},stPat1 ds y=true→stObj s1 y.op=stObj s y.op:=by
 have sl:∀ {s1:AState},(∀ p,p ∉ ds→s1.sl[p]? = s.sl[p]?)→∀ {y:AOper},stPat1 ds y=true→stObj s1 y.op=stObj s y.op:=fun e y hy=>by
  rcases stPat1_cases hy with ⟨_,_,p,rfl,hp⟩ | ⟨_,p,_,rfl,hp⟩ <;> simp only [stObj,e p hp]
 rcases stPat1_cases hx with ⟨d,n,p,rfl,hp⟩ | ⟨n,p,t,rfl,hp⟩
 ·obtain ⟨g,o,e,rfl⟩:=stObj_lda ho
  rw [ldaO_run e] at h
  obtain ⟨v,-,rfl⟩:=Option.map_eq_some_iff.1 h
  refine ⟨rfl,sl fun q hq=>?_⟩
  have:d≠q:=fun e=>hq (e ▸ hd d rfl)
  exact List.getElem?_set_ne this
 ·obtain ⟨g,o,e,rfl⟩:=stObj_st ho
  rw [stO_run e (hb rfl)] at h
  obtain ⟨X,-,rfl⟩:=Option.map_eq_some_iff.1 h
  exact ⟨rfl,sl fun q hq=>rfl⟩
theorem swap_st {ds:List Nat}{x y:AOper}{rx ry:Bool×Nat}(hx:stPat1 ds x=true)(hy:stPat1 ds y=true)(hdx:∀ d,x.dst=some d→d ∈ ds)(hdy:∀ d,y.dst=some d→d ∈ ds)(ox:stObj s x.op=some rx)(oy:stObj s y.op=some ry)
  (bx:rx.1=true→s.bs≤rx.2) (by':ry.1=true→s.bs≤ry.2) (ap:((!rx.1 && !ry.1) || !Nat.beq rx.2 ry.2)=true) (sp:slotsB x y=true) {s1 s2:AState} (h1:evalOper G call x s=some s1) (h2:evalOper G call y s1=some s2) :
  ∃ u,evalOper G call y s=some u∧evalOper G call x u=some s2:=by
 rcases stPat1_cases hx with ⟨d,n,p,rfl,hp⟩ | ⟨n,p,t,rfl,hp⟩
 ·obtain ⟨g,o,e,rfl⟩:=stObj_lda ox
  rw [ldaO_run e] at h1
  obtain ⟨v,hv,rfl⟩:=Option.map_eq_some_iff.1 h1
  rcases stPat1_cases hy with ⟨d',n',p',rfl,hp'⟩ | ⟨n',p',t',rfl,hp'⟩
  ·obtain ⟨g',o',e',rfl⟩:=stObj_lda oy
   have n1:d≠p':=fun e=>hp' (e ▸ hdx d rfl)
   have n2:d'≠p:=fun e=>hp (e ▸ hdy d' rfl)
   have n3:d≠d':=fun e=>by subst e; simp [slotsB] at sp
   rw [ldaO_run (s := ⟨s.sl.set d v,s.hp,s.ef,s.bs⟩) (g := g') (o := o') (by simpa [List.getElem?_set_ne n1] using e')] at h2
   obtain ⟨v',hv',rfl⟩:=Option.map_eq_some_iff.1 h2
   refine ⟨⟨s.sl.set d' v',s.hp,s.ef,s.bs⟩,by rw [ldaO_run e',hv']; rfl,?_⟩
   rw [ldaO_run (s := ⟨s.sl.set d' v',s.hp,s.ef,s.bs⟩) (g := g) (o := o) (by simpa [List.getElem?_set_ne n2] using e),hv,Option.map_some,List.set_comm _ _ n3]
  ·obtain ⟨g',o',e',rfl⟩:=stObj_st oy
   have n1:d≠p':=fun e=>hp' (e ▸ hdx d rfl)
   have n3:d≠t':=fun e=>by subst e; simp [slotsB,stT] at sp
   have ng:g'≠g:=fun e=>by subst e; simp at ap
   rw [stO_run (s := ⟨s.sl.set d v,s.hp,s.ef,s.bs⟩) (g := g') (o := o') (by simpa [List.getElem?_set_ne n1] using e') (by' rfl)] at h2
   simp only [List.getElem?_set_ne n3] at h2
   obtain ⟨X,hX,rfl⟩:=Option.map_eq_some_iff.1 h2
   refine ⟨⟨s.sl,s.hp.set g' X,s.ef,s.bs⟩,by rw [stO_run e' (by' rfl),hX]; rfl,?_⟩
   rw [ldaO_run (s := ⟨s.sl,s.hp.set g' X,s.ef,s.bs⟩) (g := g) (o := o) e,lda_congr (h := s.hp) (by simp [List.getElem?_set_ne ng]),hv]; rfl
 ·obtain ⟨g,o,e,rfl⟩:=stObj_st ox
  rw [stO_run e (bx rfl)] at h1
  obtain ⟨X,hX,rfl⟩:=Option.map_eq_some_iff.1 h1
  rcases stPat1_cases hy with ⟨d',n',p',rfl,hp'⟩ | ⟨n',p',t',rfl,hp'⟩
  ·obtain ⟨g',o',e',rfl⟩:=stObj_lda oy
   have n2:d'≠p:=fun e=>hp (e ▸ hdy d' rfl)
   have n3:d'≠t:=fun e=>by subst e; simp [slotsB,stT] at sp
   have ng:g≠g':=fun e=>by subst e; simp at ap
   rw [ldaO_run (s := ⟨s.sl,s.hp.set g X,s.ef,s.bs⟩) (g := g') (o := o') e',lda_congr (h := s.hp) (by simp [List.getElem?_set_ne ng])] at h2
   obtain ⟨v',hv',rfl⟩:=Option.map_eq_some_iff.1 h2
   refine ⟨⟨s.sl.set d' v',s.hp,s.ef,s.bs⟩,by rw [ldaO_run e',hv']; rfl,?_⟩
   rw [stO_run (s := ⟨s.sl.set d' v',s.hp,s.ef,s.bs⟩) (g := g) (o := o) (by simpa [List.getElem?_set_ne n2] using e) (bx rfl)]
   simp only [List.getElem?_set_ne n3,hX,Option.map_some]
  ·obtain ⟨g',o',e',rfl⟩:=stObj_st oy
   have ng:g≠g':=fun e=>by subst e; simp at ap
   rw [stO_run (s := ⟨s.sl,s.hp.set g X,s.ef,s.bs⟩) (g := g') (o := o') e' (by' rfl)] at h2
   simp only [List.getElem?_set_ne ng] at h2
   obtain ⟨X',hX',rfl⟩:=Option.map_eq_some_iff.1 h2
   refine ⟨⟨s.sl,s.hp.set g' X',s.ef,s.bs⟩,by rw [stO_run e' (by' rfl),hX']; rfl,?_⟩
   rw [stO_run (s := ⟨s.sl,s.hp.set g' X',s.ef,s.bs⟩) (g := g) (o := o) e (bx rfl)]
   simp only [List.getElem?_set_ne ng.symm,hX,Option.map_some,List.set_comm _ _ ng]
structure StTab (ds:List Nat)(s:AState)(l:List AOper)(T:AOper→Bool×Nat):Prop where
 pat:∀ x ∈ l,stPat1 ds x=true
 dst:∀ x ∈ l,∀ d,x.dst=some d→d ∈ ds
 obj:∀ x ∈ l,stObj s x.op=some (T x)
 own:∀ x ∈ l,(T x).1=true→s.bs≤(T x).2
theorem StTab.step {ds:List Nat}{l:List AOper}{T:AOper→Bool×Nat}(h:StTab ds s l T){x:AOper}(hx:x ∈ l){s1:AState}(h1:evalOper G call x s=some s1):StTab ds s1 l T:=by
 obtain ⟨k1,k2⟩:=st_keeps (h.pat x hx) (h.dst x hx) (h.obj x hx) (h.own x hx) h1
 exact ⟨h.pat,h.dst,fun y hy=>by rw [k2 (h.pat y hy)]; exact h.obj y hy,fun y hy hb=>by rw [k1]; exact h.own y hy hb⟩
theorem bubbleS {ds:List Nat}{l:List AOper}{T:AOper→Bool×Nat}{o:AOper}{l2:List AOper}{sF:AState}(ho:o ∈ l):∀ {l1:List AOper} {s:AState},StTab ds s l T→(∀ x ∈ l1,x ∈ l∧((!(T x).1 && !(T o).1) || !Nat.beq (T x).2 (T o).2)=true∧slotsB x o=true)→evalOps G call (l1 ++ o :: l2) s=some sF →
  ∃ u,evalOper G call o s=some u∧evalOps G call (l1 ++ l2) u=some sF
 | [],s,_,_,h=>by
  simp only [List.nil_append,evalOps] at h
  split at h <;> first | (cases h; done) | skip
  rename_i u hu
  exact ⟨u,hu,h⟩
 | x :: l1,s,hT,hx,h=>by
  simp only [List.cons_append,evalOps] at h
  split at h <;> first | (cases h; done) | skip
  rename_i s1 h1
  obtain ⟨i1,i2,i3⟩:=hx x (List.mem_cons_self ..)
  obtain ⟨u1,h2,h3⟩:=bubbleS ho (hT.step i1 h1) (fun y hy=>hx y (List.mem_cons_of_mem _ hy)) h
  obtain ⟨u,h4,h5⟩:=swap_st (hT.pat x i1) (hT.pat o ho) (hT.dst x i1) (hT.dst o ho) (hT.obj x i1) (hT.obj o ho) (hT.own x i1) (hT.own o ho) i2 i3 h1 h2
  refine ⟨u,h4,?_⟩
  simp only [List.cons_append,evalOps,h5]
  exact h3
theorem ops_anyS (hG:GOk G E.W0)(hS:CallSpec P E.W0 call){ops:Array Oper}{bops:List AOper}{Q:Exit→Act→World→Prop}{sF:AState}(hc:cOpers P hand draw ops ops.toList=some bops)
  (hord:∀ i,i < ops.size→(match ops[i]? with | some o=>o.after.all fun e=>!Region.binds .any e || decide (e.on < i) | none=>false)=true)
  (hpair:∀ i,i < ops.size→∀ j,j < i→(waitsB ops i j || (match bops[j]?,bops[i]? with | some x,some y=>slotsB x y | _,_=>false))=true) {ds:List Nat} {T:AOper→Bool×Nat}
  (hap:∀ i,i < ops.size→∀ j,j < i→∀ x y,bops[j]? = some x→bops[i]? = some y→((!(T x).1 && !(T y).1) || !Nat.beq (T x).2 (T y).2)=true) (hQ:∀ Γ a w,Inv E sF Γ a w→Q .normal a w) :
  ∀ (fuel:Nat) {listed:Array Bool} {s:AState} {Γ:Ghost} {a:Act} {w:World},listed.size=ops.size→ClosedL ops listed→(restL ops.size listed).length=fuel→evalOps G call ((restL ops.size listed).map fun i=>bops.getD i ⟨none,.bad,none⟩) s=some sF→StTab ds s bops T→Inv E s Γ a w→wpAny P .any ops Q fuel listed a w:=by
 obtain ⟨hlen,hget⟩:=cOpers_get hc
 intro fuel
 induction fuel with
 | zero =>
  intro listed s Γ a w hsz hcl hl h hT hI
  have hn:=List.eq_nil_of_length_eq_zero hl
  rw [hn] at h
  obtain rfl:=Option.some.inj (by simpa [evalOps] using h:some s=some sF)
  refine ⟨List.eq_nil_iff_forall_not_mem.2 fun i hi=>?_,hQ _ _ _ hI⟩
  obtain ⟨h1,o,h2,_⟩:=mem_ready.1 hi
  have:i ∈ restL ops.size listed:=mem_restL.2 ⟨(Array.getElem?_eq_some_iff.1 h2).1,h1⟩
  rw [hn] at this
  cases this
 | succ fuel ih =>
  intro listed s Γ a w hsz hcl hl h hT hI
  have hlisted:∀ j,j < ops.size→listed.getD j true≠false→listed.getD j false=true:=fun j hj h=>by
   have hj':j < listed.size:=by omega
   simp [hj'] at h ⊢; exact h
  refine ⟨fun hr=>?_,fun i hi=>?_⟩
  ·obtain ⟨i,r,hir⟩:∃ i r,restL ops.size listed=i :: r:=by
    cases hx:restL ops.size listed with
    | nil=>rw [hx] at hl; cases hl
    | cons i r=>exact ⟨i,r,rfl⟩
   have him:=mem_restL.1 (show i ∈ restL ops.size listed by rw [hir]; exact List.mem_cons_self ..)
   have hoi:ops[i]? = some ops[i]:=Array.getElem?_eq_getElem him.1
   have hready:i ∈ Region.ready .any ops listed:=by
    refine mem_ready.2 ⟨him.2,_,hoi,fun e he hb=>?_⟩
    have:=hord i him.1
    rw [hoi] at this
    have hlt:=Array.all_eq_true'.1 this e he
    rw [hb] at hlt
    simp only [Bool.not_true,Bool.false_or,decide_eq_true_eq] at hlt
    refine hlisted e.on (by omega) fun hun=>?_
    have hm:=mem_restL.2 ⟨show e.on < ops.size by omega,hun⟩
    rw [hir] at hm
    have hs:=restL_sorted ops.size listed
    rw [hir] at hs
    rcases List.mem_cons.1 hm with he | hm
    ·omega
    ·have:=(List.pairwise_cons.1 hs).1 _ hm
     omega
   rw [hr] at hready
   cases hready
  ·obtain ⟨hun,o,ho,hdeps⟩:=mem_ready.1 hi
   have hin:=(Array.getElem?_eq_some_iff.1 ho).1
   obtain ⟨l1,l2,hsplit⟩:=List.append_of_mem (mem_restL.2 ⟨hin,hun⟩)
   have hs:=restL_sorted ops.size listed
   rw [hsplit] at hs
   obtain ⟨g,hg1,hg2⟩:=hget i o (by simpa using ho)
   have hbi:bops.getD i ⟨none,.bad,none⟩=⟨o.dst,(cOp P hand draw o).getD .bad,g⟩:=by rw [List.getD_eq_getElem?_getD,hg2]; rfl
   have hmem:(⟨o.dst,(cOp P hand draw o).getD .bad,g⟩:AOper) ∈ bops:=List.mem_of_getElem? hg2
   have hcomm:∀ x ∈ l1.map (fun i=>bops.getD i ⟨none,.bad,none⟩),x ∈ bops∧((!(T x).1 && !(T ⟨o.dst,(cOp P hand draw o).getD .bad,g⟩).1) || !Nat.beq (T x).2 (T ⟨o.dst,(cOp P hand draw o).getD .bad,g⟩).2)=true∧slotsB x ⟨o.dst,(cOp P hand draw o).getD .bad,g⟩=true:=fun x hx=>by
    obtain ⟨j,hj,rfl⟩:=List.mem_map.1 hx
    have hji:j < i:=(List.pairwise_append.1 hs).2.2 j hj i (List.mem_cons_self ..)
    have hjm:=mem_restL.1 (show j ∈ restL ops.size listed by rw [hsplit]; exact List.mem_append_left _ hj)
    have hjl:j < bops.length:=by have:=hjm.1; simp at hlen; omega
    have hbj:bops[j]? = some (bops.getD j ⟨none,.bad,none⟩):=by rw [List.getD_eq_getElem?_getD,List.getElem?_eq_getElem hjl]; rfl
    refine ⟨List.mem_of_getElem? hbj,hap i hin j hji _ _ hbj hg2,?_⟩
    have:=hpair i hin j hji
    rw [Bool.or_eq_true] at this
    rcases this with h1 | h1
    ·exfalso
     have h2:=hcl.ready ho hdeps (waits_of h1)
     rw [getD_both' hjm.2] at h2
     cases h2
    ·rw [hg2,hbj] at h1
     exact h1
   rw [hsplit,List.map_append,List.map_cons,hbi] at h
   obtain ⟨u,hu1,hu2⟩:=bubbleS hmem hT hcomm h
   rw [← List.map_append,← restL_set hsplit (by omega)] at hu2
   have hlen2:(restL ops.size (listed.setIfInBounds i true)).length=fuel:=by
    rw [restL_set hsplit (by omega)]
    rw [hsplit] at hl
    simp at hl ⊢
    omega
   unfold wpOp
   simp only [ho]
   exact plain_ok hG hS hg1 hu1 hI fun Γ' a' w' hI'=>ih (by simp [hsz]) (hcl.list ho hdeps) hlen2 hu2 (hT.step hmem hu1) hI'
theorem pairsB_get {α:Type}{f:α→α→Bool}:∀ {l:List α},pairsB f l=true→∀ {i j:Nat} {x y:α},j < i→l[j]? = some x→l[i]? = some y→f x y=true
 | [],_,i,j,x,y,_,hx,_=>by simp at hx
 | z :: l,h,i,j,x,y,hji,hx,hy=>by
  simp only [pairsB,Bool.and_eq_true,List.all_eq_true] at h
  cases i with
  | zero=>omega
  | succ i =>
   have hy':l[i]? = some y:=by simpa using hy
   cases j with
   | zero =>
    have:z=x:=by simpa using hx
    subst this
    exact h.1 y (List.mem_of_getElem? hy')
   | succ j=>exact pairsB_get h.2 (j := j) (i := i) (by omega) (by simpa using hx) hy'
theorem opsS_any (hG:GOk G E.W0)(hS:CallSpec P E.W0 call){ops:Array Oper}{bops:List AOper}{Q:Exit→Act→World→Prop}{sF:AState}(hc:cOpers P hand draw ops ops.toList=some bops)(hd:drawS ops bops=true)(hok:stOk s bops=true)(hQ:∀ Γ a w,Inv E sF Γ a w→Q .normal a w)
  (h:evalOps G call bops s=some sF) (hI:Inv E s Γ a w):wpAny P .any ops Q ops.size (Array.replicate ops.size false) a w:=by
 simp only [drawS,Bool.and_eq_true,List.all_eq_true,List.mem_range] at hd
 obtain ⟨⟨hord,hpat⟩,hpair⟩:=hd
 have hall:stAll s bops=true:=by simpa [stOk,hpat] using hok
 simp only [stAll,Bool.and_eq_true,List.all_eq_true] at hall
 simp only [stPat,Bool.and_eq_true,List.all_eq_true] at hpat
 have hr:restL ops.size (Array.replicate ops.size false)=List.range ops.size:=by
  unfold restL
  refine List.filter_eq_self.2 fun i hi=>?_
  simp only [List.mem_range] at hi
  simp [hi]
 have hmap:(List.range ops.size).map (fun i=>bops.getD i ⟨none,.bad,none⟩)=bops:=by
  have hl:ops.size=bops.length:=by simpa using (cOpers_get hc).1
  rw [hl]
  refine List.ext_getElem? fun i=>?_
  rw [List.getElem?_map]
  by_cases hi:i < bops.length
  ·rw [List.getElem?_range hi,Option.map_some,List.getD_eq_getElem?_getD,List.getElem?_eq_getElem hi]; rfl
  ·rw [List.getElem?_eq_none (by simpa using hi),List.getElem?_eq_none (by omega)]; rfl
 have hT:StTab (bops.filterMap AOper.dst) s bops (fun o=>(stObj s o.op).getD (false,0)):=by
  refine ⟨hpat.1,fun x hx d hxd=>List.mem_filterMap.2 ⟨x,hx,hxd⟩,fun x hx=>?_,fun x hx hb=>?_⟩
  ·have:=hall.1 x hx
   split at this
   ·rename_i b g e; rw [e]; rfl
   ·cases this
  ·have:=hall.1 x hx
   split at this
   ·rename_i b g e
    rw [e] at hb ⊢
    have hb':b=true:=hb
    subst hb'
    exact Nat.le_of_ble_eq_true (by simpa using this)
   ·cases this
 refine ops_anyS hG hS hc hord hpair (T := fun o=>(stObj s o.op).getD (false,0)) (fun i hi j hji x y hx hy=>?_) hQ ops.size (by simp) (.start ops _) (by rw [hr]; simp) (by rw [hr,hmap]; exact h) hT hI
 have:=pairsB_get hall.2 hji hx hy
 unfold stApart at this
 split at this
 ·rename_i a g b h e1 e2
  rw [e1,e2]; exact this
 ·cases this
end
end Go.Proofs.YtcfjcimhjmpkiaaGreatDoor.Abs
end
section
namespace Go.Proofs.YtcfjcimhjmpkiaaGreatDoor.Abs
open Go Go.RowKit
section
variable {P:Program}{G:Nat→Option (List AV)}{call:FuncId→List AV→List AObj→Option (AV×List AObj×Eff)}{E:Entry}{s s':AState}{Γ:Ghost}{a:Act}{w:World}{hand:Nat→Bool}{draw:Bool}
def Ends (E:Entry)(r:AExit×AState)(e:Exit)(a:Act)(w:World):Prop :=
 (match r.1,e with
  | .normal,.normal=>True
  | .exit i,.exit j=>i=j
  | .ret,.ret=>True
  | _,_=>False)∧∃ Γ,Inv E r.2 Γ a w
theorem Ends.normal {s:AState}{Γ:Ghost}{a:Act}{w:World}(h:Inv E s Γ a w):Ends E (.normal,s) .normal a w:=⟨trivial,Γ,h⟩
theorem iter_wp {c:Code}{f:AState→Option (AExit×AState)}(ih:∀ {s:AState} {r:AExit×AState} {Γ:Ghost} {a:Act} {w:World},f s=some r→Inv E s Γ a w→c.wp P (Ends E r) a w) :
  ∀ (n:Nat) {s:AState} {r:AExit×AState} {Γ:Ghost} {a:Act} {w:World},iter f n s=some r→Inv E s Γ a w→Code.rounds P c (Ends E r) n a w
 | 0,_,_,_,_,_,h,_=>by cases h
 | n + 1,s,r,Γ,a,w,h,hI=>by
  rw [rounds_succ]
  simp only [iter] at h
  split at h
  ·rename_i s1 h1
   refine Go.wp_mono (ih h1 hI) fun e a' w' he=>?_
   obtain ⟨k1,Γ',i1⟩:=he
   cases e <;> first | exact k1.elim | skip
   exact iter_wp ih n h i1
  ·rename_i hne
   refine Go.wp_mono (ih h hI) fun e a' w' he=>?_
   cases e <;> first | exact he | skip
   obtain ⟨k1,_⟩:=he
   obtain ⟨x,s1⟩:=r
   cases x <;> first | exact k1.elim | skip
   exact absurd h (hne s1)
theorem code_wp (hm:P.follows .mixedOrders=true)(hG:GOk G E.W0)(hS:CallSpec P E.W0 call)(hB:CallSpec P E.W0 (bareCall call)){takes:FuncId→List Nat}{res:List Nat}(L:Nat):∀ {c:Code} {ac:ACode} {s:AState} {r:AExit×AState} {Γ:Ghost} {a:Act} {w:World},
  cCode P takes res c=some ac→evalCode G call L ac s=some r→Inv E s Γ a w→c.wp P (Ends E r) a w:=by
 intro c
 induction c with
 | skip =>
  intro ac s r Γ a w hc h hI
  cases hc; cases h
  exact Go.wp_skip (.normal hI)
 | region id ops draw =>
  intro ac s r Γ a w hc h hI
  cases draw with
  | false =>
   simp only [cCode] at hc
   obtain ⟨aops,h1,rfl⟩:=Option.map_eq_some_iff.1 hc
   simp only [evalCode] at h
   obtain ⟨s1,h2,rfl⟩:=Option.map_eq_some_iff.1 h
   refine wp_region ?_
   rw [List.range_eq_range']
   have:=ops_wp hG hS (Q := Ends E (.normal,s1)) 0 (l := ops.toList) (by simp) h1 h2 hI fun Γ a w h=>.normal h
   simpa using this
  | true =>
   simp only [cCode] at hc
   split at hc <;> first | (cases hc; done) | skip
   rename_i aops bops h1 h1'
   split at hc
   ·rename_i hq
    simp only [Bool.and_eq_true] at hq
    cases hc
    generalize pinFrom ops ops.size=n at *
    simp only [evalCode] at h
    have hl:ops.size=bops.length:=by simpa using (cOpers_get h1').1
    have hnle:n≤ops.size:=by
     have:=hq.2
     simp only [pinOk,Bool.and_eq_true,decide_eq_true_eq] at this
     exact this.1.1.2
    cases h2:evalOps G (quietCall call) (bops.take n) s with
    | none=>rw [h2] at h; simp at h
    | some s1 =>
     rw [h2] at h
     simp only [Option.map_some] at h
     obtain ⟨s2,h3,rfl⟩:=Option.map_eq_some_iff.1 h
     refine wp_region_any hm ?_
     have hb:Behind w { w with drawn:=w.drawn + 1 }:=⟨rfl,rfl,rfl,Nat.le_refl _,fun _ _=>rfl⟩
     have hrep:∀ i,i < ops.size→(Array.replicate ops.size false).getD i true=false:=fun i hi=>by simp [hi]
     have hr:restL n (Array.replicate ops.size false)=List.range n:=by
      unfold restL
      refine List.filter_eq_self.2 fun i hi=>?_
      simp only [List.mem_range] at hi
      rw [hrep i (by omega)]; rfl
     have hr2:restS n ops.size (Array.replicate ops.size false)=(List.range ops.size).drop n:=by
      unfold restS
      rw [show (List.range ops.size)=List.range n ++ (List.range ops.size).drop n from by
       rw [show List.range n=(List.range ops.size).take n from by rw [List.take_range,Nat.min_eq_left hnle],List.take_append_drop]]
      rw [List.filter_append,List.filter_eq_nil_iff.2 (fun i hi=>by
       simp only [List.mem_range] at hi
       have:¬ n≤i:=by omega
       simp [this]),List.nil_append]
      rw [List.drop_append_of_le_length (by simp),show (List.range n).drop n=[] from by simp,List.nil_append]
      refine List.filter_eq_self.2 fun i hi=>?_
      obtain ⟨k,hk⟩:=List.mem_iff_getElem?.1 hi
      rw [List.getElem?_drop] at hk
      have hlt:=(List.getElem?_eq_some_iff.1 hk).1
      rw [List.getElem?_range (by simpa using hlt)] at hk
      cases hk
      simp only [List.length_range] at hlt
      rw [hrep _ hlt]; simp
     have hmap:(List.range ops.size).map (fun i=>bops.getD i ⟨none,.bad,none⟩)=bops:=by
      rw [hl]
      refine List.ext_getElem? fun i=>?_
      rw [List.getElem?_map]
      by_cases hi:i < bops.length
      ·rw [List.getElem?_range hi,Option.map_some,List.getD_eq_getElem?_getD,List.getElem?_eq_getElem hi]; rfl
      ·rw [List.getElem?_eq_none (by simpa using hi),List.getElem?_eq_none (by omega)]; rfl
     refine ops_pin hG hS (n := n) (Q := Ends E (.normal,s2)) h1' hq.2 (fun Γ a w h=>.normal h) ops.size (s1 := s1) (by simp) (.start ops _) (by rw [hr,hr2]; simp; omega) ?_ ?_ (hb.inv hI)
     ·rw [hr,show List.range n=(List.range ops.size).take n from by rw [List.take_range,Nat.min_eq_left hnle],List.map_take,hmap]; exact h2
     ·rw [hr2,List.map_drop,hmap]; exact h3
   split at hc
   ·rename_i hd
    rw [Bool.and_eq_true] at hd
    cases hc
    simp only [evalCode] at h
    obtain ⟨-,h⟩:=ite_some h
    obtain ⟨s1,h2,rfl⟩:=Option.map_eq_some_iff.1 h
    refine wp_region_any hm ?_
    have hb:Behind w { w with drawn:=w.drawn + 1 }:=⟨rfl,rfl,rfl,Nat.le_refl _,fun _ _=>rfl⟩
    exact opsB_any hG hB (Q := Ends E (.normal,s1)) h1' hd.2 (fun Γ a w h=>.normal h) h2 (hb.inv hI)
   split at hc
   ·rename_i hq
    simp only [Bool.and_eq_true] at hq
    cases hc
    simp only [evalCode] at h
    obtain ⟨s1,h2,rfl⟩:=Option.map_eq_some_iff.1 h
    refine wp_region_quiet (C := Behind w) hm hq.1 ⟨rfl,rfl,rfl,Nat.le_refl _,fun _ _=>rfl⟩ ?_
    exact ops_quiet hG hS h1 hq.2 h2 hI fun Γ a w h=>.normal h
   ·split at hc
    ·rename_i hd
     cases hc
     simp only [evalCode] at h
     obtain ⟨s1,h2,rfl⟩:=Option.map_eq_some_iff.1 h
     refine wp_region_any hm ?_
     have hb:Behind w { w with drawn:=w.drawn + 1 }:=⟨rfl,rfl,rfl,Nat.le_refl _,fun _ _=>rfl⟩
     have hr:restL ops.size (Array.replicate ops.size false)=List.range ops.size:=by
      unfold restL
      refine List.filter_eq_self.2 fun i hi=>?_
      simp only [List.mem_range] at hi
      simp [hi]
     have hmap:(List.range ops.size).map (fun i=>bops.getD i ⟨none,.bad,none⟩)=bops:=by
      have hl:ops.size=bops.length:=by simpa using (cOpers_get h1').1
      rw [hl]
      refine List.ext_getElem? fun i=>?_
      rw [List.getElem?_map]
      by_cases hi:i < bops.length
      ·rw [List.getElem?_range hi,Option.map_some,List.getD_eq_getElem?_getD,List.getElem?_eq_getElem hi]; rfl
      ·rw [List.getElem?_eq_none (by simpa using hi),List.getElem?_eq_none (by omega)]; rfl
     exact ops_any hG hS (Q := Ends E (.normal,s1)) h1' hd (fun Γ a w h=>.normal h) ops.size (by simp) (.start ops _) (by rw [hr]; simp) (by rw [hr,hmap]; exact h2) (hb.inv hI)
    ·split at hc
     ·rename_i hd
      cases hc
      simp only [evalCode] at h
      obtain ⟨-,h⟩:=ite_some h
      obtain ⟨s1,h2,rfl⟩:=Option.map_eq_some_iff.1 h
      refine wp_region_any hm ?_
      have hb:Behind w { w with drawn:=w.drawn + 1 }:=⟨rfl,rfl,rfl,Nat.le_refl _,fun _ _=>rfl⟩
      exact opsB_any hG hB (Q := Ends E (.normal,s1)) h1' hd (fun Γ a w h=>.normal h) h2 (hb.inv hI)
     ·split at hc
      ·rename_i hd
       cases hc
       simp only [evalCode] at h
       obtain ⟨hk,h⟩:=ite_some h
       obtain ⟨s1,h2,rfl⟩:=Option.map_eq_some_iff.1 h
       refine wp_region_any hm ?_
       have hb:Behind w { w with drawn:=w.drawn + 1 }:=⟨rfl,rfl,rfl,Nat.le_refl _,fun _ _=>rfl⟩
       exact opsS_any hG hB (Q := Ends E (.normal,s1)) h1' hd hk (fun Γ a w h=>.normal h) h2 (hb.inv hI)
      ·cases hc; cases h
 | seq x y ihx ihy =>
  intro ac s r Γ a w hc h hI
  simp only [cCode] at hc
  split at hc <;> first | (cases hc; done) | skip
  rename_i ax ay hx hy
  obtain rfl:=Option.some.inj hc
  simp only [evalCode] at h
  refine Go.wp_seq ?_
  split at h
  ·rename_i s1 h1
   refine Go.wp_mono (ihx hx h1 hI) fun e a' w' he=>?_
   obtain ⟨k1,Γ',i1⟩:=he
   cases e <;> first | exact k1.elim | skip
   exact ihy hy h i1
  ·rename_i hne
   refine Go.wp_mono (ihx hx h hI) fun e a' w' he=>?_
   cases e <;> first | exact he | skip
   obtain ⟨k1,_⟩:=he
   obtain ⟨q,s1⟩:=r
   cases q <;> first | exact k1.elim | skip
   exact absurd h (hne s1)
 | cond c x y ihx ihy =>
  intro ac s r Γ a w hc h hI
  simp only [cCode] at hc
  split at hc <;> first | (cases hc; done) | skip
  rename_i c' ax ay hcc hx hy
  obtain rfl:=Option.some.inj hc
  simp only [evalCode] at h
  split at h <;> first | (cases h; done) | skip
  ·rename_i hb
   have k:=(cOpnd_rep hG hI hcc hb).1
   generalize hq:a.eval c=q at k
   cases k
   exact Go.wp_cond_true hq (ihx hx h hI)
  ·rename_i hb
   have k:=(cOpnd_rep hG hI hcc hb).1
   generalize hq:a.eval c=q at k
   cases k
   exact Go.wp_cond_false hq (ihy hy h hI)
 | block id c ih =>
  intro ac s r Γ a w hc h hI
  simp only [cCode] at hc
  obtain ⟨ax,hx,rfl⟩:=Option.map_eq_some_iff.1 hc
  simp only [evalCode] at h
  refine Go.wp_block ?_
  split at h
  ·rename_i i s1 h1
   split at h
   ·rename_i hi
    obtain rfl:=Option.some.inj h
    refine Go.wp_mono (ih hx h1 hI) fun e a' w' he=>?_
    obtain ⟨k1,Γ',i1⟩:=he
    cases e <;> first | exact k1.elim | skip
    rename_i j
    simp only [Exit.inBlock]
    rw [if_pos (by rw [← hi]; exact (show i=j from k1).symm)]
    exact .normal i1
   ·rename_i hi
    obtain rfl:=Option.some.inj h
    refine Go.wp_mono (ih hx h1 hI) fun e a' w' he=>?_
    obtain ⟨k1,Γ',i1⟩:=he
    cases e <;> first | exact k1.elim | skip
    rename_i j
    simp only [Exit.inBlock]
    rw [if_neg (by rw [← (show i=j from k1)]; exact hi)]
    exact ⟨k1,Γ',i1⟩
  ·rename_i hne
   refine Go.wp_mono (ih hx h hI) fun e a' w' he=>?_
   cases e <;> first | exact he | skip
   obtain ⟨k1,_⟩:=he
   obtain ⟨q,s1⟩:=r
   cases q <;> first | exact k1.elim | skip
   exact absurd h (hne _ s1)
 | loop c ih =>
  intro ac s r Γ a w hc h hI
  simp only [cCode] at hc
  obtain ⟨ax,hx,rfl⟩:=Option.map_eq_some_iff.1 hc
  simp only [evalCode] at h
  exact wp_loop_rounds L (iter_wp (fun h1 h2=>ih hx h1 h2) L h hI)
 | scope c ih =>
  intro ac s r Γ a w hc h hI
  simp only [cCode] at hc
  obtain ⟨ax,hx,rfl⟩:=Option.map_eq_some_iff.1 hc
  simp only [evalCode] at h
  refine Go.wp_scope_straight (Go.wp_mono (ih hx h hI) fun e a' w' he=>?_)
  cases e <;> first | exact he | skip
  obtain ⟨k1,_⟩:=he
  obtain ⟨q,s1⟩:=r
  cases q <;> exact k1.elim
 | exit id =>
  intro ac s r Γ a w hc h hI
  cases hc; cases h
  exact Go.wp_exit ⟨rfl,Γ,hI⟩
 | ret =>
  intro ac s r Γ a w hc h hI
  cases hc; cases h
  exact Go.wp_ret ⟨trivial,Γ,hI⟩
 | label l =>
  intro ac s r Γ a w hc h hI
  cases hc; cases h
  exact Go.wp_label (.normal hI)
 | _ =>
  intro ac s r Γ a w hc h
  cases hc; cases h
end
end Go.Proofs.YtcfjcimhjmpkiaaGreatDoor.Abs
end
section
namespace Go.Proofs.YtcfjcimhjmpkiaaGreatDoor.Abs
open Go Go.RowKit
section
variable {P:Program}{G:Nat→Option (List AV)}{E:Entry}{s:AState}{Γ:Ghost}{a:Act}{w:World}
def resRun (tmps:Array Value):ResultVar→Sem Value
 | .tmp t=>pure (tmps.getD t Go.undef)
 | .cell x t=>do loadVar t (← asAddr (tmps.getD x Go.undef))
def packed:List Value→Value
 | [v]=>v
 | vs=>.tuple vs.toArray
theorem results_run {fn:Func}{tmps:Array Value}{vs:List Value}(h:(fn.results.toList.mapM (resRun tmps)).run P w=.ok vs w):(results fn tmps).run P w=.ok (packed vs) w:=by
 have e0:results fn tmps=(do let vs ← fn.results.mapM (resRun tmps); pure (if h:vs.size=1 then vs[0] else .tuple vs)):=by
  unfold results
  congr 1
 rw [e0]
 obtain ⟨l,hl⟩:∃ l,fn.results=⟨l⟩:=⟨fn.results.toList,rfl⟩
 rw [hl] at h ⊢
 have e:((⟨l⟩:Array ResultVar).mapM (resRun tmps)).run P w=.ok vs.toArray w:=by
  rw [List.mapM_toArray,map_eq_pure_bind,Sem.run_bind,h]
  rfl
 rw [Sem.run_bind,e]
 simp only [Result.andThen_ok,Sem.run_pure]
 cases vs with
 | nil=>rfl
 | cons v vs=>cases vs <;> rfl
theorem res_one (hI:Inv E s Γ a w){r:ResultVar}{ar:ARes}{v:AV}(hc:cRes P r=some ar)(h:resVal s ar=some v) :
  ∃ cv,(resRun a.tmps r).run P w=.ok cv w∧Rep Γ w v cv∧((∃ t,cv=a.tmps.getD t Go.undef∧s.sl[t]? = some v)∨∀ k r,v≠.own k r):=by
 cases r with
 | tmp t =>
  obtain rfl:=Option.some.inj hc
  exact ⟨a.tmps.getD t Go.undef,rfl,hI.slots.rep t v h,.inl ⟨t,rfl,h⟩⟩
 | cell t ty =>
  simp only [cRes] at hc
  split at hc
  ·rename_i hag
   obtain rfl:=Option.some.inj hc
   simp only [resVal] at h
   split at h <;> first | (cases h; done) | skip
   rename_i x hx
   obtain ⟨b,off,cv,e,hl,hcell,hr,hn⟩:=lda_run hI (hI.slots.rep t x hx) h
   have hu:=isAggB_some hag
   obtain ⟨i,hi⟩:=info_of_underlying hu
   have hld:=run_loadCells_list (P := P) w ⟨b,off,none⟩ cv (fun j y hj=>by rw [add_lit]; exact hcell j y hj)
   rw [hl] at hld
   refine ⟨_,?_,hr,.inr hn⟩
   simp only [resRun,e]
   simp [asAddr,loadVar,isAgg_run hag hu,sizeOf_run hi,hld]
  ·rename_i hag
   split at hc <;> first | (cases hc; done) | skip
   rename_i hu
   obtain rfl:=Option.some.inj hc
   simp only [resVal] at h
   split at h <;> first | (cases h; done) | skip
   rename_i x hx
   obtain ⟨b,off,cv,e,hcell,hr,hn⟩:=ldc_run hI (hI.slots.rep t x hx) h
   refine ⟨cv,?_,hr,.inr hn⟩
   simp only [resRun,e]
   simp [asAddr,loadVar,isAgg_run (by simpa using hag) hu,hcell]
theorem res_all (hI:Inv E s Γ a w):∀ {rs:List ResultVar} {ars:List ARes} {vs:List AV},cRess P rs=some ars→resVals s ars=some vs →
  ∃ cvs:List Value,(rs.mapM (resRun a.tmps)).run P w=.ok cvs w∧cvs.length=vs.length∧ars.length=rs.length∧∀ (j:Nat) (x:AV),vs[j]? = some x→∃ u,cvs[j]? = some u∧Rep Γ w x u
 | [],ars,vs,hc,h=>by
  cases hc; cases h
  exact ⟨[],rfl,rfl,rfl,fun j x hx=>by simp at hx⟩
 | r :: rs,ars,vs,hc,h=>by
  simp only [cRess] at hc
  split at hc <;> first | (cases hc; done) | skip
  rename_i ar l h1 h2
  obtain rfl:=Option.some.inj hc
  simp only [resVals] at h
  split at h <;> first | (cases h; done) | skip
  rename_i v vs' h3 h4
  obtain rfl:=Option.some.inj h
  obtain ⟨cv,e1,r1,_⟩:=res_one hI h1 h3
  obtain ⟨cvs,e2,e3,e4,e5⟩:=res_all hI h2 h4
  refine ⟨cv :: cvs,?_,by simp [e3],by simp [e4],fun j x hx=>?_⟩
  ·rw [List.mapM_cons]
   simp only [Sem.run_bind,e1,Result.andThen_ok,e2]
   rfl
  ·cases j with
   | zero=>obtain rfl:=Option.some.inj hx; exact ⟨cv,rfl,r1.nm⟩
   | succ j =>
    obtain ⟨u,hu,hr⟩:=e5 j x (by simpa using hx)
    exact ⟨u,by simpa using hu,hr⟩
theorem res_ok (hI:Inv E s Γ a w){fn:Func}{rs:List ARes}{v:AV}(hc:cRess P fn.results.toList=some rs)(h:resultOf s rs=some v) :
  ∃ cv Γ',(results fn a.tmps).run P w=.ok cv w∧RW E.W0 Γ' w s.hp∧Frame E.Γ0 E.w0 Γ' w s.ef∧Rep Γ' w v cv∧OwnAt Γ' w .res v cv∧∀ b g,Γ' b=.own g→g < s.bs→E.Γ0 b=.own g:=by
 have many:∀ vs,resVals s rs=some vs→v=.tup vs→rs.length≠1→∃ cv Γ',(results fn a.tmps).run P w=.ok cv w∧RW E.W0 Γ' w s.hp∧Frame E.Γ0 E.w0 Γ' w s.ef∧Rep Γ' w v cv∧OwnAt Γ' w .res v cv∧∀ b g,Γ' b=.own g→g < s.bs→E.Γ0 b=.own g:=by
  intro vs hvs hv hne
  obtain ⟨cvs,e2,e3,e4,e5⟩:=res_all hI hc hvs
  have hr:=results_run e2
  have hvl:vs.length=rs.length:=by
   clear hc e2 e3 e4 e5 hr hv hne h
   induction rs generalizing vs with
   | nil=>cases hvs; rfl
   | cons r rs ih =>
    simp only [resVals] at hvs
    split at hvs <;> first | (cases hvs; done) | skip
    rename_i h1 h2
    obtain rfl:=Option.some.inj hvs
    simp [ih _ h2]
  subst hv
  refine ⟨.tuple cvs.toArray,Γ,?_,hI.rw,hI.fr,.tup vs _ (by simpa using e3) (fun j x hx=>?_),.of_ne (by simp),hI.back⟩
  ·rw [hr]
   cases cvs with
   | nil=>rfl
   | cons u cvs =>
    cases cvs with
    | nil=>simp at e3; omega
    | cons _ _=>rfl
  ·obtain ⟨u,hu,hr⟩:=e5 j x hx
   rw [Array.getD_eq_getD_getElem?,List.getElem?_toArray,hu]
   exact hr
 cases rs with
 | nil =>
  simp only [resultOf] at h
  obtain ⟨vs,hvs,e⟩:=Option.map_eq_some_iff.1 h
  exact many vs hvs e.symm (by simp)
 | cons r rs =>
  cases rs with
  | cons r' rs =>
   simp only [resultOf] at h
   obtain ⟨vs,hvs,e⟩:=Option.map_eq_some_iff.1 h
   exact many vs hvs e.symm (by simp)
  | nil =>
   simp only [resultOf] at h
   cases hl:fn.results.toList with
   | nil=>rw [hl] at hc; cases hc
   | cons q qs =>
    rw [hl] at hc
    simp only [cRess] at hc
    split at hc <;> first | (cases hc; done) | skip
    rename_i ar l h1 h2
    obtain ⟨rfl,rfl⟩:=List.cons.inj (Option.some.inj hc)
    have hqs:qs=[]:=by
     cases qs with
     | nil=>rfl
     | cons _ _ =>
      simp only [cRess] at h2
      split at h2 <;> simp at h2
    subst hqs
    obtain ⟨cv,e1,r1,hown⟩:=res_one hI h1 h
    have hrun:=results_run (fn := fn) (tmps := a.tmps) (P := P) (w := w) (vs := [cv]) (by
     rw [hl,List.mapM_cons]
     simp only [Sem.run_bind,e1,Result.andThen_ok]
     rfl)
    rcases hown with ⟨t,rfl,ht⟩ | hn
    ·obtain ⟨Γ',i1,r1,o1⟩:=hI.take t ht
     exact ⟨_,Γ',hrun,i1.rw,i1.fr,r1,o1,i1.back⟩
    ·exact ⟨_,Γ,hrun,hI.rw,hI.fr,r1,.of_ne hn,hI.back⟩
end
end Go.Proofs.YtcfjcimhjmpkiaaGreatDoor.Abs
end
section
namespace Go.Proofs.YtcfjcimhjmpkiaaGreatDoor.Abs
open Go Go.RowKit
def dropK (bs:Nat):Kind→Kind
 | .own g=>if g < bs then .own g else .imm
 | .list n (.cell g i)=>if g < bs then .list n (.cell g i) else .imm
 | k=>k
theorem dropK_fix {bs o:Nat}{k:Kind}(h:FixedK o k):FixedK o (dropK bs k):=by
 cases k with
 | imm=>trivial
 | own g=>exact h.elim
 | list m l =>
  cases l <;> simp only [dropK] <;> first | exact h | skip
  split
  ·exact h
  ·trivial
theorem dropK_own {bs g:Nat}{k:Kind}(h:dropK bs k=.own g):k=.own g∧g < bs:=by
 cases k with
 | imm=>cases h
 | own g' =>
  simp only [dropK] at h
  split at h
  ·rename_i hl; cases h; exact ⟨rfl,hl⟩
  ·cases h
 | list m l =>
  cases l <;> simp only [dropK] at h <;> first | (cases h; done) | skip
  split at h <;> cases h
theorem mapM_get {α β:Type}{f:α→Option β}:∀ {l:List α} {r:List β},l.mapM f=some r→r.length=l.length∧∀ (j:Nat) (y:β),r[j]? = some y→∃ x,l[j]? = some x∧f x=some y
 | [],r,h=>by
  simp only [List.mapM_nil] at h
  obtain rfl:=Option.some.inj h
  exact ⟨rfl,fun j y hy=>by simp at hy⟩
 | x :: l,r,h=>by
  rw [List.mapM_cons] at h
  cases hx:f x with
  | none=>rw [hx] at h; cases h
  | some y =>
   cases hl:l.mapM f with
   | none=>rw [hx,hl] at h; cases h
   | some ys =>
    rw [hx,hl] at h
    obtain rfl:=Option.some.inj h
    obtain ⟨e1,e2⟩:=mapM_get hl
    refine ⟨by simp [e1],fun j z hz=>?_⟩
    cases j with
    | zero=>obtain rfl:=Option.some.inj hz; exact ⟨x,rfl,hx⟩
    | succ j =>
     obtain ⟨x',h1,h2⟩:=e2 j z (by simpa using hz)
     exact ⟨x',by simpa using h1,h2⟩
section
variable {W0 w:World}{Γ Γ':Ghost}{hp:List AObj}{bs:Nat}
theorem noId_ro {x:AV}{v:Value}(hf:FixMono Γ w Γ' w)(h:Rep Γ w x v)(hn:x.noId1=true):Rep Γ' w x.ro v:=(h.noId hf hn).ro
theorem OwnAt.fix {w':World}{l l':Loc}{x:AV}{v:Value}(hf:FixMono Γ w Γ' w')(hb:∀ b n,Γ b=.list n l→Γ' b=.list n l'∧w'.heap[b]? = w.heap[b]?)(h:OwnAt Γ w l x v):OwnAt Γ' w' l' x v:=by
 intro k rows e
 rcases h k rows e with h | ⟨b,cap,e,cur,hv,hg,hh,h1,h2,h3,h4,h5⟩
 ·exact .inl h
 ·obtain ⟨g1,g2⟩:=hb b _ hg
  exact .inr ⟨b,cap,e,cur,hv,g1,g2.trans hh,h1,h2,h3,h4,fun i j r c a1 a2=>⟨(h5 i j r c a1 a2).1,(h5 i j r c a1 a2).2.noId hf (h5 i j r c a1 a2).1⟩⟩
theorem frz1_ok (hr:RW W0 Γ w hp):∀ (d:Nat) {v v':AV} {cv:Value},frz1 bs hp d v=some v'→Rep Γ w v cv→Rep (fun b=>dropK bs (Γ b)) w v' cv∧(∀ k r,v'≠.own k r)∧(v.one=true→v'.one=true):=by
 have hf:FixMono Γ w (fun b=>dropK bs (Γ b)) w:=fun _ _ _ h1 h2=>⟨dropK_fix h1,h2⟩
 have hown:∀ b g,Γ b=.own g→g < bs→dropK bs (Γ b)=.own g:=fun b g h hg=>by simp [h,dropK,hg]
 intro d
 induction d with
 | zero =>
  intro v v' cv h hv
  cases v <;> simp only [frz1] at h
  case arr g off len k =>
   split at h <;> first | (cases h; done) | skip
   rename_i hg
   obtain rfl:=Option.some.inj h
   cases hv with
   | arr _ _ _ _ cap b hb hc=>exact ⟨.arr _ _ _ _ cap b (hown b g hb hg) hc,by simp,fun h=>h⟩
  case arrs g off len k m =>
   split at h <;> first | (cases h; done) | skip
   rename_i hg
   obtain rfl:=Option.some.inj h
   cases hv with
   | arrs _ _ _ _ _ cap b hb hc hm=>exact ⟨.arrs _ _ _ _ _ cap b (hown b g hb hg) hc hm,by simp,fun h=>h⟩
  case ptr g o =>
   split at h <;> first | (cases h; done) | skip
   rename_i hg
   obtain rfl:=Option.some.inj h
   cases hv with
   | ptr _ _ b hb=>exact ⟨.ptr _ _ b (hown b g hb hg),by simp,fun h=>h⟩
  case map g =>
   split at h <;> first | (cases h; done) | skip
   rename_i hg
   obtain rfl:=Option.some.inj h
   cases hv with
   | map _ b hb=>exact ⟨.map _ b (hown b g hb hg),by simp,fun h=>h⟩
  case agg=>cases h
  case tup=>cases h
  case fn f a cs =>
   split at h <;> first | (cases h; done) | skip
   rename_i hg
   obtain rfl:=Option.some.inj h
   refine ⟨?_,by simp,fun h=>h⟩
   have:=hv.noId hf (by simpa [AV.noId1] using hg)
   obtain ⟨rfl,rfl⟩:a=[]∧cs=[]:=by simpa using hg
   exact this
  case undef=>cases h; cases hv; exact ⟨.undef,by simp [AV.ro],fun h=>h⟩
  all_goals
   obtain rfl:=Option.some.inj h
   exact ⟨noId_ro hf hv rfl,fun _ _=>ro_ne_own,fun h=>by rw [one_ro]; exact h⟩
 | succ d ih =>
  intro v v' cv h hv
  cases v <;> simp only [frz1] at h
  case arr g off len k =>
   split at h
   ·rename_i hg
    obtain rfl:=Option.some.inj h
    cases hv with
    | arr _ _ _ _ cap b hb hc=>exact ⟨.arr _ _ _ _ cap b (hown b g hb hg) hc,by simp,fun h=>h⟩
   ·rename_i hg
    split at h <;> first | (cases h; done) | skip
    rename_i cs t hobj
    split at h <;> first | (cases h; done) | skip
    rename_i hfit
    obtain ⟨cs',h1,h2⟩:=Option.bind_eq_some_iff.1 h
    split at h2 <;> first | (cases h2; done) | skip
    rename_i hid
    obtain rfl:=Option.some.inj h2
    obtain ⟨m1,m2⟩:=mapM_get h1
    cases hv with
    | arr _ _ _ _ cap b hb hc =>
     obtain ⟨b',C,o1,o2,o3,o4⟩:=hr.objs g _ hobj
     obtain rfl:=hr.inj b b' g hb o1
     have hlen:cs'.length=len * k:=by rw [m1]; simp; omega
     have hrow:∀ (i:Nat) (r:List AV),(chunk k len cs')[i]? = some r→i < len∧r.length=k∧∀ (j:Nat) (c:AV),r[j]? = some c→j < k∧cs'[i * k + j]? = some c:=by
      intro i r hi
      have hil:=Zc hi
      rw [chunk_length] at hil
      have he:=chunk_get k len _ i r hi
      have hle:(i + 1) * k≤len * k:=Nat.mul_le_mul_right k hil
      rw [Nat.add_mul,Nat.one_mul] at hle
      refine ⟨hil,by rw [he]; simp; omega,fun j c hj=>?_⟩
      rw [he,List.getElem?_take] at hj
      split at hj
      ·rename_i hjk
       refine ⟨hjk,?_⟩
       rw [List.getElem?_drop] at hj
       exact hj
      ·cases hj
     have hcell:∀ (p:Nat) (c:AV),cs'[p]? = some c→off + p < C.size∧Rep (fun b=>dropK bs (Γ b)) w c (C.getD (off + p) Go.undef)∧c.noId1=true:=by
      intro p c hp
      obtain ⟨x,x1,x2⟩:=m2 p c hp
      have hpl:=Zc hp
      rw [List.getElem?_take,if_pos (by omega),List.getElem?_drop] at x1
      obtain ⟨_,q2,_⟩:=o4 _ x x1
      exact ⟨by omega,(ih x2 q2).1,List.all_eq_true.1 hid c (List.mem_of_getElem? hp)⟩
     refine ⟨?_,by simp,fun _=>rfl⟩
     have hl:(chunk k len cs').length=len:=chunk_length k len cs'
     have key:=Rep.lst (Γ := fun b=>dropK bs (Γ b)) (w := w) k (chunk k len cs') b off cap (fun i j=>C.getD (off + (i * k + j)) Go.undef) (by rw [hl]; exact hc) (fun r hr=>?_) (fun i j r c hi hj=>?_) (fun i j r c hi hj=>?_)
     ·rw [hl] at key; exact key
     ·obtain ⟨i,hi⟩:=List.mem_iff_getElem?.1 hr
      exact (hrow i r hi).2.1
     ·obtain ⟨_,_,h3⟩:=hrow i r hi
      obtain ⟨_,h4⟩:=h3 j c hj
      obtain ⟨q1,q2,q3⟩:=hcell _ c h4
      refine ⟨?_,?_,q3⟩
      ·rw [cell_of_row w b _ C t (0,0) o2]
       exact getD_of_lt q1
      ·show FixedK _ (dropK bs (Γ b))
       rw [hb]
       simp only [dropK,if_neg hg]
       trivial
     ·obtain ⟨_,_,h3⟩:=hrow i r hi
      obtain ⟨_,h4⟩:=h3 j c hj
      exact (hcell _ c h4).2.1
  case arrs g off len k m =>
   split at h <;> first | (cases h; done) | skip
   rename_i hg
   obtain rfl:=Option.some.inj h
   cases hv with
   | arrs _ _ _ _ _ cap b hb hc hm=>exact ⟨.arrs _ _ _ _ _ cap b (hown b g hb hg) hc hm,by simp,fun h=>h⟩
  case ptr g o =>
   split at h <;> first | (cases h; done) | skip
   rename_i hg
   obtain rfl:=Option.some.inj h
   cases hv with
   | ptr _ _ b hb=>exact ⟨.ptr _ _ b (hown b g hb hg),by simp,fun h=>h⟩
  case map g =>
   split at h <;> first | (cases h; done) | skip
   rename_i hg
   obtain rfl:=Option.some.inj h
   cases hv with
   | map _ b hb=>exact ⟨.map _ b (hown b g hb hg),by simp,fun h=>h⟩
  case agg=>cases h
  case tup=>cases h
  case fn f a cs =>
   split at h <;> first | (cases h; done) | skip
   rename_i hg
   obtain rfl:=Option.some.inj h
   refine ⟨?_,by simp,fun h=>h⟩
   have:=hv.noId hf (by simpa [AV.noId1] using hg)
   obtain ⟨rfl,rfl⟩:a=[]∧cs=[]:=by simpa using hg
   exact this
  case undef=>cases h; cases hv; exact ⟨.undef,by simp [AV.ro],fun h=>h⟩
  all_goals
   obtain rfl:=Option.some.inj h
   exact ⟨noId_ro hf hv rfl,fun _ _=>ro_ne_own,fun h=>by rw [one_ro]; exact h⟩
theorem frz2_ok (hr:RW W0 Γ w hp){v v':AV}{cv:Value}(h:frz2 bs hp v=some v')(hv:Rep Γ w v cv):Rep (fun b=>dropK bs (Γ b)) w v' cv∧∀ k r,v'≠.own k r:=by
 unfold frz2 at h
 split at h
 ·rename_i cs
  obtain ⟨cs',h1,rfl⟩:=Option.map_eq_some_iff.1 h
  obtain ⟨m1,m2⟩:=mapM_get h1
  cases hv with
  | agg _ u hs k1 kn kr =>
   refine ⟨.agg cs' u (by rw [hs,m1]) (fun j c hc=>?_) (fun j k r hc=>?_) (fun j c hc=>?_),by simp⟩
   ·obtain ⟨x,x1,x2⟩:=m2 j c hc
    exact (frz1_ok hr 4 x2 (kr j x x1)).2.2 (k1 j x x1)
   ·obtain ⟨x,x1,x2⟩:=m2 j _ hc
    exact absurd rfl ((frz1_ok hr 4 x2 (kr j x x1)).2.1 k r)
   ·obtain ⟨x,x1,x2⟩:=m2 j c hc
    exact (frz1_ok hr 4 x2 (kr j x x1)).1
 ·obtain ⟨h1,h2,_⟩:=frz1_ok hr 4 h hv
  exact ⟨h1,h2⟩
theorem frz_ok (hr:RW W0 Γ w hp){v v':AV}{cv:Value}(h:frz bs hp v=some v')(hv:Rep Γ w v cv)(ho:OwnAt Γ w .res v cv):Rep (fun b=>dropK bs (Γ b)) w v' cv∧OwnAt (fun b=>dropK bs (Γ b)) w .res v' cv:=by
 have hf:FixMono Γ w (fun b=>dropK bs (Γ b)) w:=fun _ _ _ h1 h2=>⟨dropK_fix h1,h2⟩
 unfold frz at h
 split at h
 ·rename_i vs
  obtain ⟨vs',h1,rfl⟩:=Option.map_eq_some_iff.1 h
  obtain ⟨m1,m2⟩:=mapM_get h1
  cases hv with
  | tup _ u hs kr =>
   refine ⟨.tup vs' u (by rw [hs,m1]) fun j c hc=>?_,.of_ne (by simp)⟩
   obtain ⟨x,x1,x2⟩:=m2 j c hc
   exact (frz2_ok hr x2 (kr j x x1)).1
 ·obtain rfl:=Option.some.inj h
  exact ⟨hv.noId hf rfl,ho.fix hf fun b n hb=>⟨by simp [hb,dropK],rfl⟩⟩
 ·obtain ⟨h1,h2⟩:=frz2_ok hr h hv
  exact ⟨h1,.of_ne h2⟩
theorem under1_ok {x:AV}{cv:Value}(hx:x.under1 bs=true)(hv:Rep Γ w x cv):Rep (fun b=>dropK bs (Γ b)) w x cv:=by
 have hf:FixMono Γ w (fun b=>dropK bs (Γ b)) w:=fun _ _ _ h1 h2=>⟨dropK_fix h1,h2⟩
 have hown:∀ b g,Γ b=.own g→g < bs→dropK bs (Γ b)=.own g:=fun b g h hg=>by simp [h,dropK,hg]
 unfold AV.under1 at hx
 split at hx
 ·cases hv with
  | arr _ _ _ _ cap b hb hc=>exact .arr _ _ _ _ cap b (hown b _ hb (by simpa using hx)) hc
 ·cases hv with
  | ptr _ _ b hb=>exact .ptr _ _ b (hown b _ hb (by simpa using hx))
 ·cases hv with
  | map _ b hb=>exact .map _ b (hown b _ hb (by simpa using hx))
 ·exact hv.noId hf hx
theorem under_ok {x:AV}{cv:Value}(hx:x.under bs=true)(hv:Rep Γ w x cv):Rep (fun b=>dropK bs (Γ b)) w x cv:=by
 unfold AV.under at hx
 split at hx
 ·simp only [Bool.and_eq_true,List.all_eq_true] at hx
  cases hv with
  | fn f a cs u v hs1 hr1 hs hr=>exact .fn _ _ _ u v hs1 (fun j c hc=>under1_ok (hx.1 c (List.mem_of_getElem? hc)) (hr1 j c hc)) hs (fun j c hc=>under1_ok (hx.2 c (List.mem_of_getElem? hc)) (hr j c hc))
 ·exact under1_ok hx hv
theorem finish_ok {s:AState}{Γ0:Ghost}{w0:World}{hp0:List AObj}{v:AV}{cv:Value}{v':AV}{hp':List AObj}{e':Eff}(h0:RW W0 Γ0 w0 hp0)(hbs:s.bs=hp0.length)(hle:s.bs≤s.hp.length)(base:∀ b n g i,Γ0 b=.list n (.cell g i)→g < s.bs)
  (hr:RW W0 Γ w s.hp) (hfr:Frame Γ0 w0 Γ w s.ef) (hbk:∀ b g,Γ b=.own g→g < s.bs→Γ0 b=.own g) (hv:Rep Γ w v cv) (ho:OwnAt Γ w .res v cv) {keep:Bool} (h:(if keep then (v.nm,s.hp,s.ef) else finish v s hp0)=(v',hp',e')) :
  ∃ Γ',RW W0 Γ' w hp'∧Rep Γ' w v' cv∧OwnAt Γ' w .res v' cv∧Frame Γ0 w0 Γ' w e'∧hp0.length≤hp'.length∧∀ b g,Γ' b=.own g→g < hp0.length→Γ0 b=.own g:=by
 have hf:FixMono Γ w (fun b=>dropK s.bs (Γ b)) w:=fun _ _ _ h1 h2=>⟨dropK_fix h1,h2⟩
 have asis:(v.nm,s.hp,s.ef)=(v',hp',e')→∃ Γ',RW W0 Γ' w hp'∧Rep Γ' w v' cv∧OwnAt Γ' w .res v' cv∧Frame Γ0 w0 Γ' w e'∧hp0.length≤hp'.length∧∀ b g,Γ' b=.own g→g < hp0.length→Γ0 b=.own g:=by
  intro e
  cases e
  exact ⟨Γ,hr,hv.nm,.of_ne fun _ _=>nm_not_own,hfr,by omega,fun b g hb hl=>hbk b g hb (by omega)⟩
 have base1:∀ b g,Γ0 b=.own g→g < s.bs:=fun b g hb=>by rw [hbs]; exact h0.lt b g hb
 have same0:∀ b,b < w0.heap.size→Kept s.ef (Γ0 b)→dropK s.bs (Γ b)=Γ0 b∧w.heap[b]? = w0.heap[b]?:=fun b hb hk=>by
  obtain ⟨e1,e2⟩:=hfr.keep b hb hk
  refine ⟨?_,e2⟩
  rw [e1]
  cases hg:Γ0 b with
  | imm=>rfl
  | own g=>simp [dropK,base1 b g hg]
  | list n l =>
   cases l with
   | cell g i=>simp [dropK,base b n g i hg]
   | _=>rfl
 have fr:Frame Γ0 w0 (fun b=>dropK s.bs (Γ b)) w s.ef :=
  ⟨hfr.os,hfr.tape,hfr.output,hfr.size,hfr.fix.trans hf,fun b g hb=>by simp [hfr.own b g hb,dropK,base1 b g hb],same0⟩
 have inj':∀ b b' g,dropK s.bs (Γ b)=.own g→dropK s.bs (Γ b')=.own g→b=b':=fun b b' g h1 h2=>hr.inj b b' g (dropK_own h1).1 (dropK_own h2).1
 have imm':∀ b,Γ b=.imm→dropK s.bs (Γ b)=.imm:=fun b hb=>by rw [hb]; rfl
 split at h
 ·exact asis h
 unfold finish at h
 split at h
 case h_2=>exact asis h
 rename_i u hu
 obtain ⟨r1,r2⟩:=frz_ok hr hu hv ho
 split at h
 ·rename_i he
  cases h
  rw [he] at fr
  refine ⟨_,⟨fun g o hg=>?_,inj',fun b hb=>imm' b (hr.fresh b hb),fun b g hb=>by rw [← hbs]; exact (dropK_own hb).2,hr.old,fun b hb=>imm' b (hr.oldImm b hb),fun g hg b hb=>h0.dead g hg b (hbk b g (dropK_own hb).1 (dropK_own hb).2)⟩,r1,r2,fr,Nat.le_refl _,fun b g hb hl=>hbk b g (dropK_own hb).1 (dropK_own hb).2⟩
  refine (h0.objs g o hg).step (X := fun b=>¬ Kept none (Γ0 b)) ⟨fr.os,fr.tape,fr.output,fr.size,fun b hb hx=>fr.keep b hb (Classical.not_not.1 hx),fr.fix,fr.own⟩ h0.fresh (fun b hx e=>hx ?_) (fun b n i hx e=>hx ?_)
  ·rw [e]; exact fun _ _ e=>by cases e
  ·rw [e]; exact fun _ _ e=>by cases e
 ·rename_i e he
  split at h
  ·rename_i hall
   cases h
   rw [he] at fr
   have hlen:(s.hp.take s.bs).length=s.bs:=by simp; omega
   refine ⟨_,⟨fun g o hg=>?_,inj',fun b hb=>imm' b (hr.fresh b hb),fun b g hb=>by rw [hlen]; exact (dropK_own hb).2,hr.old,fun b hb=>imm' b (hr.oldImm b hb),fun g hg b hb=>hr.dead g (by have hgl:=Zc hg; rw [hlen] at hgl; rw [List.getElem?_take,if_pos hgl] at hg; exact hg) b (dropK_own hb).1⟩,r1,r2,fr,by omega,fun b g hb hl=>hbk b g (dropK_own hb).1 (dropK_own hb).2⟩
   have hgl:=Zc hg
   rw [hlen] at hgl
   have hund:=List.all_eq_true.1 hall o (List.mem_of_getElem? hg)
   rw [List.getElem?_take,if_pos hgl] at hg
   have:=hr.objs g o hg
   cases o with
   | dead=>trivial
   | cells cs t =>
    obtain ⟨b,C,h1,h2,h3,h4⟩:=this
    refine ⟨b,C,by simp [h1,dropK,hgl],h2,h3,fun i c hc=>?_⟩
    obtain ⟨a1,a2,a3⟩:=h4 i c hc
    exact ⟨a1,under_ok (List.all_eq_true.1 hund c (List.mem_of_getElem? hc)) a2,a3.fix hf fun b n hb=>⟨by simp [hb,dropK,hgl],rfl⟩⟩
   | map es =>
    obtain ⟨b,ms,clk,h1,h2,h3,h4⟩:=this
    exact ⟨b,ms,clk,by simp [h1,dropK,hgl],h2,h3,h4⟩
   | iter l pos =>
    obtain ⟨b,h1,h2⟩:=this
    exact ⟨b,by simp [h1,dropK,hgl],h2⟩
   | buf _ _ _ _ =>
    obtain ⟨b,C,h1,h2,h3⟩:=this
    exact ⟨b,C,by simp [h1,dropK,hgl],h2,h3.mono fun b n i hb=>⟨by simp [hb,dropK,hgl],rfl⟩⟩
  ·exact asis h
end
end Go.Proofs.YtcfjcimhjmpkiaaGreatDoor.Abs
end
section
namespace Go.Proofs.YtcfjcimhjmpkiaaGreatDoor.Abs
open Go Go.RowKit
def calmCall (call:FuncId→List AV→List AObj→Option (AV×List AObj×Eff))(f:FuncId)(args:List AV)(hp:List AObj):Option (AV×List AObj×Eff) :=
 match call f args hp with
 | some (v,hp',none)=>match frz hp.length hp' v with
  | some v'=>some (v',hp,none)
  | none=>none
 | _=>none
theorem calm_spec {P:Program}{W0:World}{call:FuncId→List AV→List AObj→Option (AV×List AObj×Eff)}(hS:CallSpec P W0 call):CallSpec P W0 (calmCall call):=by
 intro f args hp v hp' e h Γ w xs hr ht hs hx
 unfold calmCall at h
 split at h <;> first | (cases h; done) | skip
 rename_i v0 hp0 hc
 split at h <;> first | (cases h; done) | skip
 rename_i v1 hf
 cases h
 refine (hS f args hp v0 hp0 none hc Γ w xs hr ht hs hx).mono fun cv w' ⟨Γ',r1,r2,r3,r4,r5⟩=>?_
 exact finish_ok (s := ⟨[],hp0,none,hp.length⟩) hr rfl r5.1 (fun b n g i hb=>ht.cell b n g i hb) r1 r4 r5.2 r2 r3 (keep := false) (by simp only [finish,hf]; rfl)
def bareK:Kind→Kind
 | .own _=>.list 0 .outer
 | .list n (.cell _ _)=>.list n .outer
 | k=>k
def lostK:Kind→Bool
 | .own _=>true
 | .list _ (.cell _ _)=>true
 | _=>false
theorem bareK_fix {k:Kind}{o:Nat}(h:FixedK o k):FixedK o (bareK k):=by
 cases k with
 | imm=>trivial
 | own g=>exact h.elim
 | list n l=>cases l <;> exact h
theorem bareK_own {k:Kind}{g:Nat}:bareK k≠.own g:=by
 cases k with
 | imm=>simp [bareK]
 | own g=>simp [bareK]
 | list n l=>cases l <;> simp [bareK]
theorem bareK_same {k:Kind}(h:lostK k=false):bareK k=k:=by
 cases k with
 | imm=>rfl
 | own g=>cases h
 | list n l=>cases l <;> first | rfl | cases h
theorem bareK_kept {k:Kind}(h:lostK k=true):Kept none (bareK k):=by
 cases k with
 | imm=>cases h
 | own g=>trivial
 | list n l=>cases l <;> first | trivial | cases h
theorem bareK_unfix {k:Kind}{o:Nat}(h:lostK k=true)(hf:FixedK o (bareK k)):FixedK o k:=by
 cases k with
 | imm=>cases h
 | own g=>exact absurd hf (Nat.not_lt_zero _)
 | list n l=>cases l <;> first | exact hf | cases h
theorem Rep.bare {Γ Γ':Ghost}{w:World}{x:AV}{v:Value}(hf:FixMono Γ w Γ' w)(h:Rep Γ w x v)(hb:x.bare=true):Rep Γ' w x v:=by
 cases h with
 | agg cells cv hs h1 hn hr =>
  refine .agg cells cv hs h1 hn fun j c hc=>(hr j c hc).noId hf ?_
  exact List.all_eq_true.1 hb c (List.mem_of_getElem? hc)
 | _=>exact Rep.noId hf (by constructor <;> assumption) hb
theorem bare_spec {P:Program}{W0:World}{call:FuncId→List AV→List AObj→Option (AV×List AObj×Eff)}(hS:CallSpec P W0 call):CallSpec P W0 (bareCall call):=by
 intro f args hp v hp' e h Γ w xs hr ht hs hx
 have hc:args.all AV.bare=true∧calmCall call f args []=some (v,[],none)∧hp'=hp∧e=none:=by
  unfold bareCall at h
  split at h <;> first | (cases h; done) | skip
  rename_i hb
  split at h <;> first | (cases h; done) | skip
  rename_i v0 hp0 hc
  split at h <;> first | (cases h; done) | skip
  rename_i v1 hf
  cases h
  refine ⟨hb,?_,rfl,rfl⟩
  unfold calmCall
  rw [hc]
  simp only [List.length_nil]
  rw [hf]
 obtain ⟨hb,hc,rfl,rfl⟩:=hc
 have f1:FixMono Γ w (fun b=>bareK (Γ b)) w:=fun _ _ _ h1 h2=>⟨bareK_fix h1,h2⟩
 have hr1:RW W0 (fun b=>bareK (Γ b)) w []:=⟨fun g o hg=>by simp at hg,fun b b' g hb=>absurd hb bareK_own,fun b hb=>by simp [hr.fresh b hb,bareK],fun b g hb=>absurd hb bareK_own,hr.old,fun b hb=>by simp [hr.oldImm b hb,bareK],fun g hg=>by simp at hg⟩
 have ht1:Tidy (fun b=>bareK (Γ b)) 0:=by
  refine ⟨fun b m h=>?_,fun b m j h=>?_,fun b m g i h=>?_⟩
  ·have:=ht.res b m
   cases hg:Γ b with
   | imm=>simp [hg,bareK] at h
   | own g=>simp [hg,bareK] at h
   | list n l=>cases l <;> simp [hg,bareK] at h this <;> omega
  ·have:=ht.arg b m j
   cases hg:Γ b with
   | imm=>simp [hg,bareK] at h
   | own g=>simp [hg,bareK] at h
   | list n l=>cases l <;> simp [hg,bareK] at h this <;> omega
  ·cases hg:Γ b with
   | imm=>simp [hg,bareK] at h
   | own g=>simp [hg,bareK] at h
   | list n l=>cases l <;> simp [hg,bareK] at h
 refine (calm_spec hS f args [] v [] none hc (fun b=>bareK (Γ b)) w xs hr1 ht1 hs fun j x hj=>?_).mono fun cv w' ⟨Γ',r1,r2,r3,r4,r5⟩=>?_
 ·obtain ⟨q1,q2⟩:=hx j x hj
  have hbx:=List.all_eq_true.1 hb x (List.mem_of_getElem? hj)
  refine ⟨q1.bare f1 hbx,fun k rows e=>?_⟩
  rcases q2 k rows e with h | ⟨b,cap,e,cur,h1,h2,h3,h4,h5,h6,h7,h8⟩
  ·exact .inl h
  ·exact .inr ⟨b,cap,e,cur,h1,by simp [h2,bareK],h3,h4,h5,h6,h7,fun i j r c hi hj=>⟨(h8 i j r c hi hj).1,(h8 i j r c hi hj).2.noId f1 (h8 i j r c hi hj).1⟩⟩
 ·have lt:∀ b,Γ b≠.imm→b < w.heap.size:=fun b hb=>by
   rcases Nat.lt_or_ge b w.heap.size with h' | h'
   ·exact h'
   ·exact absurd (hr.fresh b h') hb
  have lost:∀ b,lostK (Γ b)=true→Γ' b=bareK (Γ b)∧w'.heap[b]? = w.heap[b]?:=fun b hb=>r4.keep b (lt b fun e=>by rw [e] at hb; cases hb) (bareK_kept hb)
  let Γ2:Ghost:=fun b=>if lostK (Γ b)=true then Γ b else Γ' b
  have g1:∀ b,lostK (Γ b)=true→Γ2 b=Γ b:=fun b hb=>if_pos hb
  have g2:∀ b,¬ lostK (Γ b)=true→Γ2 b=Γ' b:=fun b hb=>if_neg hb
  have fix:FixMono Γ w Γ2 w':=fun b o y h1 h2=>by
   obtain ⟨k1,k2⟩:=r4.fix b o y (bareK_fix h1) h2
   refine ⟨?_,k2⟩
   unfold Fixed
   by_cases hb:lostK (Γ b)=true
   ·rw [g1 b hb]; exact h1
   ·rw [g2 b hb]; exact k1
  have own:OwnMono Γ Γ2:=fun b g hb=>by rw [g1 b (by rw [hb]; rfl)]; exact hb
  have ownI:∀ b g,Γ2 b=.own g→Γ b=.own g:=fun b g hb=>by
   by_cases hl:lostK (Γ b)=true
   ·rw [g1 b hl] at hb; exact hb
   ·rw [g2 b hl] at hb; exact absurd (r1.lt b g hb) (Nat.not_lt_zero _)
  have fix2:FixMono Γ' w' Γ2 w':=fun b o y h1 h2=>by
   refine ⟨?_,h2⟩
   unfold Fixed at h1 ⊢
   by_cases hb:lostK (Γ b)=true
   ·rw [g1 b hb]
    rw [(lost b hb).1] at h1
    exact bareK_unfix hb h1
   ·rw [g2 b hb]; exact h1
  have own2:OwnMono Γ' Γ2:=fun b g hb=>absurd (r1.lt b g hb) (Nat.not_lt_zero _)
  have keepL:∀ b,lostK (Γ b)=true→Γ2 b=Γ b∧w'.heap[b]? = w.heap[b]?:=fun b hb=>⟨g1 b hb,(lost b hb).2⟩
  have imm2:∀ b,Γ' b=.imm→lostK (Γ b)=false→Γ2 b=.imm:=fun b h1 h2=>by rw [g2 b (by rw [h2]; simp)]; exact h1
  refine ⟨Γ2,⟨fun g o hg=>?_,fun b b' g h1 h2=>hr.inj b b' g (ownI b g h1) (ownI b' g h2),fun b hb=>?_,fun b g hb=>hr.lt b g (ownI b g hb),r1.old,fun b hb=>?_,fun g hg b hb=>hr.dead g hg b (ownI b g hb)⟩,r2.mono fix2 own2,r3.mono fix2 own2 fun b n hb=>⟨?_,rfl⟩,
   ⟨r4.os,r4.tape,r4.output,r4.size,fix,own,fun b hb hk=>?_⟩,Nat.le_refl _,fun b g hb _=>ownI b g hb⟩
  ·have hold:=hr.objs g o hg
   cases o with
   | dead=>trivial
   | cells cs t =>
    obtain ⟨b,C,h1,h2,h3,h4⟩:=hold
    obtain ⟨k1,k2⟩:=keepL b (by rw [h1]; rfl)
    refine ⟨b,C,k1.trans h1,k2.trans h2,h3,fun i c hc=>?_⟩
    obtain ⟨a1,a2,a3⟩:=h4 i c hc
    refine ⟨a1,a2.mono fix own,a3.mono fix own fun b n hb=>?_⟩
    obtain ⟨k1,k2⟩:=keepL b (by rw [hb]; rfl)
    exact ⟨k1.trans hb,k2⟩
   | map es =>
    obtain ⟨b,ms,clk,h1,h2,h3,h4⟩:=hold
    obtain ⟨k1,k2⟩:=keepL b (by rw [h1]; rfl)
    exact ⟨b,ms,clk,k1.trans h1,k2.trans h2,h3,h4⟩
   | iter l pos =>
    obtain ⟨b,h1,h2⟩:=hold
    obtain ⟨k1,k2⟩:=keepL b (by rw [h1]; rfl)
    exact ⟨b,k1.trans h1,k2.trans h2⟩
   | buf _ _ _ _ =>
    obtain ⟨b,C,h1,h2,h3⟩:=hold
    obtain ⟨k1,k2⟩:=keepL b (by rw [h1]; rfl)
    refine ⟨b,C,k1.trans h1,k2.trans h2,h3.mono fun b n i hb=>?_⟩
    obtain ⟨k1,k2⟩:=keepL b (by rw [hb]; rfl)
    exact ⟨k1.trans hb,k2⟩
  ·refine imm2 b (r1.fresh b hb) ?_
   rw [hr.fresh b (Nat.le_trans r4.size hb)]; rfl
  ·refine imm2 b (r1.oldImm b hb) ?_
   rw [hr.oldImm b hb]; rfl
  ·by_cases hl:lostK (Γ b)=true
   ·have:=(lost b hl).1
    rw [hb] at this
    cases hg:Γ b with
    | imm=>simp [hg,bareK] at this
    | own g=>simp [hg,bareK] at this
    | list n l=>cases l <;> simp [hg,bareK] at this <;> (rw [hg] at hl; cases hl)
   ·rw [g2 b hl]; exact hb
  ·by_cases hl:lostK (Γ b)=true
   ·exact keepL b hl
   ·have hsame:=bareK_same (by simpa using hl:lostK (Γ b)=false)
    obtain ⟨k1,k2⟩:=r4.keep b hb (by show Kept none (bareK (Γ b)); rw [hsame]; exact hk)
    exact ⟨by rw [g2 b hl,k1]; exact hsame,k2⟩
end Go.Proofs.YtcfjcimhjmpkiaaGreatDoor.Abs
end
section
namespace Go.Proofs.YtcfjcimhjmpkiaaGreatDoor.Abs
open Go Go.RowKit
section
variable {G:Nat→Option (List AV)}{call:FuncId→List AV→List AObj→Option (AV×List AObj×Eff)}
theorem evalOp_bs {s s':AState}{ao:AOp}{v:AV}(h:evalOp G call s ao=some (v,s')):s'.bs=s.bs:=by
 cases ao <;> simp only [evalOp] at h <;> (repeat' split at h) <;> first
  | (cases h; done)
  | (obtain ⟨_,rfl⟩:=map_pair h; rfl)
  | (cases h; rfl)
  | (obtain ⟨x,_,e⟩:=Option.map_eq_some_iff.1 h; cases e; rfl)
theorem put_bs (s:AState)(d:Option Nat)(v:AV):(s.put d v).bs=s.bs:=by cases d <;> rfl
theorem evalOps_bs:∀ {l:List AOper} {s s':AState},evalOps G call l s=some s'→s'.bs=s.bs
 | [],s,s',h=>by cases h; rfl
 | o :: l,s,s',h=>by
  simp only [evalOps] at h
  split at h <;> first | (cases h; done) | skip
  rename_i s1 h1
  rw [evalOps_bs h]
  simp only [evalOper] at h1
  split at h1 <;> first | (cases h1; done) | skip
  ·split at h1 <;> first | (cases h1; done) | skip
   rename_i v s2 h2
   obtain rfl:=Option.some.inj h1
   rw [put_bs,evalOp_bs h2]
  ·obtain rfl:=Option.some.inj h1
   rw [put_bs]
theorem iter_bs {f:AState→Option (AExit×AState)}(hf:∀ {s:AState} {r:AExit×AState},f s=some r→r.2.bs=s.bs):∀ (n:Nat) {s:AState} {r:AExit×AState},iter f n s=some r→r.2.bs=s.bs
 | 0,_,_,h=>by cases h
 | n + 1,s,r,h=>by
  simp only [iter] at h
  split at h
  ·rename_i s1 h1
   rw [iter_bs hf n h]
   exact hf h1
  ·exact hf h
theorem evalCode_bs (L:Nat):∀ {c:ACode} {s:AState} {r:AExit×AState},evalCode G call L c s=some r→r.2.bs=s.bs:=by
 intro c
 induction c with
 | skip=>intro s r h; cases h; rfl
 | region draw ops =>
  intro s r h
  cases draw with
  | false =>
   simp only [evalCode] at h
   obtain ⟨s1,h1,rfl⟩:=Option.map_eq_some_iff.1 h
   exact evalOps_bs h1
  | true =>
   simp only [evalCode] at h
   obtain ⟨s1,h1,rfl⟩:=Option.map_eq_some_iff.1 h
   exact evalOps_bs h1
 | regionB ops =>
  intro s r h
  simp only [evalCode] at h
  obtain ⟨-,h⟩:=ite_some h
  obtain ⟨s1,h1,rfl⟩:=Option.map_eq_some_iff.1 h
  exact evalOps_bs h1
 | seq x y ihx ihy =>
  intro s r h
  simp only [evalCode] at h
  split at h
  ·rename_i s1 h1
   rw [ihy h]; exact ihx h1
  ·exact ihx h
 | cond c x y ihx ihy =>
  intro s r h
  simp only [evalCode] at h
  split at h <;> first | (cases h; done) | skip
  ·exact ihx h
  ·exact ihy h
 | block id c ih =>
  intro s r h
  simp only [evalCode] at h
  split at h
  ·rename_i i s1 h1
   have:=ih h1
   split at h <;> (obtain rfl:=Option.some.inj h; exact this)
  ·exact ih h
 | loop c ih =>
  intro s r h
  simp only [evalCode] at h
  exact iter_bs ih L h
 | scope c ih=>intro s r h; simp only [evalCode] at h; exact ih h
 | exit id=>intro s r h; cases h; rfl
 | ret=>intro s r h; cases h; rfl
 | bad=>intro s r h; cases h
end
structure CfgOk (P:Program)(W0:World)(C:Cfg):Prop where
 mixed:P.follows .mixedOrders=true
 globals:GOk C.G W0
 table:∀ f af,C.T f=some af→∃ fn takes,P.funcs[f]? = some fn∧(fn.name == "runtime.NumGoroutine")=false∧cFn P takes fn=some af
 oracle:CallSpec P W0 C.O
theorem enter_run {P:Program}{f:FuncId}{fn:Func}{c:Code}(hf:P.funcs[f]? = some fn)(hn:(fn.name == "runtime.NumGoroutine")=false)(hb:fn.body=some c)(xs:Array Value)(w:World):(callFunc f xs).run P w=.ok (.enter f xs) w:=by
 have hn':¬ fn.name = "runtime.NumGoroutine" := by simpa using hn
 simp [callFunc,program,hf,hn',hb,Sem.run]
theorem evalCall_ok {P:Program}{W0:World}{C:Cfg}(h:CfgOk P W0 C):∀ n,CallSpec P W0 (evalCall C n):=by
 intro n
 induction n with
 | zero=>intro f args hp v hp' e hc; cases hc
 | succ n ih =>
  intro f args hp v hp' e hc Γ w xs hr ht hs hx
  simp only [evalCall] at hc
  split at hc
  case h_2=>exact h.oracle f args hp v hp' e hc Γ w xs hr ht hs hx
  rename_i af haf
  obtain ⟨fn,takes,hf,hname,hcf⟩:=h.table f af haf
  unfold cFn at hcf
  split at hcf <;> first | (cases hcf; done) | skip
  rename_i c rs hb hrs
  obtain ⟨ac,hac,rfl⟩:=Option.map_eq_some_iff.1 hcf
  split at hc
  ·cases hc
  ·rename_i x s hne hev
   split at hc <;> first | (cases hc; done) | skip
   rename_i u hu
   have hfin:=Option.some.inj hc
   refine ⟨enter_run hf hname hb xs w,?_⟩
   have hbs:s.bs=hp.length:=evalCode_bs C.L hev
   have hI:Inv ⟨W0,Γ,w⟩ ⟨args ++ List.replicate (fn.ntmps - args.length) .undef,hp,none,hp.length⟩ Γ { tmps := xs ++ Array.replicate (fn.ntmps - xs.size) Go.undef,defers := [] } w:=by
    have get:∀ (t:Nat) (y:AV),(args ++ List.replicate (fn.ntmps - args.length) AV.undef)[t]? = some y→(args[t]? = some y∧(xs ++ Array.replicate (fn.ntmps - xs.size) Go.undef).getD t Go.undef=xs.getD t Go.undef)∨(y=.undef∧(xs ++ Array.replicate (fn.ntmps - xs.size) Go.undef).getD t Go.undef=Go.undef):=by
     intro t y hy
     rw [List.getElem?_append] at hy
     split at hy
     ·rename_i hlt
      refine .inl ⟨hy,?_⟩
      rw [Array.getD_eq_getD_getElem?,Array.getD_eq_getD_getElem?,Array.getElem?_append_left (by omega)]
     ·rename_i hge
      have hm:=List.mem_of_getElem? hy
      have:=List.eq_of_mem_replicate hm
      refine .inr ⟨this,?_⟩
      have hlt:=Zc hy
      simp only [List.length_replicate] at hlt
      rw [Array.getD_eq_getD_getElem?,Array.getElem?_append_right (by omega),Array.getElem?_replicate,if_pos (by omega)]
      rfl
    refine ⟨rfl,⟨by simp [hs],fun t y hy=>?_,fun t y hy=>?_⟩,hr,.refl _ _ _,fun b g hb=>hr.lt b g hb,fun b m g i hb=>ht.cell b m g i hb,Nat.le_refl _,fun _ _ hb _=>hb⟩
    ·rcases get t y hy with ⟨h1,h2⟩ | ⟨rfl,h2⟩
     ·rw [h2]; exact (hx t y h1).1
     ·rw [h2]; exact .undef
    ·rcases get t y hy with ⟨h1,h2⟩ | ⟨rfl,h2⟩
     ·rw [h2]; exact (hx t y h1).2
     ·exact .of_ne (by simp)
   have hw:=code_wp h.mixed h.globals ih (bare_spec ih) C.L hac hev hI
   refine calls_of_wp hf hb (Go.wp_mono hw fun en a' w' he=>?_)
   obtain ⟨k1,Γ',i1⟩:=he
   have fin:a'.defers=[]∧∃ cv,(results fn a'.tmps).run P w'=.ok cv w'∧∃ v',Ending.returned cv=.returned v'∧∃ Γ',RW W0 Γ' w' hp'∧Rep Γ' w' v v'∧OwnAt Γ' w' .res v v'∧Frame Γ w Γ' w' e∧hp.length≤hp'.length∧∀ b g,Γ' b=.own g→g < hp.length→Γ b=.own g:=by
    obtain ⟨cv,Γ2,q1,q2,q3,q4,q5,q6⟩:=res_ok i1 hrs hu
    obtain ⟨Γ3,p1,p2,p3,p4,p5⟩:=finish_ok hr hbs (by rw [hbs]; have:=i1.le; simpa [hbs] using this) (fun b m g i hb=>by rw [hbs]; exact ht.cell b m g i hb) q2 q3 q6 q4 q5 hfin
    exact ⟨i1.defers,cv,q1,cv,rfl,Γ3,p1,p2,p3,p4,p5⟩
   cases x with
   | exit i=>exact (hne i rfl).elim
   | normal=>cases en <;> first | exact k1.elim | exact fin
   | ret=>cases en <;> first | exact k1.elim | exact fin
  ·cases hc
end Go.Proofs.YtcfjcimhjmpkiaaGreatDoor.Abs
end
section
namespace Go.Proofs.YtcfjcimhjmpkiaaGreatDoor.Abs
open Go Go.RowKit
def still:Ghost:=fun _=>.imm
theorem rw_start (W:World):RW W still W [] :=
 ⟨fun g o hg=>by simp at hg,fun b b' g h=>(by cases h),fun _ _=>rfl,fun b g h=>(by cases h),⟨rfl,rfl,rfl,Nat.le_refl _,fun _ _=>rfl⟩,fun _ _=>rfl,fun g hg=>by simp at hg⟩
theorem tidy_start:Tidy still 0:=⟨fun _ _ h=>(by cases h),fun _ _ _ h=>(by cases h),fun _ _ _ _ h=>(by cases h)⟩
theorem law_of {P:Program}{W:World}{C:Cfg}(h:CfgOk P W C){n:Nat}{f:FuncId}{avs:List AV}{hp:List AObj}{e:Eff}(hev:evalCall C n f avs []=some (.bool true,hp,e)){args:Array Value}
  (hs:args.size=avs.length) (hr:∀ (j:Nat) (x:AV),avs[j]? = some x→Rep still W x (args.getD j Go.undef)∧∀ k r,x≠.own k r) :
  Calls P f args W fun e W'=>e=.returned (.bool true)∧Below W.heap.size W W':=by
 obtain ⟨_,hw⟩:=evalCall_ok h n f avs [] _ _ _ hev still W args (rw_start W) tidy_start hs fun j x hx=>⟨(hr j x hx).1,.of_ne (hr j x hx).2⟩
 refine hw.mono fun en W' ⟨cv,hv,Γ',r1,r2,_,r4,_⟩=>?_
 subst hv
 cases r2
 exact ⟨rfl,r4.os,r4.tape,r4.output,r4.size,fun b hb=>(r4.keep b hb trivial).2⟩
end Go.Proofs.YtcfjcimhjmpkiaaGreatDoor.Abs
end
section
namespace Go.Proofs.YtcfjcimhjmpkiaaGreatDoor.Abs
open Go Go.RowKit
def OracleOk (P:Program)(W0:World)(f:FuncId)(args:List AV)(v:AV):Prop :=
 (∀ k r,v≠.own k r)∧∀ (Γ:Ghost) (w:World) (xs:Array Value),Below W0.heap.size W0 w→(∀ b,w.heap.size≤b→Γ b=.imm)→xs.size=args.length→(∀ (j:Nat) (x:AV),args[j]? = some x→Rep Γ w x (xs.getD j Go.undef)) →
  Went P f xs w fun cv w'=>Below w.heap.size w w'∧Rep Γ w' v cv
theorem spec_of_oracles {P:Program}{W0:World}{O:FuncId→List AV→Option AV}(h:∀ f args v,O f args=some v→OracleOk P W0 f args v) :
  CallSpec P W0 fun f args hp=>(O f args).map fun v=>(v,hp,none):=by
 intro f args hp v hp' e ho Γ w xs hr _ hs hx
 obtain ⟨u,hu,e1⟩:=Option.map_eq_some_iff.1 ho
 cases e1
 obtain ⟨hown,hrun⟩:=h f args v hu
 refine (hrun Γ w xs hr.old hr.fresh hs fun j x hj=>(hx j x hj).1).mono fun cv w' ⟨hb,hv⟩=>?_
 have st:Step Γ w Γ w' fun _=>False:=⟨hb.os,hb.tape,hb.output,hb.size,fun b hbl _=>⟨rfl,hb.block b hbl⟩,fun b o v h1 h2=>⟨h1,(cell_heap (hb.block b (lt_of_cell h2))).trans h2⟩,.refl _⟩
 obtain ⟨o1,o2⟩:=below_step hr.old hr.oldImm st fun _ hx=>hx.elim
 refine ⟨Γ,⟨fun g o hg=>(hr.objs g o hg).step st hr.fresh (fun _ hx=>hx.elim) (fun _ _ _ hx=>hx.elim),hr.inj,fun b hbl=>hr.fresh b (Nat.le_trans hb.size hbl),hr.lt,o1,o2,hr.dead⟩,hv,.of_ne hown,⟨hb.os,hb.tape,hb.output,hb.size,st.fix,.refl _,fun b hbl _=>⟨rfl,hb.block b hbl⟩⟩,Nat.le_refl _,fun _ _ hb _=>hb⟩
theorem went_of_calls {P:Program}{f:FuncId}{fn:Func}{c:Code}{xs:Array Value}{w:World}{R:Value→World→Prop}(hf:P.funcs[f]? = some fn)(hn:(fn.name == "runtime.NumGoroutine")=false)(hb:fn.body=some c)
  (h:Calls P f xs w fun e w'=>∃ v,e=.returned v∧R v w'):Went P f xs w R:=⟨enter_run hf hn hb xs w,h⟩
end Go.Proofs.YtcfjcimhjmpkiaaGreatDoor.Abs
end
section
namespace Go.Proofs.YtcfjcimhjmpkiaaGreatDoor.Abs
open Go
inductive KV where
 | raw (v:AV)
 | cln (v:AV)
def KV.val:KV→AV
 | .raw v=>v
 | .cln v=>v
def KV.rd:KV→AV
 | .raw v=>v.ro
 | .cln v=>v
abbrev bifK {α:Type}(b:Bool)(x y:α):α :=
 match b with
 | true=>x
 | false=>y
abbrev Env:=Nat→KV
def Env.set (e:Env)(t:Nat)(v:KV):Env:=fun u=>bifK (Nat.beq u t) v (e u)
def Env.put (e:Env)(d:Option Nat)(v:KV):Env :=
 match d with
 | some d=>e.set d v
 | none=>e
abbrev KR:=Option (AV×List AObj×Eff)
abbrev Cont:=Env→List AObj→Eff→KR
abbrev rdK {α:Type}(x:Option α)(k:α→KR):KR :=
 match x with
 | some v=>k v
 | none=>none
def optK {α:Type}(x:Option α)(k:α→KR):KR :=
 match x with
 | some v=>k v
 | none=>none
def opt2 {α β:Type}(x:Option (α×β))(k:α→β→KR):KR :=
 match x with
 | some (a,b)=>k a b
 | none=>none
def opt3 {α β γ:Type}(x:Option (α×β×γ))(k:α→β→γ→KR):KR :=
 match x with
 | some (a,b,c)=>k a b c
 | none=>none
def ifK (v:AV)(a b:KR):KR :=
 match v with
 | .bool true=>a
 | .bool false=>b
 | _=>none
def guardB (want:Bool):AV→Option Bool
 | .bool b=>some (b == want)
 | .undef=>some false
 | _=>none
def guardK (g:Option Bool)(x:KR)(hp:List AObj)(ef:Eff)(k:AV→List AObj→Eff→KR):KR :=
 match g with
 | some true=>opt3 x k
 | some false=>k .undef hp ef
 | none=>none
def guardM (g:Option Bool)(a b:KR):KR :=
 match g with
 | some true=>a
 | some false=>b
 | none=>none
def grpK (c:AV)(want:Bool)(x:KR)(other:Option AV)(hp:List AObj)(ef:Eff)(k:AV→List AObj→Eff→KR):KR :=
 match c with
 | .bool b=>match b == want with
  | true=>opt3 x k
  | false=>optK other fun v=>k v hp ef
 | _=>none
def letK {α:Type}(x:α)(k:α→KR):KR:=k x
def noteK (bs:Nat)(ef:Eff)(g v:Nat):Eff:=if g < bs then Eff.or ef (some (g,v)) else ef
def afterK (bs:Nat)(ef:Eff):Eff→Eff
 | some (a,b)=>if a < bs then Eff.or ef (some (a,b)) else ef
 | none=>ef
def pickV (c a b:AV):Option AV :=
 match c with
 | .bool true=>some a
 | .bool false=>some b
 | _=>none
def boxV (n:Nat)(v:AV):Option (List AV):=if v.cells.length=n∧v.laid=true then some v.cells else none
def litV (e:TypeId)(k:Nat)(vs:List AV)(hp:List AObj):Option (AV×List AObj) :=
 if vs.all (fun v=>v.cells.length == k && v.cells.all AV.noId1) then some (.own k (vs.map fun v=>v.cells.map AV.ro),hp)
 else if vs.all (fun v=>v.cells.length == k && v.laid) then some (.arr hp.length 0 vs.length k,hp ++ [.cells (vs.map AV.cells).flatten e]) else none
def litaV (e:TypeId)(k:Nat)(vs:List AV)(hp:List AObj):Option (AV×List AObj) :=
 if vs.all (fun v=>v.cells.length == k && v.laid) then some (.arr hp.length 0 vs.length k,hp ++ [.cells (vs.map AV.cells).flatten e]) else none
def ldtV (bs:Nat)(p:AV)(hp:List AObj)(ef:Eff):Option (AV×List AObj×Eff) :=
 match p with
 | .ptr g o=>match hp[g]? with
  | some (.cells cs t)=>match cs[o]? with
   | some v=>some (v.up,hp.set g (.cells (cs.set o v.ro) t),noteK bs ef g 0)
   | none=>none
  | _=>none
 | _=>none
def stV (bs n:Nat)(p v:AV)(hp:List AObj)(ef:Eff):Option (List AObj×Eff) :=
 match p with
 | .ptr g o=>match hp[g]? with
  | some (.cells cs t)=>if v.cells.length=n∧o + n≤cs.length∧v.laid=true then some (hp.set g (.cells (splice cs o v.cells) t),noteK bs ef g 0) else none
  | _=>none
 | _=>none
def sttV (bs:Nat)(p v:AV)(hp:List AObj)(ef:Eff):Option (List AObj×Eff) :=
 match p with
 | .ptr g o=>match hp[g]? with
  | some (.cells cs t)=>if v.one=true∧o < cs.length then some (hp.set g (.cells (cs.set o v) t),noteK bs ef g 0) else none
  | _=>none
 | _=>none
def nilchkV:AV→Option AV
 | .ref c=>some (.ref c)
 | .ptr g o=>some (.ptr g o)
 | .fn f a c=>some (.fn f a c)
 | _=>none
def mkslV (e:TypeId)(zero:List AV)(n:AV)(hp:List AObj):Option (AV×List AObj) :=
 match n with
 | .int _ n=>if 0≤n∧n≤4294967296 then some (.arr hp.length 0 n.toNat zero.length,hp ++ [.cells (List.flatten (List.replicate n.toNat zero)) e]) else none
 | _=>none
def mupdV (bs:Nat)(sh:KSh)(m k v:AV)(hp:List AObj)(ef:Eff):Option (List AObj×Eff) :=
 match m with
 | .map g=>match hp[g]? with
  | some (.map es)=>if keyFit sh k && v.flat1 then match update sh k v es with
    | some es'=>some (hp.set g (.map es'),noteK bs ef g 0)
    | none=>none
   else none
  | _=>none
 | _=>none
def rangeV (x:AV)(hp:List AObj):Option (AV×List AObj) :=
 match x with
 | .str b=>some (.ptr hp.length 0,hp ++ [.iter b 0])
 | _=>none
def nextV (bs:Nat)(x:AV)(hp:List AObj)(ef:Eff):Option (AV×List AObj×Eff) :=
 match x with
 | .ptr g 0=>match hp[g]? with
  | some (.iter b pos)=>if pos < b.length then
    some (.tup [.bool true,.int .i64 pos,.int .i32 (Utf8.decode ⟨b.toArray⟩ pos).1],hp.set g (.iter b (pos + (Utf8.decode ⟨b.toArray⟩ pos).2)),noteK bs ef g 0)
   else some (.tup [.bool false],hp,ef)
  | _=>none
 | _=>none
def extractV (x:AV)(i:Nat):Option AV :=
 match x with
 | .tup vs=>(vs[i]?).map AV.ro
 | _=>none
def appV (k bytes:Nat)(s x:AV)(hp:List AObj):Option AV :=
 match s with
 | .own k' r=>match rowsOf hp x with
  | some (k'',r')=>if k=k'∧k=k''∧r'.all (·.all AV.noId1)∧(r.length + r'.length) * bytes≤140737488355328 then some (.own k (r ++ r')) else none
  | none=>none
 | _=>none
def appsV (bytes:Nat)(s x:AV):Option AV :=
 match s,x with
 | .own k r,.str l=>if k=1∧(r.length + l.length) * bytes≤140737488355328 then some (.own 1 (r ++ l.map byteRow)) else none
 | _,_=>none
def appnV (k bytes:Nat)(x:AV)(hp:List AObj):Option AV :=
 match rowsOf hp x with
 | some (k'',r')=>if k=k''∧r'.all (·.all AV.noId1)∧r'.length * bytes≤140737488355328 then some (.own k r') else none
 | none=>none
def copyV (bs k:Nat)(d x:AV)(hp:List AObj)(ef:Eff):Option (AV×List AObj×Eff) :=
 match d with
 | .arr g off len k''=>match rowsOf hp x,hp[g]? with
  | some (k',r),some (.cells cs t)=>if k=k'∧k=k''∧off + Nat.min r.length len * k≤cs.length∧((r.take (Nat.min r.length len)).flatten.map AV.ro).all AV.one=true then
    some (.int .i64 (Nat.min r.length len:Nat),hp.set g (.cells (splice cs off ((r.take (Nat.min r.length len)).flatten.map AV.ro)) t),noteK bs ef g 0) else none
  | _,_=>none
 | .lst _ []=>match rowsOf hp x with
  | some (k',_)=>if k=k' then some (.int .i64 0,hp,ef) else none
  | none=>none
 | _=>none
def minV:List AV→Option AV
 | .int .i64 n :: l=>(minL n l).map fun n=>.int .i64 n
 | _=>none
def maxV:List AV→Option AV
 | .int .i64 n :: l=>(maxL n l).map fun n=>.int .i64 n
 | _=>none
def callV (K:FuncId→List AV→List AObj→KR)(f:AV)(vs:List AV)(hp:List AObj):KR :=
 match f with
 | .fn f first caps=>K f (first.map AV.nm ++ vs ++ caps.map AV.nm) hp
 | _=>none
def notIn:List Nat→Nat→Bool
 | [],_=>true
 | u :: l,t=>bifK (Nat.beq u t) false (notIn l t)
def rm (d:Nat):List Nat→List Nat
 | []=>[]
 | u :: l=>bifK (Nat.beq u d) (rm d l) (u :: rm d l)
def rmO (d:Option Nat)(P:List Nat):List Nat :=
 match d with
 | some d=>rm d P
 | none=>P
def takesFrom:AOp→Bool
 | .take _ | .stt .. | .app .. | .apps .. | .mvz _=>true
 | .call _ args=>args.any fun
  | .inl _=>true
  | .inr _=>false
 | _=>false
def grpLen (N t:Nat)(want:Bool)(P:List Nat):List Nat→List AOper→Nat
 | _,[]=>0
 | ds,o :: l=>match o.guard,o.dst with
  | some (u,w),some d =>
   bifK (((Nat.beq u t && (w == want)) || !notIn ds u) && !Nat.beq d t && !notIn P d && !takesFrom o.op && Nat.blt d N) (grpLen N t want P (d :: ds) l + 1) 0
  | _,_=>0
def inA (t:Nat)(w:Bool):List (Nat×Bool)→Bool
 | []=>false
 | (u,v) :: l=>bifK (Nat.beq u t && (v == w)) true (inA t w l)
section
variable (G:Nat→Option (List AV))(N bs:Nat)(P:List Nat)
def opndK (e:Env):Opnd→Option AV
 | .tmp t=>bifK ((Nat.blt t N && notIn P t)) (some (e t).rd) (none)
 | .const v=>some v
 | .glob g=>(G g).map .ref
def opndsK (e:Env):List Opnd→Option (List AV)
 | []=>some []
 | x :: l=>match opndK G N P e x with
  | some v=>match opndsK e l with
   | some vs=>some (v :: vs)
   | none=>none
  | none=>none
def optOpndK (e:Env):Option Opnd→Option (Option AV)
 | none=>some none
 | some x=>match opndK G N P e x with
  | some v=>some (some v)
  | none=>none
def mvK (e:Env)(x:Opnd)(k:KV→KR):KR :=
 match x with
 | .tmp t=>bifK ((Nat.blt t N && notIn P t)) (k (.cln (e t).rd)) none
 | .const v=>k (.raw v)
 | .glob g=>optK (G g) fun c=>k (.cln (.ref c))
def argsK:Env→List (Nat ⊕ Opnd)→Option (List AV×Env)
 | e,[]=>some ([],e)
 | e,.inl t :: l=>bifK ((Nat.blt t N && notIn P t)) (match argsK (e.set t (.cln (e t).rd)) l with
  | some (vs,e')=>some ((e t).val :: vs,e')
  | none=>none) none
 | e,.inr x :: l=>match opndK G N P e x with
  | some v=>match argsK e l with
   | some (vs,e')=>some (v :: vs,e')
   | none=>none
  | none=>none
variable (K:FuncId→List AV→List AObj→KR)
def opK (e:Env)(hp:List AObj)(ef:Eff)(op:AOp)(k:KV→Env→List AObj→Eff→KR):KR :=
 match op with
 | .bad=>none
 | .mv x=>mvK G N P e x fun v=>k v e hp ef
 | .take t=>bifK ((Nat.blt t N && notIn P t)) (k (e t) (e.set t (.cln (e t).rd)) hp ef) none
 | .pick c a b=>rdK (opndK G N P e c) fun c=>rdK (opndK G N P e a) fun a=>rdK (opndK G N P e b) fun b=>optK (pickV c a b) fun v=>k (.raw v) e hp ef
 | .mk t cells=>k (.cln (.ptr hp.length 0)) e (hp ++ [.cells cells t]) ef
 | .box t n x=>rdK (opndK G N P e x) fun v=>optK (boxV n v) fun cs=>k (.cln (.ptr hp.length 0)) e (hp ++ [.cells cs t]) ef
 | .build zero parts=>rdK (opndsK G N P e (parts.map (·.2.2))) fun vs=>optK (fill zero ((parts.zip vs).map fun (p,v)=>(p.1,p.2.1,v.nm))) fun cs=>k (.cln (.agg cs)) e hp ef
 | .lit t n parts=>rdK (opndsK G N P e parts) fun vs=>opt2 (litV t n vs hp) fun v hp'=>k (.raw v) e hp' ef
 | .lita t n parts=>rdK (opndsK G N P e parts) fun vs=>opt2 (litaV t n vs hp) fun v hp'=>k (.raw v) e hp' ef
 | .ldc p=>rdK (opndK G N P e p) fun p=>optK (ldcVal hp p) fun v=>k (.cln v) e hp ef
 | .lda n p=>rdK (opndK G N P e p) fun p=>optK (ldaVal hp n p) fun v=>k (.cln v) e hp ef
 | .ldt p=>rdK (opndK G N P e p) fun p=>opt3 (ldtV bs p hp ef) fun v hp' ef'=>k (.raw v) e hp' ef'
 | .st n p x=>rdK (opndK G N P e p) fun p=>rdK (opndK G N P e x) fun v=>opt2 (stV bs n p v hp ef) fun hp' ef'=>k (.cln .undef) e hp' ef'
 | .stt p t=>rdK (opndK G N P e p) fun p=>bifK ((Nat.blt t N && notIn P t)) (opt2 (sttV bs p (e t).val hp ef) (fun hp' ef'=>k (.cln .undef) (e.set t (.cln (e t).rd)) hp' ef')) none
 | .nilchk x=>rdK (opndK G N P e x) fun x=>optK (nilchkV x) fun v=>k (.cln v) e hp ef
 | .bin op sh x y=>rdK (opndK G N P e x) fun a=>rdK (opndK G N P e y) fun b=>optK (binVal op sh a b) fun v=>k (.cln v) e hp ef
 | .un op x=>rdK (opndK G N P e x) fun a=>optK (unVal op a) fun v=>k (.cln v) e hp ef
 | .conv c x=>rdK (opndK G N P e x) fun a=>optK (convVal hp c a) fun v=>k (.cln v) e hp ef
 | .mkfn f first caps=>rdK (opndsK G N P e first) fun us=>rdK (opndsK G N P e caps) fun vs=>k (.cln (.fn f us vs)) e hp ef
 | .mkmap=>k (.cln (.map hp.length)) e (hp ++ [.map []]) ef
 | .mksl t zero n=>rdK (opndK G N P e n) fun n=>opt2 (mkslV t zero n hp) fun v hp'=>k (.cln v) e hp' ef
 | .slice sh x lo hi=>rdK (opndK G N P e x) fun x=>rdK (optOpndK G N P e lo) fun lo=>rdK (optOpndK G N P e hi) fun hi=>optK (sliceVal sh x lo hi) fun v=>k (.cln v) e hp ef
 | .slice3 sh x hi mx=>rdK (opndK G N P e x) fun x=>rdK (opndK G N P e hi) fun hi=>rdK (opndK G N P e mx) fun mx=>optK (slice3Val sh x hi mx) fun v=>k (.cln v) e hp ef
 | .fa off x=>rdK (opndK G N P e x) fun x=>optK (faVal off x) fun v=>k (.cln v) e hp ef
 | .fld off n agg x=>rdK (opndK G N P e x) fun x=>optK (fldVal off n agg x) fun v=>k (.cln v) e hp ef
 | .ia sh x i=>rdK (opndK G N P e x) fun x=>rdK (opndK G N P e i) fun i=>optK (iaVal sh x i) fun v=>k (.cln v) e hp ef
 | .idx x i=>rdK (opndK G N P e x) fun x=>rdK (opndK G N P e i) fun i=>optK (idxVal x i) fun v=>k (.cln v) e hp ef
 | .look sh zero x i ok=>rdK (opndK G N P e x) fun x=>rdK (opndK G N P e i) fun i=>optK (lookVal hp sh zero x i ok) fun v=>k (.raw v) e hp ef
 | .mupd sh m i v=>rdK (opndK G N P e m) fun m=>rdK (opndK G N P e i) fun i=>rdK (opndK G N P e v) fun v=>opt2 (mupdV bs sh m i v hp ef) fun hp' ef'=>k (.cln .undef) e hp' ef'
 | .range x=>rdK (opndK G N P e x) fun x=>opt2 (rangeV x hp) fun v hp'=>k (.cln v) e hp' ef
 | .next x=>rdK (opndK G N P e x) fun x=>opt3 (nextV bs x hp ef) fun v hp' ef'=>k (.cln v) e hp' ef'
 | .extract x i=>rdK (opndK G N P e x) fun x=>optK (extractV x i) fun v=>k (.cln v) e hp ef
 | .len sh x=>rdK (opndK G N P e x) fun x=>optK (lenVal hp sh x) fun v=>k (.cln v) e hp ef
 | .app n bytes t x=>bifK ((Nat.blt t N && notIn P t)) (rdK (opndK G N P e x) (fun x=>optK (appV n bytes (e t).val x hp) fun v=>k (.raw v) (e.set t (.cln (e t).rd)) hp ef)) none
 | .apps bytes t x=>bifK ((Nat.blt t N && notIn P t)) (rdK (opndK G N P e x) (fun x=>optK (appsV bytes (e t).val x) fun v=>k (.raw v) (e.set t (.cln (e t).rd)) hp ef)) none
 | .appn n bytes x=>rdK (opndK G N P e x) fun x=>optK (appnV n bytes x hp) fun v=>k (.raw v) e hp ef
 | .copy n d x=>rdK (opndK G N P e d) fun d=>rdK (opndK G N P e x) fun x=>opt3 (copyV bs n d x hp ef) fun v hp' ef'=>k (.cln v) e hp' ef'
 | .slicez .. | .appz .. | .mvz _=>none
 | .min xs=>rdK (opndsK G N P e xs) fun vs=>optK (minV vs) fun v=>k (.cln v) e hp ef
 | .max xs=>rdK (opndsK G N P e xs) fun vs=>optK (maxV vs) fun v=>k (.cln v) e hp ef
 | .call f args=>rdK (opndK G N P e f) fun f=>rdK (argsK G N P e args) fun p=>opt3 (callV K f p.1 hp) fun v hp' ef'=>k (.raw v) p.2 hp' (afterK bs ef ef')
def operK (A:List (Nat×Bool))(o:AOper)(e:Env)(hp:List AObj)(ef:Eff)(k:Cont):KR :=
 match o.guard with
 | none=>opK G N bs P K e hp ef o.op fun v e' hp' ef'=>k (e'.put o.dst v) hp' ef'
 | some (t,want)=>bifK (inA t want A) (opK G N bs P K e hp ef o.op fun v e' hp' ef'=>k (e'.put o.dst v) hp' ef') (bifK (Nat.blt t N && notIn P t)
   (bifK (takesFrom o.op)
    (guardM (guardB want (e t).val) (opK G N bs P K e hp ef o.op fun v e' hp' ef'=>k (e'.put o.dst v) hp' ef') (k (e.put o.dst (.cln .undef)) hp ef))
    (guardK (guardB want (e t).val) (opK G N bs P K e hp ef o.op fun v _ hp' ef'=>some (v.val,hp',ef')) hp ef fun v hp' ef'=>k (e.put o.dst (.raw v)) hp' ef'))
   none)
end
section
variable (G:Nat→Option (List AV))(N bs:Nat)(K:FuncId→List AV→List AObj→KR)
def grpAt (A:List (Nat×Bool))(P:List Nat)(ops:List AOper):Option (Nat×Bool×Nat×Option Nat×Opnd×Opnd×List AOper) :=
 match ops with
 | []=>none
 | o :: l=>match o.guard with
  | none=>none
  | some (t,want)=>bifK (inA t want A) none
   (match (o :: l).drop (grpLen N t want P [] (o :: l)) with
   | ⟨d,.pick (.tmp u) a b,none⟩ :: rest=>bifK (Nat.beq u t && Nat.blt t N && notIn P t && Nat.blt 0 (grpLen N t want P [] (o :: l))) (some (t,want,grpLen N t want P [] (o :: l),d,a,b,rest)) none
   | ⟨d,.pick (.tmp u) a b,some (gt,gw)⟩ :: rest=>bifK (inA gt gw A && Nat.beq u t && Nat.blt t N && notIn P t && Nat.blt 0 (grpLen N t want P [] (o :: l))) (some (t,want,grpLen N t want P [] (o :: l),d,a,b,rest)) none
   | _=>none)
def finP:Nat→List (Nat×Bool)→List Nat→List AOper→List Nat
 | 0,_,P,_=>P
 | _ + 1,_,P,[]=>P
 | n + 1,A,P,o :: l=>match grpAt N A P (o :: l) with
  | some (_,_,_,d,_,_,rest)=>finP n A (rmO d P) rest
  | none=>finP n A (rmO o.dst P) l
def opsK:Nat→List (Nat×Bool)→List Nat→List AOper→Cont→Cont
 | _,_,_,[],k=>k
 | 0,_,_,_ :: _,_=>fun _ _ _=>none
 | n + 1,A,P,o :: l,k=>match grpAt N A P (o :: l) with
  | some (t,want,m,d,a,b,rest)=>fun e hp ef=>grpK (e t).val want
    (opsK n ((t,want) :: A) P ((o :: l).take m) (fun e' hp' ef'=>rdK (opndK G N (finP N n ((t,want) :: A) P ((o :: l).take m)) e' (bifK want a b)) fun v=>some (v,hp',ef')) e hp ef)
    (opndK G N P e (bifK want b a)) hp ef fun v hp' ef'=>opsK n A (rmO d P) rest k (e.put d (.raw v)) hp' ef'
  | none=>fun e hp ef=>operK G N bs P K A o e hp ef (opsK n A (rmO o.dst P) l k)
def lookK (id:Nat):List (Nat×Cont)→Cont
 | []=>fun _ _ _=>none
 | (i,k) :: l=>bifK (Nat.beq i id) (k) (lookK id l)
def loopK (F:Cont→Cont):Nat→Cont
 | 0=>fun _ _ _=>none
 | n + 1=>F (loopK F n)
variable (P:List Nat)(L:Nat)
def codeK:ACode→Cont→Cont→List (Nat×Cont)→Cont
 | .skip,n,_,_=>n
 | .region false ops,n,_,_=>opsK G N bs K ops.length [] P ops n
 | .region true ops,n,_,_=>opsK G N bs (quietCall K) ops.length [] P ops n
 | .regionB ops,n,_,_=>bif stPat ops then (fun _ _ _=>none) else opsK G N bs (bareCall K) ops.length [] P ops n
 | .seq a b,n,r,xs=>codeK a (codeK b n r xs) r xs
 | .cond c a b,n,r,xs=>fun e hp ef=>rdK (opndK G N P e c) fun v=>ifK v (codeK a n r xs e hp ef) (codeK b n r xs e hp ef)
 | .block id c,n,r,xs=>codeK c n r ((id,n) :: xs)
 | .loop c,_,r,xs=>loopK (fun n'=>codeK c n' r xs) L
 | .scope c,n,r,xs=>codeK c n r xs
 | .exit id,_,_,xs=>lookK id xs
 | .ret,_,r,_=>r
 | .bad,_,_,_=>fun _ _ _=>none
end
def resK (e:Env)(N:Nat)(P:List Nat)(hp:List AObj):ARes→Option AV
 | .tmp t=>bifK ((Nat.blt t N && notIn P t)) (some (e t).val) (none)
 | .one t=>bifK ((Nat.blt t N && notIn P t)) (ldcVal hp (e t).val) (none)
 | .agg t n=>bifK ((Nat.blt t N && notIn P t)) (ldaVal hp n (e t).val) (none)
def ressK (e:Env)(N:Nat)(P:List Nat)(hp:List AObj):List ARes→(List AV→KR)→KR
 | [],k=>k []
 | r :: l,k=>rdK (resK e N P hp r) fun v=>ressK e N P hp l fun vs=>k (v.nm :: vs)
def resultK (e:Env)(N:Nat)(P:List Nat)(hp:List AObj):List ARes→(AV→KR)→KR
 | [r],k=>rdK (resK e N P hp r) k
 | rs,k=>ressK e N P hp rs fun vs=>k (.tup vs)
def finK (keep:Bool)(hp0:List AObj)(v:AV)(hp:List AObj)(ef:Eff):AV×List AObj×Eff :=
 bif keep then (v.nm,hp,ef) else finish v ⟨[],hp,ef,hp0.length⟩ hp0
def retK (P:List Nat)(fn:AFn)(hp0:List AObj):Cont:=fun e hp ef=>resultK e fn.ntmps P hp fn.results fun v=>some (finK fn.keep hp0 v hp ef)
def argE:List AV→Env
 | []=>fun _=>.raw .undef
 | v :: l=>fun t=>match t with
  | 0=>.raw v
  | t + 1=>argE l t
def fnK (G:Nat→Option (List AV))(K:FuncId→List AV→List AObj→KR)(P:List Nat)(L:Nat)(fn:AFn)(args:List AV)(hp:List AObj):KR :=
 codeK G fn.ntmps hp.length K P L fn.code (retK P fn hp) (retK P fn hp) [] (argE args) hp none
end Go.Proofs.YtcfjcimhjmpkiaaGreatDoor.Abs
end
section
namespace Go.Proofs.YtcfjcimhjmpkiaaGreatDoor.Abs
open Go
theorem optK_some {α:Type}{x:Option α}{k:α→KR}{r:AV×List AObj×Eff}(h:optK x k=some r):∃ v,x=some v∧k v=some r:=by
 cases x with
 | none=>cases h
 | some v=>exact ⟨v,rfl,h⟩
theorem opt2_some {α β:Type}{x:Option (α×β)}{k:α→β→KR}{r:AV×List AObj×Eff}(h:opt2 x k=some r):∃ a b,x=some (a,b)∧k a b=some r:=by
 cases x with
 | none=>cases h
 | some v=>exact ⟨v.1,v.2,rfl,h⟩
theorem opt3_some {α β γ:Type}{x:Option (α×β×γ)}{k:α→β→γ→KR}{r:AV×List AObj×Eff}(h:opt3 x k=some r):∃ a b c,x=some (a,b,c)∧k a b c=some r:=by
 cases x with
 | none=>cases h
 | some v=>exact ⟨v.1,v.2.1,v.2.2,rfl,h⟩
theorem bifK_true {α:Type}(x y:α):bifK true x y=x:=rfl
theorem bifK_false {α:Type}(x y:α):bifK false x y=y:=rfl
theorem rdK_some {α:Type}{x:Option α}{k:α→KR}{r:AV×List AObj×Eff}(h:rdK x k=some r):∃ v,x=some v∧k v=some r:=by
 cases x with
 | none=>cases h
 | some v=>exact ⟨v,rfl,h⟩
theorem bif_some {α:Type}{b:Bool}{x:Option α}{r:α}(h:bifK b x none=some r):b=true∧x=some r:=by
 cases b with
 | false=>cases h
 | true=>exact ⟨rfl,h⟩
def KvOk (v:KV):Prop:=v.val.ro=v.rd
theorem kv_raw (v:AV):KvOk (.raw v):=rfl
theorem kv_cln {v:AV}(h:v.ro=v):KvOk (.cln v):=h
theorem ro_ro' (v:AV):v.ro.ro=v.ro:=by cases v <;> rfl
theorem kv_rd {v:KV}(h:KvOk v):KvOk (.cln v.rd):=by
 show v.rd.ro=v.rd
 rw [← h,ro_ro']
theorem notIn_iff:∀ {P:List Nat} {t:Nat},notIn P t=true↔t ∉ P
 | [],t=>by simp [notIn]
 | u :: l,t=>by
  simp only [notIn,List.mem_cons,not_or]
  cases hb:Nat.beq u t with
  | true =>
   have:=Nat.eq_of_beq_eq_true hb
   subst this
   simp
  | false =>
   have:t≠u:=fun h=>by subst h; rw [Nat.beq_refl] at hb; cases hb
   simp [this,← notIn_iff]
theorem mem_rm:∀ {P:List Nat} {d t:Nat},t ∈ rm d P↔t ∈ P∧t≠d
 | [],d,t=>by simp [rm]
 | u :: l,d,t=>by
  simp only [rm]
  cases hb:Nat.beq u d with
  | true =>
   have:=Nat.eq_of_beq_eq_true hb
   subst this
   simp only [mem_rm,List.mem_cons]
   constructor
   ·rintro ⟨a,b⟩; exact ⟨.inr a,b⟩
   ·rintro ⟨a | a,b⟩
    ·exact absurd a b
    ·exact ⟨a,b⟩
  | false =>
   have:u≠d:=fun h=>by subst h; rw [Nat.beq_refl] at hb; cases hb
   simp only [List.mem_cons,mem_rm]
   constructor
   ·rintro (a | ⟨a,b⟩)
    ·subst a; exact ⟨.inl rfl,this⟩
    ·exact ⟨.inr a,b⟩
   ·rintro ⟨a | a,b⟩
    ·exact .inl a
    ·exact .inr ⟨a,b⟩
structure EnvOk (N:Nat)(P:List Nat)(e:Env)(sl:List AV):Prop where
 len:sl.length=N
 val:∀ t,t < N→t ∉ P→sl[t]? = some (e t).val
 ok:∀ t,KvOk (e t)
theorem EnvOk.mono {N:Nat}{P P':List Nat}{e:Env}{sl:List AV}(h:EnvOk N P e sl)(hp:∀ t,t ∈ P→t ∈ P'):EnvOk N P' e sl:=⟨h.len,fun t ht hn=>h.val t ht fun hm=>hn (hp t hm),h.ok⟩
theorem EnvOk.set {N:Nat}{P:List Nat}{e:Env}{sl:List AV}(h:EnvOk N P e sl)(d:Nat){v:KV}(hv:KvOk v):EnvOk N (rm d P) (e.set d v) (sl.set d v.val):=by
 refine ⟨by rw [List.length_set]; exact h.len,fun t ht hn=>?_,fun t=>?_⟩
 ·rw [List.getElem?_set]
  by_cases e1:d=t
  ·subst e1
   simp [Env.set,h.len,ht]
  ·have:Nat.beq t d=false:=by cases hb:Nat.beq t d with | false=>rfl | true=>exact absurd (Nat.eq_of_beq_eq_true hb).symm e1
   simp [e1,Env.set,this,h.val t ht fun hm=>hn (mem_rm.2 ⟨hm,fun h=>e1 h.symm⟩)]
 ·show KvOk (bifK (Nat.beq t d) v (e t))
  cases Nat.beq t d
  ·exact h.ok t
  ·exact hv
theorem EnvOk.put {N:Nat}{P:List Nat}{e:Env}{sl:List AV}(h:EnvOk N P e sl)(d:Option Nat){v:KV}(hv:KvOk v){hp:List AObj}{ef:Eff}{bs:Nat}:EnvOk N (rmO d P) (e.put d v) (AState.put ⟨sl,hp,ef,bs⟩ d v.val).sl:=by
 cases d with
 | none=>exact h
 | some d=>exact h.set d hv
theorem EnvOk.let_ {N:Nat}{P:List Nat}{e:Env}{sl:List AV}(h:EnvOk N P e sl)(t:Nat):EnvOk N P (e.set t (.cln (e t).rd)) (sl.modify t AV.ro):=by
 refine ⟨by rw [List.length_modify]; exact h.len,fun u hu hn=>?_,fun u=>?_⟩
 ·rw [List.getElem?_modify]
  by_cases e1:t=u
  ·subst e1
   simp only [if_true,h.val t hu hn,Env.set,Nat.beq_refl,KV.val]
   have:=h.ok t
   simp only [KvOk] at this
   simp only [KV.val] at this
   rw [Option.map_eq_map,Option.map_some,← this]
  ·have:Nat.beq u t=false:=by cases hb:Nat.beq u t with | false=>rfl | true=>exact absurd (Nat.eq_of_beq_eq_true hb).symm e1
   simp [e1,Env.set,this,h.val u hu hn]
 ·show KvOk (bifK (Nat.beq u t) (.cln (e t).rd) (e u))
  cases Nat.beq u t
  ·exact h.ok u
  ·exact kv_rd (h.ok t)
section
variable {G:Nat→Option (List AV)}{N:Nat}{P:List Nat}{e:Env}{sl:List AV}
theorem lt_of_blt {t N:Nat}{P:List Nat}(h:(Nat.blt t N && notIn P t)=true):t < N∧t ∉ P:=by
 rw [Bool.and_eq_true] at h
 exact ⟨Nat.le_of_ble_eq_true h.1,notIn_iff.1 h.2⟩
theorem EnvOk.get (h:EnvOk N P e sl){t:Nat}(ht:(Nat.blt t N && notIn P t)=true):sl[t]? = some (e t).val:=h.val t (lt_of_blt ht).1 (lt_of_blt ht).2
theorem EnvOk.read (h:EnvOk N P e sl){t:Nat}(ht:(Nat.blt t N && notIn P t)=true):(sl[t]?).map AV.ro=some (e t).rd:=by
 rw [h.get ht,Option.map_some,h.ok t]
theorem EnvOk.opnd (h:EnvOk N P e sl){x:Opnd}{v:AV}(hx:opndK G N P e x=some v):Abs.opnd G sl x=some v:=by
 cases x with
 | tmp t =>
  obtain ⟨h1,h2⟩:=bif_some (show bifK (Nat.blt t N && notIn P t) (some (e t).rd) none=some v from hx)
  cases h2
  exact h.read h1
 | const v=>exact hx
 | glob g=>exact hx
theorem EnvOk.opnds (h:EnvOk N P e sl):∀ {xs:List Opnd} {vs:List AV},opndsK G N P e xs=some vs→Abs.opnds G sl xs=some vs
 | [],vs,hx=>hx
 | x :: l,vs,hx=>by
  simp only [opndsK] at hx
  split at hx
  ·rename_i v hv
   split at hx
   ·rename_i us hus
    cases hx
    simp only [Abs.opnds,h.opnd hv,h.opnds hus,Option.map_some]
   ·cases hx
  ·cases hx
theorem EnvOk.optOpnd (h:EnvOk N P e sl){x:Option Opnd}{v:Option AV}(hx:optOpndK G N P e x=some v):Abs.optOpnd G sl x=some v:=by
 cases x with
 | none=>exact hx
 | some x =>
  simp only [optOpndK] at hx
  split at hx
  ·rename_i u hu
   cases hx
   simp only [Abs.optOpnd,h.opnd hu,Option.map_some]
  ·cases hx
theorem EnvOk.mvK (h:EnvOk N P e sl){x:Opnd}{k:KV→KR}{r:AV×List AObj×Eff}(hx:mvK G N P e x k=some r):∃ v,Abs.opnd G sl x=some v.val∧KvOk v∧k v=some r:=by
 cases x with
 | tmp t =>
  obtain ⟨h1,h2⟩:=bif_some (show bifK (Nat.blt t N && notIn P t) (k (KV.cln (e t).rd)) none=some r from hx)
  exact ⟨KV.cln (e t).rd,h.read h1,kv_rd (h.ok t),h2⟩
 | const v=>exact ⟨_,rfl,kv_raw v,hx⟩
 | glob g =>
  obtain ⟨c,h1,h2⟩:=optK_some (show optK (G g) (fun c=>k (.cln (.ref c)))=some r from hx)
  exact ⟨KV.cln (.ref c),by simp only [Abs.opnd,h1,Option.map_some]; rfl,rfl,h2⟩
theorem EnvOk.args:∀ {as:List (Nat ⊕ Opnd)} {e e':Env} {sl:List AV} {vs:List AV},EnvOk N P e sl→argsK G N P e as=some (vs,e')→∃ sl',argVals G sl as=some (vs,sl')∧EnvOk N P e' sl'
 | [],e,e',sl,vs,h,ha=>by
  cases ha
  exact ⟨sl,rfl,h⟩
 | .inl t :: l,e,e',sl,vs,h,ha=>by
  simp only [argsK] at ha
  obtain ⟨h1,h2⟩:=bif_some ha
  split at h2
  ·rename_i us e1 hus
   cases h2
   obtain ⟨sl',a1,a2⟩:=EnvOk.args (h.let_ t) hus
   refine ⟨sl',?_,a2⟩
   simp only [argVals,h.get h1,a1,Option.map_some]
  ·cases h2
 | .inr x :: l,e,e',sl,vs,h,ha=>by
  simp only [argsK] at ha
  split at ha
  ·rename_i v hv
   split at ha
   ·rename_i us e1 hus
    cases ha
    obtain ⟨sl',a1,a2⟩:=EnvOk.args h hus
    refine ⟨sl',?_,a2⟩
    simp only [argVals,h.opnd hv,a1,Option.map_some]
   ·cases ha
  ·cases ha
end
theorem ro_strOp {op:BinOp}{x y:List UInt8}{v:AV}(h:strOp op x y=some v):v.ro=v:=by
 cases op <;> simp only [strOp] at h <;> first | (cases h; done) | (cases h; rfl) | (split at h <;> cases h; rfl)
theorem ro_intBin {op:BinOp}{k:IntKind}{x y:Int}{v:AV}(h:intBin op k x y=some v):v.ro=v:=by
 cases op <;> simp only [intBin] at h <;> first | (cases h; done) | (cases h; rfl) | (split at h <;> cases h; rfl)
theorem ro_shiftVal {op:BinOp}{k:IntKind}{x y:Int}{v:AV}(h:shiftVal op k x y=some v):v.ro=v:=by
 simp only [shiftVal] at h
 split at h
 ·cases h
 ·cases op <;> simp only at h <;> first | (cases h; done) | (cases h; rfl)
theorem ro_binVal {op:BinOp}{sh:EqSh}{x y v:AV}(h:binVal op sh x y=some v):v.ro=v:=by
 unfold binVal at h
 split at h
 ·split at h
  ·split at h
   ·exact ro_shiftVal h
   ·split at h
    ·exact ro_intBin h
    ·cases h
  ·exact ro_strOp h
  ·cases h
 ·split at h
  ·obtain ⟨b,_,rfl⟩:=Option.map_eq_some_iff.1 h; rfl
  ·obtain ⟨b,_,rfl⟩:=Option.map_eq_some_iff.1 h; rfl
  ·cases h
theorem ro_unVal {op:UnOp}{x v:AV}(h:unVal op x=some v):v.ro=v:=by
 unfold unVal at h
 split at h <;> cases h <;> rfl
theorem ro_convVal {hp:List AObj}{c:Conv}{x v:AV}(h:convVal hp c x=some v):v.ro=v:=by
 unfold convVal at h
 split at h
 ·cases h; rfl
 ·cases h; rfl
 ·cases h; rfl
 ·split at h
  ·obtain ⟨b,_,rfl⟩:=Option.map_eq_some_iff.1 h; rfl
  ·cases h
 ·cases h
theorem ro_ldc {hp:List AObj}{x v:AV}(h:ldcVal hp x=some v):v.ro=v:=by
 unfold ldcVal at h
 split at h
 ·cases h; exact ro_ro' _
 ·split at h
  ·obtain ⟨b,_,rfl⟩:=Option.map_eq_some_iff.1 h; exact ro_ro' _
  ·split at h <;> first | (cases h; done) | skip
   obtain ⟨b,_,rfl⟩:=Option.map_eq_some_iff.1 h; exact ro_ro' _
  ·cases h
 ·cases h
theorem ro_lda {hp:List AObj}{n:Nat}{x v:AV}(h:ldaVal hp n x=some v):v.ro=v:=by
 unfold ldaVal at h
 split at h
 ·split at h <;> cases h; rfl
 ·split at h
  ·split at h <;> cases h; rfl
  ·cases h
 ·cases h
theorem ro_nilchk {x v:AV}(h:nilchkV x=some v):v.ro=v:=by
 unfold nilchkV at h
 split at h <;> cases h <;> rfl
theorem ro_slice3 {sh:Shape}{x v hi mx:AV}(h:slice3Val sh x hi mx=some v):v.ro=v:=by
 unfold slice3Val at h
 split at h <;> first | (cases h; done) | skip
 ·split at h <;> cases h; rfl
 ·split at h <;> cases h; split <;> rfl
 ·split at h <;> cases h; split <;> rfl
theorem ro_slice {sh:Shape}{x v:AV}{lo hi:Option AV}(h:sliceVal sh x lo hi=some v):v.ro=v:=by
 unfold sliceVal at h
 split at h
 ·split at h
  ·split at h <;> cases h; rfl
  ·cases h
 ·split at h
  ·split at h
   ·split at h <;> cases h; rfl
   ·cases h
  ·cases h
 ·split at h
  ·split at h
   ·split at h
    ·split at h <;> cases h <;> rfl
    ·cases h
   ·cases h
  ·cases h
 ·split at h
  ·split at h
   ·split at h <;> cases h <;> rfl
   ·cases h
  ·cases h
 ·cases h
theorem ro_fa {off:Nat}{x v:AV}(h:faVal off x=some v):v.ro=v:=by
 unfold faVal at h
 split at h <;> cases h <;> rfl
theorem ro_fld {off n:Nat}{a:Bool}{x v:AV}(h:fldVal off n a x=some v):v.ro=v:=by
 unfold fldVal at h
 split at h
 ·split at h
  ·split at h
   ·cases h; rfl
   ·obtain ⟨b,_,rfl⟩:=Option.map_eq_some_iff.1 h; exact ro_ro' _
  ·cases h
 ·cases h
theorem ro_ia {sh:Shape}{x i v:AV}(h:iaVal sh x i=some v):v.ro=v:=by
 unfold iaVal at h
 split at h
 ·split at h
  ·obtain ⟨b,_,rfl⟩:=Option.map_eq_some_iff.1 h; rfl
  ·cases h
 all_goals first | (cases h; done) | (split at h <;> cases h; rfl)
theorem ro_idx {x i v:AV}(h:idxVal x i=some v):v.ro=v:=by
 unfold idxVal at h
 split at h
 ·split at h
  ·obtain ⟨b,_,rfl⟩:=Option.map_eq_some_iff.1 h; rfl
  ·cases h
 ·cases h
theorem ro_extract {x:AV}{i:Nat}{v:AV}(h:extractV x i=some v):v.ro=v:=by
 unfold extractV at h
 split at h
 ·obtain ⟨b,_,rfl⟩:=Option.map_eq_some_iff.1 h; exact ro_ro' _
 ·cases h
theorem ro_len {hp:List AObj}{sh:LenSh}{x v:AV}(h:lenVal hp sh x=some v):v.ro=v:=by
 unfold lenVal at h
 split at h
 ·cases h; rfl
 ·cases h; rfl
 ·cases h; rfl
 ·cases h; rfl
 ·split at h <;> cases h; rfl
 ·cases h
theorem ro_min {xs:List AV}{v:AV}(h:minV xs=some v):v.ro=v:=by
 unfold minV at h
 split at h
 ·obtain ⟨b,_,rfl⟩:=Option.map_eq_some_iff.1 h; rfl
 ·cases h
theorem ro_max {xs:List AV}{v:AV}(h:maxV xs=some v):v.ro=v:=by
 unfold maxV at h
 split at h
 ·obtain ⟨b,_,rfl⟩:=Option.map_eq_some_iff.1 h; rfl
 ·cases h
end Go.Proofs.YtcfjcimhjmpkiaaGreatDoor.Abs
end
section
namespace Go.Proofs.YtcfjcimhjmpkiaaGreatDoor.Abs
open Go
section
variable {G:Nat→Option (List AV)}{N bs:Nat}{P:List Nat}{K:FuncId→List AV→List AObj→KR}
def OpGoes (G:Nat→Option (List AV))(N bs:Nat)(P:List Nat)(K:FuncId→List AV→List AObj→KR)(sl:List AV)(hp:List AObj)(ef:Eff)(op:AOp)(k:KV→Env→List AObj→Eff→KR)(r:AV×List AObj×Eff):Prop :=
 ∃ (v:KV) (e':Env) (sl':List AV) (hp':List AObj) (ef':Eff),evalOp G K ⟨sl,hp,ef,bs⟩ op=some (v.val,⟨sl',hp',ef',bs⟩)∧EnvOk N P e' sl'∧KvOk v∧k v e' hp' ef'=some r
theorem note_eq (sl:List AV)(hp:List AObj)(ef:Eff)(bs g v:Nat):AState.note ⟨sl,hp,ef,bs⟩ g v=noteK bs ef g v:=rfl
theorem after_eq (sl:List AV)(hp:List AObj)(ef:Eff)(bs:Nat)(e:Eff):AState.after ⟨sl,hp,ef,bs⟩ e=afterK bs ef e:=by
 cases e with
 | none=>rfl
 | some p=>rfl
theorem opK_ok {e:Env}{sl:List AV}(he:EnvOk N P e sl){hp:List AObj}{ef:Eff}{op:AOp}{k:KV→Env→List AObj→Eff→KR}{r:AV×List AObj×Eff}(h:opK G N bs P K e hp ef op k=some r):OpGoes G N bs P K sl hp ef op k r:=by
 cases op <;> simp only [opK] at h
 case bad=>cases h
 case slicez=>cases h
 case appz=>cases h
 case mvz=>cases h
 case mv x =>
  obtain ⟨v,a1,a2,h2⟩:=he.mvK h
  exact ⟨v,e,sl,hp,ef,by simp only [evalOp,a1,Option.map_some],he,a2,h2⟩
 case take t =>
  obtain ⟨h1,h2⟩:=bif_some h
  refine ⟨e t,_,sl.modify t AV.ro,hp,ef,?_,he.let_ t,he.ok t,h2⟩
  simp only [evalOp,he.get h1,AState.let_]
 case pick c a b =>
  obtain ⟨c',h1,h⟩:=rdK_some h
  obtain ⟨a',h2,h⟩:=rdK_some h
  obtain ⟨b',h3,h⟩:=rdK_some h
  obtain ⟨v,h4,h⟩:=optK_some h
  refine ⟨_,e,sl,hp,ef,?_,he,kv_raw _,h⟩
  unfold pickV at h4
  split at h4 <;> cases h4
  ·simp only [evalOp,he.opnd h1,he.opnd h2,Option.map_some,KV.val]
  ·simp only [evalOp,he.opnd h1,he.opnd h3,Option.map_some,KV.val]
 case mk t cells=>exact ⟨_,e,sl,_,ef,rfl,he,(by rfl),h⟩
 case box t n x =>
  obtain ⟨v,h1,h⟩:=rdK_some h
  obtain ⟨cs,h2,h⟩:=optK_some h
  unfold boxV at h2
  split at h2 <;> cases h2
  rename_i hc
  refine ⟨_,e,sl,_,ef,?_,he,(by rfl),h⟩
  simp only [evalOp,he.opnd h1,hc,and_self,if_true,KV.val]
 case build zero parts =>
  obtain ⟨vs,h1,h⟩:=rdK_some h
  obtain ⟨cs,h2,h⟩:=optK_some h
  refine ⟨_,e,sl,hp,ef,?_,he,(by rfl),h⟩
  simp only [evalOp,he.opnds h1,h2,Option.map_some,KV.val]
 case lit t n parts =>
  obtain ⟨vs,h1,h⟩:=rdK_some h
  obtain ⟨v,hp',h2,h⟩:=opt2_some h
  refine ⟨_,e,sl,hp',ef,?_,he,kv_raw _,h⟩
  unfold litV at h2
  split at h2
  ·rename_i hc
   cases h2
   simp only [evalOp,he.opnds h1,hc,if_true,KV.val]
  ·rename_i hc
   split at h2
   ·rename_i hc'
    cases h2
    simp only [evalOp,he.opnds h1,hc,hc',if_true,KV.val]
    rfl
   ·cases h2
 case lita t n parts =>
  obtain ⟨vs,h1,h⟩:=rdK_some h
  obtain ⟨v,hp',h2,h⟩:=opt2_some h
  refine ⟨_,e,sl,hp',ef,?_,he,kv_raw _,h⟩
  unfold litaV at h2
  split at h2
  ·rename_i hc
   cases h2
   simp only [evalOp,he.opnds h1,hc,if_true,KV.val]
  ·cases h2
 case ldc p =>
  obtain ⟨v,h1,h⟩:=rdK_some h
  obtain ⟨u,h2,h⟩:=optK_some h
  exact ⟨_,e,sl,hp,ef,by simp only [evalOp,he.opnd h1,h2,Option.map_some,KV.val],he,kv_cln (ro_ldc h2),h⟩
 case lda n p =>
  obtain ⟨v,h1,h⟩:=rdK_some h
  obtain ⟨u,h2,h⟩:=optK_some h
  exact ⟨_,e,sl,hp,ef,by simp only [evalOp,he.opnd h1,h2,Option.map_some,KV.val],he,kv_cln (ro_lda h2),h⟩
 case ldt p =>
  obtain ⟨v,h1,h⟩:=rdK_some h
  obtain ⟨u,hp',ef',h2,h⟩:=opt3_some h
  refine ⟨_,e,sl,hp',ef',?_,he,kv_raw _,h⟩
  unfold ldtV at h2
  split at h2
  ·split at h2
   ·rename_i hg
    split at h2
    ·rename_i hc
     cases h2
     simp only [evalOp,he.opnd h1,hg,hc,note_eq,KV.val]
    ·cases h2
   ·cases h2
  ·cases h2
 case st n p x =>
  obtain ⟨v,h1,h⟩:=rdK_some h
  obtain ⟨u,h2,h⟩:=rdK_some h
  obtain ⟨hp',ef',h3,h⟩:=opt2_some h
  refine ⟨_,e,sl,hp',ef',?_,he,(by rfl),h⟩
  unfold stV at h3
  split at h3
  ·split at h3
   ·rename_i hg
    split at h3
    ·rename_i hc
     cases h3
     simp only [evalOp,he.opnd h1,he.opnd h2,hg,hc,note_eq,KV.val,and_self,if_true]
    ·cases h3
   ·cases h3
  ·cases h3
 case stt p t =>
  obtain ⟨v,h1,h⟩:=rdK_some h
  obtain ⟨h2,h⟩:=bif_some h
  obtain ⟨hp',ef',h3,h⟩:=opt2_some h
  refine ⟨_,_,sl.modify t AV.ro,hp',ef',?_,he.let_ t,(by rfl),h⟩
  unfold sttV at h3
  split at h3
  ·split at h3
   ·rename_i hg
    split at h3
    ·rename_i hc
     cases h3
     simp only [evalOp,he.opnd h1,he.get h2,hg,note_eq,AState.let_]
     rw [if_pos hc]
     rfl
    ·cases h3
   ·cases h3
  ·cases h3
 case nilchk x =>
  obtain ⟨v,h1,h⟩:=rdK_some h
  obtain ⟨u,h2,h⟩:=optK_some h
  refine ⟨_,e,sl,hp,ef,?_,he,kv_cln (ro_nilchk h2),h⟩
  unfold nilchkV at h2
  split at h2 <;> cases h2 <;> simp only [evalOp,he.opnd h1,KV.val]
 case bin op sh x y =>
  obtain ⟨v,h1,h⟩:=rdK_some h
  obtain ⟨u,h2,h⟩:=rdK_some h
  obtain ⟨w,h3,h⟩:=optK_some h
  exact ⟨_,e,sl,hp,ef,by simp only [evalOp,he.opnd h1,he.opnd h2,h3,Option.map_some,KV.val],he,kv_cln (ro_binVal h3),h⟩
 case un op x =>
  obtain ⟨v,h1,h⟩:=rdK_some h
  obtain ⟨u,h2,h⟩:=optK_some h
  exact ⟨_,e,sl,hp,ef,by simp only [evalOp,he.opnd h1,h2,Option.map_some,KV.val],he,kv_cln (ro_unVal h2),h⟩
 case conv c x =>
  obtain ⟨v,h1,h⟩:=rdK_some h
  obtain ⟨u,h2,h⟩:=optK_some h
  exact ⟨_,e,sl,hp,ef,by simp only [evalOp,he.opnd h1,h2,Option.map_some,KV.val],he,kv_cln (ro_convVal h2),h⟩
 case mkfn f first caps =>
  obtain ⟨v,h1,h⟩:=rdK_some h
  obtain ⟨u,h2,h⟩:=rdK_some h
  exact ⟨_,e,sl,hp,ef,by simp only [evalOp,he.opnds h1,he.opnds h2,KV.val],he,(by rfl),h⟩
 case mkmap=>exact ⟨_,e,sl,_,ef,rfl,he,(by rfl),h⟩
 case mksl t zero n =>
  obtain ⟨v,h1,h⟩:=rdK_some h
  obtain ⟨u,hp',h2,h⟩:=opt2_some h
  unfold mkslV at h2
  split at h2
  ·split at h2
   ·rename_i hc
    cases h2
    exact ⟨_,e,sl,_,ef,by simp only [evalOp,he.opnd h1,hc,and_self,if_true,KV.val],he,(by rfl),h⟩
   ·cases h2
  ·cases h2
 case slice sh x lo hi =>
  obtain ⟨v,h1,h⟩:=rdK_some h
  obtain ⟨u1,h2,h⟩:=rdK_some h
  obtain ⟨u2,h3,h⟩:=rdK_some h
  obtain ⟨u,h4,h⟩:=optK_some h
  exact ⟨_,e,sl,hp,ef,by simp only [evalOp,he.opnd h1,he.optOpnd h2,he.optOpnd h3,h4,Option.map_some,KV.val],he,kv_cln (ro_slice h4),h⟩
 case slice3 sh x hi mx =>
  obtain ⟨v,h1,h⟩:=rdK_some h
  obtain ⟨u1,h2,h⟩:=rdK_some h
  obtain ⟨u2,h3,h⟩:=rdK_some h
  obtain ⟨u,h4,h⟩:=optK_some h
  exact ⟨_,e,sl,hp,ef,by simp only [evalOp,he.opnd h1,he.opnd h2,he.opnd h3,h4,Option.map_some,KV.val],he,kv_cln (ro_slice3 h4),h⟩
 case fa off x =>
  obtain ⟨v,h1,h⟩:=rdK_some h
  obtain ⟨u,h2,h⟩:=optK_some h
  exact ⟨_,e,sl,hp,ef,by simp only [evalOp,he.opnd h1,h2,Option.map_some,KV.val],he,kv_cln (ro_fa h2),h⟩
 case fld off n agg x =>
  obtain ⟨v,h1,h⟩:=rdK_some h
  obtain ⟨u,h2,h⟩:=optK_some h
  exact ⟨_,e,sl,hp,ef,by simp only [evalOp,he.opnd h1,h2,Option.map_some,KV.val],he,kv_cln (ro_fld h2),h⟩
 case ia sh x i =>
  obtain ⟨v,h1,h⟩:=rdK_some h
  obtain ⟨u,h2,h⟩:=rdK_some h
  obtain ⟨w,h3,h⟩:=optK_some h
  exact ⟨_,e,sl,hp,ef,by simp only [evalOp,he.opnd h1,he.opnd h2,h3,Option.map_some,KV.val],he,kv_cln (ro_ia h3),h⟩
 case idx x i =>
  obtain ⟨v,h1,h⟩:=rdK_some h
  obtain ⟨u,h2,h⟩:=rdK_some h
  obtain ⟨w,h3,h⟩:=optK_some h
  exact ⟨_,e,sl,hp,ef,by simp only [evalOp,he.opnd h1,he.opnd h2,h3,Option.map_some,KV.val],he,kv_cln (ro_idx h3),h⟩
 case look sh zero x i ok =>
  obtain ⟨v,h1,h⟩:=rdK_some h
  obtain ⟨u,h2,h⟩:=rdK_some h
  obtain ⟨w,h3,h⟩:=optK_some h
  exact ⟨_,e,sl,hp,ef,by simp only [evalOp,he.opnd h1,he.opnd h2,h3,Option.map_some,KV.val],he,kv_raw _,h⟩
 case mupd sh m i x =>
  obtain ⟨v,h1,h⟩:=rdK_some h
  obtain ⟨u,h2,h⟩:=rdK_some h
  obtain ⟨w,h3,h⟩:=rdK_some h
  obtain ⟨hp',ef',h4,h⟩:=opt2_some h
  refine ⟨_,e,sl,hp',ef',?_,he,(by rfl),h⟩
  unfold mupdV at h4
  split at h4
  ·split at h4
   ·rename_i hg
    split at h4
    ·rename_i hc
     split at h4
     ·rename_i hu
      cases h4
      simp only [evalOp,he.opnd h1,he.opnd h2,he.opnd h3,hg,hc,hu,note_eq,KV.val,if_true]
     ·cases h4
    ·cases h4
   ·cases h4
  ·cases h4
 case range x =>
  obtain ⟨v,h1,h⟩:=rdK_some h
  obtain ⟨u,hp',h2,h⟩:=opt2_some h
  unfold rangeV at h2
  split at h2 <;> cases h2
  exact ⟨_,e,sl,_,ef,by simp only [evalOp,he.opnd h1,KV.val],he,(by rfl),h⟩
 case next x =>
  obtain ⟨v,h1,h⟩:=rdK_some h
  obtain ⟨u,hp',ef',h2,h⟩:=opt3_some h
  unfold nextV at h2
  split at h2
  ·split at h2
   ·rename_i hg
    split at h2
    ·rename_i hc
     cases h2
     exact ⟨_,e,sl,_,_,by simp only [evalOp,he.opnd h1,hg,hc,if_true,note_eq,KV.val],he,(by rfl),h⟩
    ·rename_i hc
     cases h2
     exact ⟨_,e,sl,_,_,by simp only [evalOp,he.opnd h1,hg,hc,if_false,KV.val],he,(by rfl),h⟩
   ·cases h2
  ·cases h2
 case extract x i =>
  obtain ⟨v,h1,h⟩:=rdK_some h
  obtain ⟨u,h2,h⟩:=optK_some h
  refine ⟨_,e,sl,hp,ef,?_,he,kv_cln (ro_extract h2),h⟩
  unfold extractV at h2
  split at h2
  ·rename_i vs
   obtain ⟨b,hb,rfl⟩:=Option.map_eq_some_iff.1 h2
   simp only [evalOp,he.opnd h1,hb,Option.map_some,KV.val]
  ·cases h2
 case len sh x =>
  obtain ⟨v,h1,h⟩:=rdK_some h
  obtain ⟨u,h2,h⟩:=optK_some h
  exact ⟨_,e,sl,hp,ef,by simp only [evalOp,he.opnd h1,h2,Option.map_some,KV.val],he,kv_cln (ro_len h2),h⟩
 case app n bytes t x =>
  obtain ⟨h1,h⟩:=bif_some h
  obtain ⟨v,h2,h⟩:=rdK_some h
  obtain ⟨u,h3,h⟩:=optK_some h
  refine ⟨_,_,sl.modify t AV.ro,hp,ef,?_,he.let_ t,kv_raw _,h⟩
  have hv:=he.get h1
  unfold appV at h3
  split at h3
  ·rename_i k' r0 hs
   split at h3
   ·rename_i k'' r' hr
    split at h3
    ·rename_i hc
     cases h3
     rw [hs] at hv
     simp only [evalOp,hv,he.opnd h2,hr,KV.val,AState.let_]
     rw [if_pos hc]
    ·cases h3
   ·cases h3
  ·cases h3
 case apps bytes t x =>
  obtain ⟨h1,h⟩:=bif_some h
  obtain ⟨v,h2,h⟩:=rdK_some h
  obtain ⟨u,h3,h⟩:=optK_some h
  refine ⟨_,_,sl.modify t AV.ro,hp,ef,?_,he.let_ t,kv_raw _,h⟩
  have hv:=he.get h1
  unfold appsV at h3
  split at h3
  ·rename_i k' r0 l hs
   split at h3
   ·rename_i hc
    cases h3
    rw [hs] at hv
    simp only [evalOp,hv,he.opnd h2,KV.val,AState.let_]
    rw [if_pos hc]
   ·cases h3
  ·cases h3
 case appn n bytes x =>
  obtain ⟨v,h2,h⟩:=rdK_some h
  obtain ⟨u,h3,h⟩:=optK_some h
  refine ⟨_,_,sl,hp,ef,?_,he,kv_raw _,h⟩
  unfold appnV at h3
  split at h3
  ·rename_i k'' r' hr
   split at h3
   ·rename_i hc
    cases h3
    simp only [evalOp,he.opnd h2,hr,KV.val]
    rw [if_pos hc]
   ·cases h3
  ·cases h3
 case copy n d x =>
  obtain ⟨v,h1,h⟩:=rdK_some h
  obtain ⟨u,h2,h⟩:=rdK_some h
  obtain ⟨w,hp',ef',h3,h⟩:=opt3_some h
  refine ⟨_,e,sl,hp',ef',?_,he,?_,h⟩
  ·unfold copyV at h3
   split at h3
   ·split at h3
    ·rename_i hr hg
     split at h3
     ·rename_i hc
      cases h3
      simp only [evalOp,he.opnd h1,he.opnd h2,hr,hg,note_eq,KV.val]
      rw [if_pos hc]
     ·cases h3
    ·cases h3
   ·split at h3
    ·rename_i hr
     split at h3
     ·rename_i hc
      cases h3
      simp only [evalOp,he.opnd h1,he.opnd h2,hr,KV.val]
      rw [if_pos hc]
     ·cases h3
    ·cases h3
   ·cases h3
  ·unfold copyV at h3
   split at h3
   ·split at h3
    ·split at h3 <;> cases h3; rfl
    ·cases h3
   ·split at h3
    ·split at h3 <;> cases h3; rfl
    ·cases h3
   ·cases h3
 case min xs =>
  obtain ⟨v,h1,h⟩:=rdK_some h
  obtain ⟨u,h2,h⟩:=optK_some h
  refine ⟨_,e,sl,hp,ef,?_,he,kv_cln (ro_min h2),h⟩
  unfold minV at h2
  split at h2
  ·obtain ⟨b,hb,rfl⟩:=Option.map_eq_some_iff.1 h2
   simp only [evalOp,he.opnds h1,hb,Option.map_some,KV.val]
  ·cases h2
 case max xs =>
  obtain ⟨v,h1,h⟩:=rdK_some h
  obtain ⟨u,h2,h⟩:=optK_some h
  refine ⟨_,e,sl,hp,ef,?_,he,kv_cln (ro_max h2),h⟩
  unfold maxV at h2
  split at h2
  ·obtain ⟨b,hb,rfl⟩:=Option.map_eq_some_iff.1 h2
   simp only [evalOp,he.opnds h1,hb,Option.map_some,KV.val]
  ·cases h2
 case call f args =>
  obtain ⟨fv,h1,h⟩:=rdK_some h
  obtain ⟨⟨vs,e'⟩,h2,h⟩:=rdK_some h
  obtain ⟨v,hp',ef',h3,h4⟩:=opt3_some h
  obtain ⟨sl',a1,a2⟩:=he.args h2
  clear h
  unfold callV at h3
  split at h3
  ·refine ⟨_,e',sl',hp',_,?_,a2,kv_raw _,h4⟩
   simp only [evalOp,he.opnd h1,a1,h3,after_eq,KV.val]
  ·cases h3
theorem guardB_eq {want:Bool}{v:AV}{sl:List AV}{t:Nat}{s:AState}(hs:s.sl=sl)(h:sl[t]? = some v):wantedA s (some (t,want))=guardB want v:=by
 simp only [wantedA,hs,h]
 cases v <;> rfl
def OperGoes (N bs:Nat)(P:List Nat)(x:Option AState)(k:Cont)(r:AV×List AObj×Eff):Prop :=
 ∃ (e':Env) (sl':List AV) (hp':List AObj) (ef':Eff),x=some ⟨sl',hp',ef',bs⟩∧EnvOk N P e' sl'∧k e' hp' ef'=some r
theorem put_eq (sl:List AV)(hp:List AObj)(ef:Eff)(bs:Nat)(d:Option Nat)(v:AV):AState.put ⟨sl,hp,ef,bs⟩ d v=⟨(AState.put ⟨sl,hp,ef,bs⟩ d v).sl,hp,ef,bs⟩:=by cases d <;> rfl
theorem quiet_env {e:Env}{hp:List AObj}{ef:Eff}{op:AOp}(hq:takesFrom op=false){k:KV→Env→List AObj→Eff→KR} :
  opK G N bs P K e hp ef op k=opK G N bs P K e hp ef op fun v _ hp' ef'=>k v e hp' ef':=by
 cases op <;> first | rfl | (cases hq; done) | skip
 case call f args =>
  have:∀ (as:List (Nat ⊕ Opnd)) (e:Env) (vs:List AV) (e':Env),(as.any fun | .inl _=>true | .inr _=>false)=false→argsK G N P e as=some (vs,e')→e'=e:=by
   intro as
   induction as with
   | nil=>intro e vs e' _ h; cases h; rfl
   | cons a l ih =>
    intro e vs e' hn h
    cases a with
    | inl t=>simp at hn
    | inr x =>
     simp only [argsK] at h
     split at h
     ·split at h
      ·rename_i us e1 hus
       cases h
       exact ih e us e' (by simpa using hn) hus
      ·cases h
     ·cases h
  simp only [opK]
  congr 1
  funext f
  cases ha:argsK G N P e args with
  | none=>rfl
  | some p =>
   obtain ⟨vs,e'⟩:=p
   cases this args e vs e' hq ha
   rfl
theorem argVals_sl:∀ {as:List (Nat ⊕ Opnd)} {sl sl':List AV} {vs:List AV},(as.any fun | .inl _=>true | .inr _=>false)=false→argVals G sl as=some (vs,sl')→sl'=sl
 | [],sl,sl',vs,_,h=>by cases h; rfl
 | .inl t :: l,sl,sl',vs,hn,h=>by simp at hn
 | .inr x :: l,sl,sl',vs,hn,h=>by
  simp only [argVals] at h
  split at h
  ·obtain ⟨p,hp,e⟩:=Option.map_eq_some_iff.1 h
   cases e
   exact argVals_sl (by simpa using hn) hp
  ·cases h
theorem map_sl {α:Type}{s s':AState}{x:Option α}{f:α→AV}{v:AV}(h:x.map (fun a=>(f a,s))=some (v,s')):s'.sl=s.sl:=by
 obtain ⟨w,_,e⟩:=Option.map_eq_some_iff.1 h
 exact (congrArg (fun p=>p.2.sl) e).symm
theorem some_sl {s s':AState}{v w:AV}(h:some (w,s)=some (v,s')):s'.sl=s.sl:=(congrArg (fun p=>p.2.sl) (Option.some.inj h)).symm
theorem some_sl' {s s' s1:AState}{v w:AV}(h:some (w,s1)=some (v,s'))(h1:s1.sl=s.sl):s'.sl=s.sl:=by
 rw [← h1]; exact (congrArg (fun p=>p.2.sl) (Option.some.inj h)).symm
theorem none_sl {s s':AState}{v:AV}(h:(none:Option (AV×AState))=some (v,s')):s'.sl=s.sl:=nomatch h
theorem evalOp_sl {call:FuncId→List AV→List AObj→KR}{s s':AState}{op:AOp}{v:AV}(hq:takesFrom op=false)(h:evalOp G call s op=some (v,s')):s'.sl=s.sl:=by
 cases op
 case take t=>cases hq
 case stt p t=>cases hq
 case app k b t x=>cases hq
 case apps b t x=>cases hq
 case mvz t=>cases hq
 case call f args =>
  simp only [evalOp] at h
  split at h
  ·rename_i hf ha
   split at h
   ·have:=some_sl h
    rw [this]
    exact argVals_sl hq ha
   ·exact absurd h (by simp)
  ·exact absurd h (by simp)
 all_goals
  simp only [evalOp] at h
  repeat'
   first
   | exact map_sl h
   | exact none_sl h
   | exact some_sl' h rfl
   | split at h
theorem opt3_optK {α:Type}(x:Option α)(f:α→KR)(k:AV→List AObj→Eff→KR):opt3 (optK x f) k=optK x fun a=>opt3 (f a) k:=by cases x <;> rfl
theorem opt3_rdK {α:Type}(x:Option α)(f:α→KR)(k:AV→List AObj→Eff→KR):opt3 (rdK x f) k=rdK x fun a=>opt3 (f a) k:=by cases x <;> rfl
theorem opt3_opt2 {α β:Type}(x:Option (α×β))(f:α→β→KR)(k:AV→List AObj→Eff→KR):opt3 (opt2 x f) k=opt2 x fun a b=>opt3 (f a b) k:=by cases x <;> rfl
theorem opt3_opt3 {α β γ:Type}(x:Option (α×β×γ))(f:α→β→γ→KR)(k:AV→List AObj→Eff→KR):opt3 (opt3 x f) k=opt3 x fun a b c=>opt3 (f a b c) k:=by cases x <;> rfl
theorem opt3_bif (b:Bool)(x y:KR)(k:AV→List AObj→Eff→KR):opt3 (bifK b x y) k=bifK b (opt3 x k) (opt3 y k):=by cases b <;> rfl
theorem opt3_someK (v:AV)(hp:List AObj)(ef:Eff)(k:AV→List AObj→Eff→KR):opt3 (some (v,hp,ef)) k=k v hp ef:=rfl
theorem opt3_noneK (k:AV→List AObj→Eff→KR):opt3 none k=none:=rfl
theorem opK_split {e:Env}{hp:List AObj}{ef:Eff}{op:AOp}{k:KV→Env→List AObj→Eff→KR} :
  opt3 (opK G N bs P K e hp ef op fun v _ hp' ef'=>some (v.val,hp',ef')) (fun v hp' ef'=>k (.raw v) e hp' ef')=opK G N bs P K e hp ef op (fun v _ hp' ef'=>k (.raw v.val) e hp' ef'):=by
 cases op
 case mv x=>cases x <;> simp only [opK,mvK,opt3_optK,opt3_bif,opt3_someK,opt3_noneK]
 all_goals simp only [opK,opt3_optK,opt3_rdK,opt3_opt2,opt3_opt3,opt3_bif,opt3_someK,opt3_noneK]
def Held (A:List (Nat×Bool))(sl:List AV):Prop:=∀ p ∈ A,sl[p.1]? = some (.bool p.2)
def Calm (A:List (Nat×Bool))(ops:List AOper):Prop:=A≠[]→∀ o ∈ ops,takesFrom o.op=false∧∀ p ∈ A,o.dst≠some p.1
theorem inA_mem:∀ {A:List (Nat×Bool)} {t:Nat} {w:Bool},inA t w A=true→(t,w) ∈ A
 | [],t,w,h=>by cases h
 | (u,v) :: l,t,w,h=>by
  simp only [inA] at h
  cases hb:(Nat.beq u t && (v == w)) with
  | true =>
   rw [Bool.and_eq_true] at hb
   have:=Nat.eq_of_beq_eq_true hb.1
   have hv:v=w:=by simpa using hb.2
   subst this; subst hv
   exact .head _
  | false=>rw [hb] at h; exact .tail _ (inA_mem h)
theorem Held.put {A:List (Nat×Bool)}{sl:List AV}(h:Held A sl){hp:List AObj}{ef:Eff}{bs:Nat}{d:Option Nat}(hd:∀ p ∈ A,d≠some p.1)(v:AV):Held A (AState.put ⟨sl,hp,ef,bs⟩ d v).sl:=by
 cases d with
 | none=>exact h
 | some d =>
  intro p hp
  show (sl.set d v)[p.1]? = _
  rw [List.getElem?_set,if_neg (fun e=>hd p hp (by rw [e]))]
  exact h p hp
theorem operK_ok {A:List (Nat×Bool)}{o:AOper}{e:Env}{sl:List AV}(he:EnvOk N P e sl)(hA:Held A sl)(hc:Calm A [o]){hp:List AObj}{ef:Eff}{k:Cont}{r:AV×List AObj×Eff}(h:operK G N bs P K A o e hp ef k=some r) :
  ∃ (e':Env) (sl':List AV) (hp':List AObj) (ef':Eff),evalOper G K o ⟨sl,hp,ef,bs⟩=some ⟨sl',hp',ef',bs⟩∧EnvOk N (rmO o.dst P) e' sl'∧Held A sl'∧k e' hp' ef'=some r:=by
 unfold operK at h
 have run:∀ {k':KV→Env→List AObj→Eff→KR} (hk:∀ v e' hp' ef',k' v e' hp' ef'=some r→∃ v',v'.val=v.val∧(KvOk v→KvOk v')∧k (e'.put o.dst v') hp' ef'=some r) (_:opK G N bs P K e hp ef o.op k'=some r) (_:wantedA ⟨sl,hp,ef,bs⟩ o.guard=some true),
   ∃ (e':Env) (sl':List AV) (hp':List AObj) (ef':Eff),evalOper G K o ⟨sl,hp,ef,bs⟩=some ⟨sl',hp',ef',bs⟩∧EnvOk N (rmO o.dst P) e' sl'∧Held A sl'∧k e' hp' ef'=some r:=by
  intro k' hk h hw
  obtain ⟨v,e',sl',hp',ef',h1,h2,h3,h4⟩:=opK_ok he h
  obtain ⟨v',a1,a2,a3⟩:=hk _ _ _ _ h4
  refine ⟨e'.put o.dst v',(AState.put ⟨sl',hp',ef',bs⟩ o.dst v'.val).sl,hp',ef',?_,h2.put o.dst (a2 h3),?_,a3⟩
  ·simp only [evalOper,hw,h1,a1]
   rw [put_eq]
  ·by_cases hn:A=[]
   ·subst hn; intro p hp; cases hp
   ·obtain ⟨c1,c2⟩:=hc hn o (.head _)
    have:sl'=sl:=evalOp_sl (s := ⟨sl,hp,ef,bs⟩) (s':=⟨sl',hp',ef',bs⟩) c1 h1
    subst this
    exact hA.put c2 _
 have skip:∀ (v:KV) (_:KvOk v) (_:v.val=.undef) (_:k (e.put o.dst v) hp ef=some r) (_:wantedA ⟨sl,hp,ef,bs⟩ o.guard=some false),
   ∃ (e':Env) (sl':List AV) (hp':List AObj) (ef':Eff),evalOper G K o ⟨sl,hp,ef,bs⟩=some ⟨sl',hp',ef',bs⟩∧EnvOk N (rmO o.dst P) e' sl'∧Held A sl'∧k e' hp' ef'=some r:=by
  intro v hv hu h hw
  refine ⟨e.put o.dst v,(AState.put ⟨sl,hp,ef,bs⟩ o.dst v.val).sl,hp,ef,?_,he.put o.dst hv,?_,h⟩
  ·simp only [evalOper,hw,hu]
   rw [put_eq]
  ·by_cases hn:A=[]
   ·subst hn; intro p hp; cases hp
   ·exact hA.put (hc hn o (.head _)).2 _
 split at h
 ·rename_i hg
  exact run (fun v e' hp' ef' hk=>⟨v,rfl,fun a=>a,hk⟩) h (by rw [hg]; rfl)
 ·rename_i t want hg
  cases hi:inA t want A with
  | true =>
   rw [hi,bifK_true] at h
   refine run (fun v e' hp' ef' hk=>⟨v,rfl,fun a=>a,hk⟩) h ?_
   rw [hg,guardB_eq rfl (hA _ (inA_mem hi))]
   simp [guardB]
  | false =>
   rw [hi,bifK_false] at h
   obtain ⟨h1,h⟩:=bif_some h
   have hw:wantedA ⟨sl,hp,ef,bs⟩ o.guard=guardB want (e t).val:=by rw [hg]; exact guardB_eq rfl (he.get h1)
   cases ht:takesFrom o.op with
   | true =>
    rw [ht,bifK_true] at h
    unfold guardM at h
    split at h
    ·rename_i hb
     exact run (fun v e' hp' ef' hk=>⟨v,rfl,fun a=>a,hk⟩) h (hw.trans hb)
    ·rename_i hb
     exact skip (.cln .undef) rfl rfl h (hw.trans hb)
    ·cases h
   | false =>
    rw [ht,bifK_false] at h
    unfold guardK at h
    split at h
    ·rename_i hb
     have h':=opK_split (k := fun v e' hp' ef'=>k (e'.put o.dst v) hp' ef') ▸ h
     rw [← quiet_env ht (k := fun v e' hp' ef'=>k (e'.put o.dst (.raw v.val)) hp' ef')] at h'
     exact run (fun v e' hp' ef' hk=>⟨.raw v.val,rfl,fun _=>rfl,hk⟩) h' (hw.trans hb)
    ·rename_i hb
     exact skip (.raw .undef) rfl rfl h (hw.trans hb)
    ·cases h
theorem evalOps_append {call:FuncId→List AV→List AObj→KR}:∀ (a b:List AOper) (s:AState),evalOps G call (a ++ b) s=(evalOps G call a s).bind (evalOps G call b)
 | [],b,s=>rfl
 | o :: l,b,s=>by
  simp only [List.cons_append,evalOps]
  cases evalOper G call o s with
  | none=>rfl
  | some s'=>exact evalOps_append l b s'
theorem group_off {call:FuncId→List AV→List AObj→KR}{t:Nat}{want:Bool}{P:List Nat}:∀ (ops:List AOper) (ds:List Nat) (sl:List AV) (hp:List AObj) (ef:Eff),sl[t]? = some (.bool (!want))→(∀ d ∈ ds,sl[d]? = some .undef)→sl.length=N →
  ∃ sl',evalOps G call (ops.take (grpLen N t want P ds ops)) ⟨sl,hp,ef,bs⟩=some ⟨sl',hp,ef,bs⟩∧sl'.length=sl.length∧∀ j,j ∉ P→sl'[j]? = sl[j]?
 | [],ds,sl,hp,ef,_,_,_=>⟨sl,rfl,rfl,fun _ _=>rfl⟩
 | o :: l,ds,sl,hp,ef,h1,h2,h3=>by
  have stay:grpLen N t want P ds (o :: l)=0→∃ sl',evalOps G call ((o :: l).take (grpLen N t want P ds (o :: l))) ⟨sl,hp,ef,bs⟩=some ⟨sl',hp,ef,bs⟩∧sl'.length=sl.length∧∀ j,j ∉ P→sl'[j]? = sl[j]?:=by
   intro h0
   rw [h0]
   exact ⟨sl,rfl,rfl,fun _ _=>rfl⟩
  cases hg:o.guard with
  | none=>exact stay (by simp only [grpLen,hg])
  | some uw =>
   obtain ⟨u,w⟩:=uw
   cases hd:o.dst with
   | none=>exact stay (by simp only [grpLen,hg,hd])
   | some d =>
    cases hb:(((Nat.beq u t && (w == want)) || !notIn ds u) && !Nat.beq d t && !notIn P d && !takesFrom o.op && Nat.blt d N) with
    | false=>exact stay (by simp only [grpLen,hg,hd,hb])
    | true =>
     have hl:grpLen N t want P ds (o :: l)=grpLen N t want P (d :: ds) l + 1:=by simp only [grpLen,hg,hd,hb]
     rw [hl,List.take_succ_cons]
     simp only [Bool.and_eq_true,Bool.or_eq_true,Bool.not_eq_true'] at hb
     obtain ⟨⟨⟨⟨b1,b2⟩,b3⟩,b4⟩,b5⟩:=hb
     have hdt:d≠t:=fun e=>by subst e; rw [Nat.beq_refl] at b2; cases b2
     have hdP:d ∈ P:=Classical.byContradiction fun hn=>by rw [notIn_iff.2 hn] at b3; cases b3
     have hw:wantedA ⟨sl,hp,ef,bs⟩ (some (u,w))=some false:=by
      rcases b1 with ⟨c1,c2⟩ | c1
      ·have:=Nat.eq_of_beq_eq_true c1
       have hw:w=want:=by simpa using c2
       subst this; subst hw
       simp [wantedA,h1]
      ·have:u ∈ ds:=Classical.byContradiction fun hn=>by rw [notIn_iff.2 hn] at c1; cases c1
       simp [wantedA,h2 u this]
     obtain ⟨sl',a1,a2,a3⟩:=group_off l (d :: ds) (sl.set d .undef) hp ef (by rw [List.getElem?_set,if_neg hdt]; exact h1)
      (fun x hx=>by
       rw [List.getElem?_set]
       by_cases e:d=x
       ·subst e; simp [h3,show d < N from Nat.le_of_ble_eq_true b5]
       ·rw [if_neg e]
        rcases List.mem_cons.1 hx with e' | hx
        ·exact absurd e'.symm e
        ·exact h2 x hx)
      (by rw [List.length_set]; exact h3)
     refine ⟨sl',?_,by rw [a2,List.length_set],fun j hj=>?_⟩
     ·simp only [evalOps,evalOper,hg,hw,hd]
      exact a1
     ·rw [a3 j hj,List.getElem?_set,if_neg (fun (e:d=j)=>hj (e ▸ hdP))]
theorem group_calm {t:Nat}{want:Bool}{P:List Nat}:∀ (ops:List AOper) (ds:List Nat),∀ o ∈ ops.take (grpLen N t want P ds ops),takesFrom o.op=false∧o.dst≠some t∧∀ d,o.dst=some d→d ∈ P
 | [],ds,o,ho=>by cases ho
 | o :: l,ds,o',ho=>by
  cases hg:o.guard with
  | none=>rw [show grpLen N t want P ds (o :: l)=0 by simp only [grpLen,hg]] at ho; cases ho
  | some uw =>
   obtain ⟨u,w⟩:=uw
   cases hd:o.dst with
   | none=>rw [show grpLen N t want P ds (o :: l)=0 by simp only [grpLen,hg,hd]] at ho; cases ho
   | some d =>
    cases hb:(((Nat.beq u t && (w == want)) || !notIn ds u) && !Nat.beq d t && !notIn P d && !takesFrom o.op && Nat.blt d N) with
    | false=>rw [show grpLen N t want P ds (o :: l)=0 by simp only [grpLen,hg,hd,hb]] at ho; cases ho
    | true =>
     rw [show grpLen N t want P ds (o :: l)=grpLen N t want P (d :: ds) l + 1 by simp only [grpLen,hg,hd,hb],List.take_succ_cons] at ho
     simp only [Bool.and_eq_true,Bool.or_eq_true,Bool.not_eq_true'] at hb
     obtain ⟨⟨⟨⟨b1,b2⟩,b3⟩,b4⟩,b5⟩:=hb
     rcases List.mem_cons.1 ho with e | ho
     ·subst e
      refine ⟨b4,fun e=>?_,fun x hx=>?_⟩
      ·rw [hd] at e; cases e; rw [Nat.beq_refl] at b2; cases b2
      ·rw [hd] at hx; cases hx
       exact Classical.byContradiction fun hn=>by rw [notIn_iff.2 hn] at b3; cases b3
     ·exact group_calm l (d :: ds) o' ho
theorem ops_off {call:FuncId→List AV→List AObj→KR}{P:List Nat}:∀ (ops:List AOper) (s s':AState),(∀ o ∈ ops,takesFrom o.op=false∧∀ d,o.dst=some d→d ∈ P)→evalOps G call ops s=some s'→s'.sl.length=s.sl.length∧∀ j,j ∉ P→s'.sl[j]? = s.sl[j]?
 | [],s,s',_,h=>by cases h; exact ⟨rfl,fun _ _=>rfl⟩
 | o :: l,s,s',hc,h=>by
  simp only [evalOps] at h
  split at h
  ·rename_i s1 h1
   obtain ⟨a1,a2⟩:=ops_off l s1 s' (fun o ho=>hc o (.tail _ ho)) h
   have one:s1.sl.length=s.sl.length∧∀ j,j ∉ P→s1.sl[j]? = s.sl[j]?:=by
    obtain ⟨c1,c2⟩:=hc o (.head _)
    have putOff:∀ (s2:AState) (v:AV),s2.sl=s.sl→(s2.put o.dst v).sl.length=s.sl.length∧∀ j,j ∉ P→(s2.put o.dst v).sl[j]? = s.sl[j]?:=by
     intro s2 v h2
     cases hd:o.dst with
     | none=>exact ⟨congrArg _ h2,fun _ _=>by show s2.sl[_]? = _; rw [h2]⟩
     | some d=>exact ⟨by show (s2.sl.set d v).length=_; rw [List.length_set,h2],fun j hj=>by show (s2.sl.set d v)[j]? = _; rw [List.getElem?_set,if_neg (fun (e:d=j)=>hj (e ▸ c2 d hd)),h2]⟩
    unfold evalOper at h1
    split at h1
    ·split at h1
     ·rename_i hev
      have e1:=evalOp_sl c1 hev
      cases h1
      exact putOff _ _ e1
     ·cases h1
    ·cases h1
     exact putOff s _ rfl
    ·cases h1
   exact ⟨a1.trans one.1,fun j hj=>(a2 j hj).trans (one.2 j hj)⟩
  ·cases h
theorem grpAt_ok {A:List (Nat×Bool)}{P:List Nat}{ops:List AOper}{t:Nat}{want:Bool}{m:Nat}{d:Option Nat}{a b:Opnd}{rest:List AOper}(h:grpAt N A P ops=some (t,want,m,d,a,b,rest)) :
  m=grpLen N t want P [] ops∧t < N∧t ∉ P∧∃ g,ops.drop m=⟨d,.pick (.tmp t) a b,g⟩ :: rest∧(g=none∨∃ p ∈ A,g=some p):=by
 unfold grpAt at h
 split at h
 ·cases h
 ·rename_i o l
  split at h
  ·cases h
  ·rename_i t' want' hg
   cases hi:inA t' want' A with
   | true=>rw [hi,bifK_true] at h; cases h
   | false =>
    rw [hi,bifK_false] at h
    split at h
    ·rename_i d' u a' b' rest' hd
     obtain ⟨h1,h2⟩:=bif_some h
     simp only [Bool.and_eq_true] at h1
     obtain ⟨⟨⟨c1,c2⟩,c3⟩,c4⟩:=h1
     cases h2
     have:=Nat.eq_of_beq_eq_true c1
     subst this
     exact ⟨rfl,Nat.le_of_ble_eq_true c2,notIn_iff.1 c3,none,hd,.inl rfl⟩
    ·rename_i d' u a' b' gt gw rest' hd
     obtain ⟨h1,h2⟩:=bif_some h
     simp only [Bool.and_eq_true] at h1
     obtain ⟨⟨⟨⟨c0,c1⟩,c2⟩,c3⟩,c4⟩:=h1
     cases h2
     have:=Nat.eq_of_beq_eq_true c1
     subst this
     exact ⟨rfl,Nat.le_of_ble_eq_true c2,notIn_iff.1 c3,some (gt,gw),hd,.inr ⟨_,inA_mem c0,rfl⟩⟩
    ·cases h
theorem beq_not:∀ (c w:Bool),(c == w)=false→c=!w:=by decide
theorem opsK_ok:∀ (n:Nat) {A:List (Nat×Bool)} {P:List Nat} {ops:List AOper} {e:Env} {sl:List AV} (_:EnvOk N P e sl) (_:Held A sl) (_:Calm A ops) {hp:List AObj} {ef:Eff} {k:Cont} {r:AV×List AObj×Eff},opsK G N bs K n A P ops k e hp ef=some r →
  ∃ (e':Env) (sl':List AV) (hp':List AObj) (ef':Eff),evalOps G K ops ⟨sl,hp,ef,bs⟩=some ⟨sl',hp',ef',bs⟩∧EnvOk N (finP N n A P ops) e' sl'∧Held A sl'∧k e' hp' ef'=some r
 | 0,A,P,[],e,sl,he,hA,_,hp,ef,k,r,h=>⟨e,sl,hp,ef,rfl,he,hA,by simpa [opsK] using h⟩
 | n + 1,A,P,[],e,sl,he,hA,_,hp,ef,k,r,h=>⟨e,sl,hp,ef,rfl,he,hA,by simpa [opsK] using h⟩
 | 0,A,P,o :: l,e,sl,he,hA,_,hp,ef,k,r,h=>by simp [opsK] at h
 | n + 1,A,P,o :: l,e,sl,he,hA,hc,hp,ef,k,r,h=>by
  cases hg:grpAt N A P (o :: l) with
  | some gg =>
   obtain ⟨t,want,m,d,a,b,rest⟩:=gg
   simp only [opsK,hg] at h
   simp only [finP,hg]
   obtain ⟨hm,htN,htP,g,hdrop,hgd⟩:=grpAt_ok hg
   have hsplit:o :: l=(o :: l).take m ++ ⟨d,.pick (.tmp t) a b,g⟩ :: rest:=by rw [← hdrop,List.take_append_drop]
   have hcalm:∀ o' ∈ (o :: l).take m,takesFrom o'.op=false∧o'.dst≠some t∧∀ x,o'.dst=some x→x ∈ P:=by rw [hm]; exact group_calm _ _
   have hcA:A≠[]→∀ p ∈ A,d≠some p.1:=fun hne p hp=>(hc hne ⟨d,.pick (.tmp t) a b,g⟩ (by rw [hsplit]; exact List.mem_append_right _ (.head _))).2 p hp
   have ht:sl[t]? = some (e t).val:=he.val t htN htP
   have behind:∀ (sl1:List AV) (hp1:List AObj) (ef1:Eff) (c:Bool) (v:AV),evalOps G K ((o :: l).take m) ⟨sl,hp,ef,bs⟩=some ⟨sl1,hp1,ef1,bs⟩→sl1.length=sl.length→(∀ j,j ∉ P→sl1[j]? = sl[j]?)→Held A sl1→sl1[t]? = some (.bool c) →
     opnd G sl1 (if c then a else b)=some v→opsK G N bs K n A (rmO d P) rest k (e.put d (.raw v)) hp1 ef1=some r →
     ∃ (e':Env) (sl':List AV) (hp':List AObj) (ef':Eff),evalOps G K (o :: l) ⟨sl,hp,ef,bs⟩=some ⟨sl',hp',ef',bs⟩∧EnvOk N (finP N n A (rmO d P) rest) e' sl'∧Held A sl'∧k e' hp' ef'=some r:=by
    intro sl1 hp1 ef1 c v h1 hlen hoff hA1 hc1 hv hk
    have he1:EnvOk N P e sl1:=⟨hlen.trans he.len,fun j hj hn=>(hoff j hn).trans (he.val j hj hn),he.ok⟩
    have hput:=he1.put d (v := .raw v) (kv_raw v) (hp := hp1) (ef := ef1) (bs := bs)
    have hA2:Held A (AState.put ⟨sl1,hp1,ef1,bs⟩ d v).sl:=by
     by_cases hne:A=[]
     ·subst hne; intro p hp; cases hp
     ·exact hA1.put (hcA hne) v
    obtain ⟨e',sl',hp',ef',b1,b2,b3,b4⟩:=opsK_ok n hput hA2 (fun hne o' ho'=>hc hne o' (by rw [hsplit]; exact List.mem_append_right _ (.tail _ ho'))) hk
    refine ⟨e',sl',hp',ef',?_,b2,b3,b4⟩
    rw [hsplit,evalOps_append,h1]
    show evalOps G K (⟨d,.pick (.tmp t) a b,g⟩ :: rest) ⟨sl1,hp1,ef1,bs⟩=_
    have hw:wantedA ⟨sl1,hp1,ef1,bs⟩ g=some true:=by
     rcases hgd with e0 | ⟨p,hp,e0⟩
     ·subst e0; rfl
     ·subst e0
      obtain ⟨p1,p2⟩:=p
      rw [guardB_eq rfl (hA1 _ hp)]
      simp [guardB]
    have hop:evalOp G K ⟨sl1,hp1,ef1,bs⟩ (.pick (.tmp t) a b)=some (v,⟨sl1,hp1,ef1,bs⟩):=by
     have:opnd G sl1 (.tmp t)=some (.bool c):=by simp only [Abs.opnd,hc1,Option.map_some]; rfl
     cases c with
     | true=>simp only [if_true] at hv; simp only [evalOp,this,hv,Option.map_some]
     | false=>simp only [Bool.false_eq_true,if_false] at hv; simp only [evalOp,this,hv,Option.map_some]
    simp only [evalOps,evalOper,hw,hop]
    rw [put_eq]
    exact b1
   unfold grpK at h
   split at h
   ·rename_i c hcv
    rw [hcv] at ht
    split at h
    ·rename_i hcw
     have hcw:c=want:=by simpa using hcw
     subst hcw
     obtain ⟨v,hp1,ef1,h1,h2⟩:=opt3_some h
     have hA':Held ((t,c) :: A) sl:=by
      intro p hp
      rcases List.mem_cons.1 hp with e0 | hp
      ·subst e0; exact ht
      ·exact hA p hp
     have hc':Calm ((t,c) :: A) ((o :: l).take m):=by
      intro _ o' ho'
      obtain ⟨q1,q2,q3⟩:=hcalm o' ho'
      refine ⟨q1,fun p hp=>?_⟩
      rcases List.mem_cons.1 hp with e0 | hp
      ·subst e0; exact q2
      ·exact (hc (by intro h0; subst h0; cases hp) o' (by rw [hsplit]; exact List.mem_append_left _ ho')).2 p hp
     obtain ⟨e1,sl1,hp2,ef2,b1,b2,b3,b4⟩:=opsK_ok n he hA' hc' h1
     obtain ⟨v',g1,g2⟩:=rdK_some b4
     cases g2
     obtain ⟨o1,o2⟩:=ops_off (P := P) _ _ _ (fun o' ho'=>⟨(hcalm o' ho').1,(hcalm o' ho').2.2⟩) b1
     refine behind sl1 _ _ c _ b1 o1 o2 (fun p hp=>b3 p (.tail _ hp)) (b3 _ (.head _)) ?_ h2
     have:=b2.opnd g1
     cases c <;> exact this
    ·rename_i hcw
     have hcw:c=!want:=beq_not _ _ hcw
     subst hcw
     obtain ⟨v,h1,h2⟩:=optK_some h
     obtain ⟨sl1,b1,b2,b3⟩:=group_off (G := G) (N := N) (bs := bs) (call := K) (P := P) (t := t) (want := want) (o :: l) [] sl hp ef ht (fun _ hx=>by cases hx) he.len
     rw [← hm] at b1
     have he1:EnvOk N P e sl1:=⟨b2.trans he.len,fun j hj hn=>(b3 j hn).trans (he.val j hj hn),he.ok⟩
     have hA1:Held A sl1:=by
      by_cases hne:A=[]
      ·subst hne; intro p hp; cases hp
      ·have hall:∀ o' ∈ (o :: l).take m,∀ p ∈ A,o'.dst≠some p.1:=fun o' ho' p hp=>(hc hne o' (by rw [hsplit]; exact List.mem_append_left _ ho')).2 p hp
       intro p hp
       have:=ops_off (G := G) (call := K) (P := ((o :: l).take m).filterMap (·.dst)) _ _ _ (fun o' ho'=>⟨(hcalm o' ho').1,fun x hx=>List.mem_filterMap.2 ⟨o',ho',hx⟩⟩) b1
       rw [this.2 p.1 (fun hmem=>by obtain ⟨o',ho',hx⟩:=List.mem_filterMap.1 hmem; exact hall o' ho' p hp hx)]
       exact hA p hp
     refine behind sl1 _ _ (!want) _ b1 b2 b3 hA1 (by rw [b3 t htP]; exact ht) ?_ h2
     have:=he1.opnd h1
     cases want <;> exact this
   ·cases h
  | none =>
   simp only [opsK,hg] at h
   simp only [finP,hg]
   obtain ⟨e1,sl1,hp1,ef1,h1,h2,h3,h4⟩:=operK_ok he hA (fun hne o' ho'=>hc hne o' (by rcases List.mem_cons.1 ho' with e0 | e0; (subst e0; exact .head _); cases e0)) h
   obtain ⟨e2,sl2,hp2,ef2,g1,g2,g3,g4⟩:=opsK_ok n h2 h3 (fun hne o' ho'=>hc hne o' (.tail _ ho')) h4
   exact ⟨e2,sl2,hp2,ef2,by simp only [evalOps,h1,g1],g2,g3,g4⟩
theorem mem_rmO {P:List Nat}{d:Option Nat}{t:Nat}(h:t ∈ rmO d P):t ∈ P:=by
 cases d with
 | none=>exact h
 | some d=>exact (mem_rm.1 h).1
theorem mem_finP:∀ (n:Nat) {A:List (Nat×Bool)} {P:List Nat} {ops:List AOper} {t:Nat},t ∈ finP N n A P ops→t ∈ P
 | 0,A,P,ops,t,h=>by simpa [finP] using h
 | n + 1,A,P,[],t,h=>by simpa [finP] using h
 | n + 1,A,P,o :: l,t,h=>by
  unfold finP at h
  split at h
  ·exact mem_rmO (mem_finP n h)
  ·exact mem_rmO (mem_finP n h)
theorem opsK_all {P:List Nat}{ops:List AOper}{e:Env}{sl:List AV}(he:EnvOk N P e sl){hp:List AObj}{ef:Eff}{k:Cont}{r:AV×List AObj×Eff}(h:opsK G N bs K ops.length [] P ops k e hp ef=some r) :
  OperGoes N bs P (evalOps G K ops ⟨sl,hp,ef,bs⟩) k r:=by
 obtain ⟨e',sl',hp',ef',h1,h2,_,h4⟩:=opsK_ok ops.length he (fun p hp=>by cases hp) (fun hne=>absurd rfl hne) h
 exact ⟨e',sl',hp',ef',h1,h2.mono fun t ht=>mem_finP _ ht,h4⟩
def Goes (N bs:Nat)(P:List Nat)(x:Option (AExit×AState))(n rt:Cont)(xs:List (Nat×Cont))(r:AV×List AObj×Eff):Prop :=
 ∃ (ex:AExit) (e':Env) (sl':List AV) (hp':List AObj) (ef':Eff),x=some (ex,⟨sl',hp',ef',bs⟩)∧EnvOk N P e' sl'∧match ex with
  | .normal=>n e' hp' ef'=some r
  | .ret=>rt e' hp' ef'=some r
  | .exit i=>lookK i xs e' hp' ef'=some r
variable {L:Nat}
theorem codeK_seq (a b:ACode)(n r:Cont)(xs:List (Nat×Cont)):codeK G N bs K P L (.seq a b) n r xs=codeK G N bs K P L a (codeK G N bs K P L b n r xs) r xs:=rfl
theorem codeK_block (id:Nat)(c:ACode)(n r:Cont)(xs:List (Nat×Cont)):codeK G N bs K P L (.block id c) n r xs=codeK G N bs K P L c n r ((id,n) :: xs):=rfl
theorem codeK_scope (c:ACode)(n r:Cont)(xs:List (Nat×Cont)):codeK G N bs K P L (.scope c) n r xs=codeK G N bs K P L c n r xs:=rfl
theorem codeK_cond (c:Opnd)(a b:ACode)(n r:Cont)(xs:List (Nat×Cont)):codeK G N bs K P L (.cond c a b) n r xs=fun e hp ef=>rdK (opndK G N P e c) fun v=>ifK v (codeK G N bs K P L a n r xs e hp ef) (codeK G N bs K P L b n r xs e hp ef):=rfl
theorem codeK_ok:∀ (c:ACode) {n rt:Cont} {xs:List (Nat×Cont)} {e:Env} {sl:List AV} (_:EnvOk N P e sl) {hp:List AObj} {ef:Eff} {r:AV×List AObj×Eff},codeK G N bs K P L c n rt xs e hp ef=some r →
  Goes N bs P (evalCode G K L c ⟨sl,hp,ef,bs⟩) n rt xs r
 | .skip,n,rt,xs,e,sl,he,hp,ef,r,h=>⟨.normal,e,sl,hp,ef,rfl,he,h⟩
 | .region false ops,n,rt,xs,e,sl,he,hp,ef,r,h=>by
  obtain ⟨e',sl',hp',ef',h1,h2,h3⟩:=opsK_all he h
  exact ⟨.normal,e',sl',hp',ef',by simp only [evalCode,h1,Option.map_some],h2,h3⟩
 | .region true ops,n,rt,xs,e,sl,he,hp,ef,r,h=>by
  obtain ⟨e',sl',hp',ef',h1,h2,h3⟩:=opsK_all he h
  exact ⟨.normal,e',sl',hp',ef',by simp only [evalCode,h1,Option.map_some],h2,h3⟩
 | .regionB ops,n,rt,xs,e,sl,he,hp,ef,r,h=>by
  simp only [codeK] at h
  cases hq:stPat ops with
  | true=>rw [hq,cond_true] at h; cases h
  | false =>
   rw [hq,cond_false] at h
   obtain ⟨e',sl',hp',ef',h1,h2,h3⟩:=opsK_all he h
   exact ⟨.normal,e',sl',hp',ef',by simp only [evalCode,stOk,hq,Bool.not_false,Bool.true_or,if_true,h1,Option.map_some],h2,h3⟩
 | .seq a b,n,rt,xs,e,sl,he,hp,ef,r,h=>by
  obtain ⟨ex,e',sl',hp',ef',h1,h2,h3⟩:=codeK_ok a he h
  cases ex with
  | normal =>
   obtain ⟨ex,e2,sl2,hp2,ef2,g1,g2,g3⟩:=codeK_ok b h2 h3
   exact ⟨ex,e2,sl2,hp2,ef2,by simp only [evalCode,h1,g1],g2,g3⟩
  | ret=>exact ⟨.ret,e',sl',hp',ef',by simp only [evalCode,h1],h2,h3⟩
  | exit i=>exact ⟨.exit i,e',sl',hp',ef',by simp only [evalCode,h1],h2,h3⟩
 | .cond c a b,n,rt,xs,e,sl,he,hp,ef,r,h=>by
  obtain ⟨v,h1,h2⟩:=rdK_some (show rdK (opndK G N P e c) (fun v=>ifK v (codeK G N bs K P L a n rt xs e hp ef) (codeK G N bs K P L b n rt xs e hp ef))=some r from h)
  unfold ifK at h2
  split at h2
  ·obtain ⟨ex,e',sl',hp',ef',g1,g2,g3⟩:=codeK_ok a he h2
   exact ⟨ex,e',sl',hp',ef',by simp only [evalCode,he.opnd h1,g1],g2,g3⟩
  ·obtain ⟨ex,e',sl',hp',ef',g1,g2,g3⟩:=codeK_ok b he h2
   exact ⟨ex,e',sl',hp',ef',by simp only [evalCode,he.opnd h1,g1],g2,g3⟩
  ·cases h2
 | .block id c,n,rt,xs,e,sl,he,hp,ef,r,h=>by
  obtain ⟨ex,e',sl',hp',ef',h1,h2,h3⟩:=codeK_ok c he h
  cases ex with
  | normal=>exact ⟨.normal,e',sl',hp',ef',by simp only [evalCode,h1],h2,h3⟩
  | ret=>exact ⟨.ret,e',sl',hp',ef',by simp only [evalCode,h1],h2,h3⟩
  | exit i =>
   simp only [lookK] at h3
   by_cases hi:i=id
   ·subst hi
    rw [Nat.beq_refl,bifK_true] at h3
    exact ⟨.normal,e',sl',hp',ef',by simp only [evalCode,h1,if_true],h2,h3⟩
   ·have:Nat.beq id i=false:=by cases hb:Nat.beq id i with | false=>rfl | true=>exact absurd (Nat.eq_of_beq_eq_true hb).symm hi
    rw [this,bifK_false] at h3
    exact ⟨.exit i,e',sl',hp',ef',by simp only [evalCode,h1,if_neg hi],h2,h3⟩
 | .loop c,n,rt,xs,e,sl,he,hp,ef,r,h=>by
  have go:∀ (m:Nat) {e:Env} {sl:List AV} (_:EnvOk N P e sl) {hp:List AObj} {ef:Eff},loopK (fun n'=>codeK G N bs K P L c n' rt xs) m e hp ef=some r →
    Goes N bs P (iter (evalCode G K L c) m ⟨sl,hp,ef,bs⟩) n rt xs r:=by
   intro m
   induction m with
   | zero=>intro e sl he hp ef h; cases h
   | succ m ih =>
    intro e sl he hp ef h
    obtain ⟨ex,e',sl',hp',ef',h1,h2,h3⟩:=codeK_ok c he (show codeK G N bs K P L c (loopK (fun n'=>codeK G N bs K P L c n' rt xs) m) rt xs e hp ef=some r from h)
    cases ex with
    | normal =>
     obtain ⟨ex,e2,sl2,hp2,ef2,g1,g2,g3⟩:=ih h2 h3
     exact ⟨ex,e2,sl2,hp2,ef2,by simp only [iter,h1,g1],g2,g3⟩
    | ret=>exact ⟨.ret,e',sl',hp',ef',by simp only [iter,h1],h2,h3⟩
    | exit i=>exact ⟨.exit i,e',sl',hp',ef',by simp only [iter,h1],h2,h3⟩
  exact go L he h
 | .scope c,n,rt,xs,e,sl,he,hp,ef,r,h=>codeK_ok c he h
 | .exit id,n,rt,xs,e,sl,he,hp,ef,r,h=>⟨.exit id,e,sl,hp,ef,rfl,he,h⟩
 | .ret,n,rt,xs,e,sl,he,hp,ef,r,h=>⟨.ret,e,sl,hp,ef,rfl,he,h⟩
 | .bad,n,rt,xs,e,sl,he,hp,ef,r,h=>by cases h
end
theorem resK_ok {e:Env}{N:Nat}{P:List Nat}{sl:List AV}(he:EnvOk N P e sl){hp:List AObj}{ef:Eff}{bs:Nat}{r:ARes}{v:AV}(h:resK e N P hp r=some v):resVal ⟨sl,hp,ef,bs⟩ r=some v:=by
 cases r <;> simp only [resK] at h <;> obtain ⟨h1,h2⟩:=bif_some h
 ·cases h2; exact he.get h1
 ·simp only [resVal,he.get h1,h2]
 ·simp only [resVal,he.get h1,h2]
theorem ressK_ok {e:Env}{N:Nat}{P:List Nat}{sl:List AV}(he:EnvOk N P e sl){hp:List AObj}{ef:Eff}{bs:Nat}:∀ {rs:List ARes} {k:List AV→KR} {q:AV×List AObj×Eff},ressK e N P hp rs k=some q→∃ vs,resVals ⟨sl,hp,ef,bs⟩ rs=some vs∧k vs=some q
 | [],k,q,h=>⟨[],rfl,h⟩
 | r :: l,k,q,h=>by
  simp only [ressK] at h
  obtain ⟨v,hv,h⟩:=rdK_some h
  obtain ⟨vs,hvs,h⟩:=ressK_ok (ef := ef) (bs := bs) he h
  exact ⟨v.nm :: vs,by simp only [resVals,resK_ok he hv,hvs],h⟩
theorem resultK_ok {e:Env}{N:Nat}{P:List Nat}{sl:List AV}(he:EnvOk N P e sl){hp:List AObj}{ef:Eff}{bs:Nat}{rs:List ARes}{k:AV→KR}{q:AV×List AObj×Eff}(h:resultK e N P hp rs k=some q):∃ v,resultOf ⟨sl,hp,ef,bs⟩ rs=some v∧k v=some q:=by
 unfold resultK at h
 split at h
 ·obtain ⟨v,hv,h⟩:=rdK_some h
  exact ⟨v,resK_ok he hv,h⟩
 ·rename_i hne
  obtain ⟨vs,hvs,h⟩:=ressK_ok (ef := ef) (bs := bs) he h
  refine ⟨_,?_,h⟩
  unfold resultOf
  split
  ·exact absurd rfl (hne _)
  ·rw [hvs]; rfl
theorem argE_get:∀ (args:List AV) (t:Nat),argE args t=.raw (args.getD t .undef)
 | [],t=>by simp [argE]
 | v :: l,0=>rfl
 | v :: l,t + 1=>by
  show argE l t=_
  rw [argE_get l t]
  rfl
theorem argE_ok {args:List AV}{N:Nat}{P:List Nat}(h:args.length≤N):EnvOk N P (argE args) (args ++ List.replicate (N - args.length) .undef):=by
 refine ⟨by simp; omega,fun t ht _=>?_,fun t=>by rw [argE_get]; rfl⟩
 rw [argE_get,List.getD_eq_getElem?_getD]
 by_cases h1:t < args.length
 ·rw [List.getElem?_append_left h1]; simp [h1,KV.val]
 ·rw [List.getElem?_append_right (by omega),List.getElem?_replicate]
  simp [show t - args.length < N - args.length by omega,show args[t]? = none from List.getElem?_eq_none (by omega),KV.val]
theorem fnK_ok {C:Cfg}{P:List Nat}{f:FuncId}{fn:AFn}(hT:C.T f=some fn){n:Nat}{args:List AV}{hp:List AObj}{r:AV×List AObj×Eff}(hl:args.length≤fn.ntmps)(h:fnK C.G (evalCall C n) P C.L fn args hp=some r) :
  evalCall C (n + 1) f args hp=some r:=by
 obtain ⟨ex,e',sl',hp',ef',h1,h2,h3⟩:=codeK_ok fn.code (argE_ok hl) h
 have hret:∀ (_:retK P fn hp e' hp' ef'=some r),∃ v,resultOf ⟨sl',hp',ef',hp.length⟩ fn.results=some v∧(if fn.keep then (v.nm,hp',ef') else finish v ⟨sl',hp',ef',hp.length⟩ hp)=r:=by
  intro h
  obtain ⟨v,a1,a2⟩:=resultK_ok h2 h
  refine ⟨v,a1,?_⟩
  cases a2
  unfold finK
  cases fn.keep <;> rfl
 rw [evalCall]
 simp only [hT,h1]
 cases ex with
 | normal =>
  obtain ⟨v,a1,a2⟩:=hret h3
  simp only [a1,a2]
 | ret =>
  obtain ⟨v,a1,a2⟩:=hret h3
  simp only [a1,a2]
 | exit i=>cases h3
end Go.Proofs.YtcfjcimhjmpkiaaGreatDoor.Abs
end
section
namespace Go.Proofs.YtcfjcimhjmpkiaaGreatDoor.Abs
open Go
theorem optK_s {α:Type}(v:α)(k:α→KR):optK (some v) k=k v:=rfl
theorem opt2_s {α β:Type}(a:α)(b:β)(k:α→β→KR):opt2 (some (a,b)) k=k a b:=rfl
theorem opt3_s {α β γ:Type}(a:α)(b:β)(c:γ)(k:α→β→γ→KR):opt3 (some (a,b,c)) k=k a b c:=rfl
theorem ifK_b (b:Bool)(x y:KR):ifK (.bool b) x y=if b=true then x else y:=by cases b <;> rfl
theorem guardK_t (x:KR)(hp:List AObj)(ef:Eff)(k:AV→List AObj→Eff→KR):guardK (some true) x hp ef k=opt3 x k:=rfl
theorem guardK_f (x:KR)(hp:List AObj)(ef:Eff)(k:AV→List AObj→Eff→KR):guardK (some false) x hp ef k=k .undef hp ef:=rfl
theorem guardB_bt (b:Bool):guardB true (.bool b)=some b:=by cases b <;> rfl
theorem guardB_bf (b:Bool):guardB false (.bool b)=some (!b):=by cases b <;> rfl
theorem pickV_t (a b:AV):pickV (.bool true) a b=some a:=rfl
theorem pickV_f (a b:AV):pickV (.bool false) a b=some b:=rfl
theorem letK_e {α:Type}(x:α)(k:α→KR):letK x k=k x:=rfl
theorem ro_bool (b:Bool):AV.ro (.bool b)=.bool b:=rfl
theorem ro_int (k:IntKind)(n:Int):AV.ro (.int k n)=.int k n:=rfl
theorem ro_str (s:List UInt8):AV.ro (.str s)=.str s:=rfl
theorem ro_lst (k:Nat)(r:List (List AV)):AV.ro (.lst k r)=.lst k r:=rfl
theorem ro_own (k:Nat)(r:List (List AV)):AV.ro (.own k r)=.lst k r:=rfl
theorem ro_agg (c:List AV):AV.ro (.agg c)=.agg c:=rfl
theorem ro_tup (c:List AV):AV.ro (.tup c)=.tup c:=rfl
theorem ro_ptr (g o:Nat):AV.ro (.ptr g o)=.ptr g o:=rfl
theorem ro_map (g:Nat):AV.ro (.map g)=.map g:=rfl
theorem ro_ref (c:List AV):AV.ro (.ref c)=.ref c:=rfl
theorem ro_fn (f:FuncId)(a c:List AV):AV.ro (.fn f a c)=.fn f a c:=rfl
theorem ro_undef:AV.ro .undef=.undef:=rfl
theorem nm_bool (b:Bool):AV.nm (.bool b)=.bool b:=rfl
theorem nm_int (k:IntKind)(n:Int):AV.nm (.int k n)=.int k n:=rfl
theorem nm_str (s:List UInt8):AV.nm (.str s)=.str s:=rfl
theorem nm_lst (k:Nat)(r:List (List AV)):AV.nm (.lst k r)=.lst k r:=rfl
theorem nm_own (k:Nat)(r:List (List AV)):AV.nm (.own k r)=.lst k r:=rfl
theorem nm_agg (c:List AV):AV.nm (.agg c)=.agg (c.map AV.ro):=rfl
theorem nm_ptr (g o:Nat):AV.nm (.ptr g o)=.ptr g o:=rfl
theorem nm_map (g:Nat):AV.nm (.map g)=.map g:=rfl
theorem nm_fn (f:FuncId)(a c:List AV):AV.nm (.fn f a c)=.fn f a c:=rfl
theorem b_str (op:BinOp)(a b:List UInt8):binVal op .prim (.str a) (.str b)=strOp op a b:=rfl
theorem b_add (k:IntKind)(a b:Int):binVal .add .prim (.int k a) (.int k b)=some (.int k (k.wrap (a + b))):=by simp [binVal,isShift,intBin]
theorem b_sub (k:IntKind)(a b:Int):binVal .sub .prim (.int k a) (.int k b)=some (.int k (k.wrap (a - b))):=by simp [binVal,isShift,intBin]
theorem b_mul (k:IntKind)(a b:Int):binVal .mul .prim (.int k a) (.int k b)=some (.int k (k.wrap (a * b))):=by simp [binVal,isShift,intBin]
theorem b_eq (k:IntKind)(a b:Int):binVal .eql .prim (.int k a) (.int k b)=some (.bool (decide (a=b))):=by
 simp only [binVal,isShift,intBin,Bool.false_eq_true,if_false,if_true]; congr 2
theorem b_ne (k:IntKind)(a b:Int):binVal .neq .prim (.int k a) (.int k b)=some (.bool (decide (a≠b))):=by
 simp only [binVal,isShift,intBin,Bool.false_eq_true,if_false,if_true]
 by_cases h:a=b <;> simp [h]
theorem b_lt (k:IntKind)(a b:Int):binVal .lss .prim (.int k a) (.int k b)=some (.bool (decide (a < b))):=by simp [binVal,isShift,intBin]
theorem b_le (k:IntKind)(a b:Int):binVal .leq .prim (.int k a) (.int k b)=some (.bool (decide (a≤b))):=by simp [binVal,isShift,intBin]
theorem b_gt (k:IntKind)(a b:Int):binVal .gtr .prim (.int k a) (.int k b)=some (.bool (decide (b < a))):=by simp [binVal,isShift,intBin]
theorem b_ge (k:IntKind)(a b:Int):binVal .geq .prim (.int k a) (.int k b)=some (.bool (decide (b≤a))):=by simp [binVal,isShift,intBin]
theorem s_eq (a b:List UInt8):binVal .eql .prim (.str a) (.str b)=some (.bool (decide (a=b))):=by
 rw [b_str,strOp]; congr 2
 by_cases h:a=b <;> simp [h]
theorem s_ne (a b:List UInt8):binVal .neq .prim (.str a) (.str b)=some (.bool (decide (a≠b))):=by
 rw [b_str,strOp]; congr 2
 by_cases h:a=b <;> simp [h]
theorem s_add (a b:List UInt8)(h:a.length + b.length≤4611686018427387904):binVal .add .prim (.str a) (.str b)=some (.str (a ++ b)):=by
 rw [b_str,strOp,if_pos h]
theorem u_not (b:Bool):unVal .not (.bool b)=some (.bool (!b)):=rfl
theorem u_neg (k:IntKind)(n:Int):unVal .neg (.int k n)=some (.int k (k.wrap (0 - n))):=rfl
theorem l_str (hp:List AObj)(s:List UInt8):lenVal hp .str (.str s)=some (.int .i64 s.length):=rfl
theorem l_lst (hp:List AObj)(k:Nat)(r:List (List AV)):lenVal hp .slice (.lst k r)=some (.int .i64 r.length):=rfl
theorem c_int (hp:List AObj)(k k':IntKind)(n:Int):convVal hp (.int k) (.int k' n)=some (.int k (k.wrap n)):=rfl
theorem x_tup (l:List AV)(i:Nat):extractV (.tup l) i=(l[i]?).map AV.ro:=rfl
theorem after_none (bs:Nat)(ef:Eff):afterK bs ef none=ef:=rfl
theorem fin_bool (hp0:List AObj)(b:Bool)(hp:List AObj):finK false hp0 (.bool b) hp none=(.bool b,hp0,none):=rfl
theorem fin_int (hp0:List AObj)(k:IntKind)(n:Int)(hp:List AObj):finK false hp0 (.int k n) hp none=(.int k n,hp0,none):=rfl
theorem fin_str (hp0:List AObj)(s:List UInt8)(hp:List AObj):finK false hp0 (.str s) hp none=(.str s,hp0,none):=rfl
theorem fin_lst (hp0:List AObj)(k:Nat)(r:List (List AV))(hp:List AObj):finK false hp0 (.lst k r) hp none=(.lst k r,hp0,none):=rfl
theorem fin_own (hp0:List AObj)(k:Nat)(r:List (List AV))(hp:List AObj):finK false hp0 (.own k r) hp none=(.own k r,hp0,none):=rfl
theorem frz2_int (bs:Nat)(hp:List AObj)(k:IntKind)(n:Int):frz2 bs hp (.int k n)=some (.int k n):=rfl
theorem frz2_str (bs:Nat)(hp:List AObj)(s:List UInt8):frz2 bs hp (.str s)=some (.str s):=rfl
theorem frz2_bool (bs:Nat)(hp:List AObj)(b:Bool):frz2 bs hp (.bool b)=some (.bool b):=rfl
theorem frz2_lst (bs:Nat)(hp:List AObj)(k:Nat)(r:List (List AV)):frz2 bs hp (.lst k r)=some (.lst k r):=rfl
theorem last_get (h:List AObj)(x:AObj):(h ++ [x])[h.length]? = some x:=by simp
theorem last_set (h:List AObj)(x y:AObj):(h ++ [x]).set h.length y=h ++ [y]:=by simp
theorem q_int (ks:List CK)(k:IntKind)(x y:Int)(l m:List AV):eqCells (.int :: ks) (.int k x :: l) (.int k y :: m)=if x=y then eqCells ks l m else some false:=by
 by_cases h:x=y
 ·subst h; simp [eqCells,eqCell]
 ·have:(x == y)=false:=by simpa using h
  simp [eqCells,eqCell,h,this]
theorem q_str (ks:List CK)(x y:List UInt8)(l m:List AV):eqCells (.str :: ks) (.str x :: l) (.str y :: m)=if x=y then eqCells ks l m else some false:=by
 by_cases h:x=y
 ·subst h; simp [eqCells,eqCell]
 ·have:(x == y)=false:=by simpa using h
  simp [eqCells,eqCell,h,this]
theorem q_bool (ks:List CK)(x y:Bool)(l m:List AV):eqCells (.bool :: ks) (.bool x :: l) (.bool y :: m)=if x=y then eqCells ks l m else some false:=by
 cases x <;> cases y <;> simp [eqCells,eqCell]
theorem q_nil:eqCells [] [] []=some true:=rfl
theorem q_if (p:Prop)[Decidable p](b:Bool):(if p then some b else some false)=some (decide p && b):=by by_cases h:p <;> simp [h]
theorem b_eqS (ks:List CK)(a b:List AV):binVal .eql (.struct ks) (.agg a) (.agg b)=(eqCells ks a b).map .bool:=rfl
theorem b_neS (ks:List CK)(a b:List AV):binVal .neq (.struct ks) (.agg a) (.agg b)=(eqCells ks a b).map fun b=>.bool (!b):=rfl
theorem b_eqB (a b:Bool):binVal .eql .bool (.bool a) (.bool b)=some (.bool (a == b)):=rfl
theorem b_neB (a b:Bool):binVal .neq .bool (.bool a) (.bool b)=some (.bool (!(a == b))):=rfl
def gif (b:Bool)(v:AV):AV:=if b=true then v else .undef
theorem gif_t (v:AV):gif true v=v:=rfl
theorem guardK_pure (b:Bool)(v:AV)(hp:List AObj)(ef:Eff)(k:AV→List AObj→Eff→KR):guardK (some b) (some (v,hp,ef)) hp ef k=k (gif b v) hp ef:=by cases b <;> rfl
theorem ro_gif (b:Bool)(v:AV):AV.ro (gif b v)=gif b (AV.ro v):=by cases b <;> rfl
theorem pick_and (b c:Bool):pickV (.bool b) (gif b (.bool c)) (.bool false)=some (.bool (b && c)):=by cases b <;> rfl
theorem pick_or' (b c:Bool):pickV (.bool b) (.bool true) (gif (!b) (.bool c))=some (.bool (b || c)):=by cases b <;> rfl
theorem grp_and (b c:Bool)(hp:List AObj)(ef:Eff)(k:AV→List AObj→Eff→KR):grpK (.bool b) true (some (.bool c,hp,ef)) (some (.bool false)) hp ef k=k (.bool (b && c)) hp ef:=by cases b <;> rfl
theorem grp_or (b c:Bool)(hp:List AObj)(ef:Eff)(k:AV→List AObj→Eff→KR):grpK (.bool b) false (some (.bool c,hp,ef)) (some (.bool true)) hp ef k=k (.bool (b || c)) hp ef:=by cases b <;> rfl
theorem grp_tt (x:KR)(o:Option AV)(hp:List AObj)(ef:Eff)(k:AV→List AObj→Eff→KR):grpK (.bool true) true x o hp ef k=opt3 x k:=rfl
theorem grp_ft (x:KR)(v:AV)(hp:List AObj)(ef:Eff)(k:AV→List AObj→Eff→KR):grpK (.bool false) true x (some v) hp ef k=k v hp ef:=rfl
theorem grp_tf (x:KR)(v:AV)(hp:List AObj)(ef:Eff)(k:AV→List AObj→Eff→KR):grpK (.bool true) false x (some v) hp ef k=k v hp ef:=rfl
theorem grp_ff (x:KR)(o:Option AV)(hp:List AObj)(ef:Eff)(k:AV→List AObj→Eff→KR):grpK (.bool false) false x o hp ef k=opt3 x k:=rfl
@[congr] theorem grpK_congr {c c':AV}{w:Bool}{x x':KR}{o:Option AV}{hp:List AObj}{ef:Eff}{k:AV→List AObj→Eff→KR}(hc:c=c')(hx:x=x'):grpK c w x o hp ef k=grpK c' w x' o hp ef k:=by rw [hc,hx]
@[congr] theorem guardK_congr {b b':Bool}{x x':KR}{hp:List AObj}{ef:Eff}{k:AV→List AObj→Eff→KR}(hb:b=b')(hx:b'=true→x=x'):guardK (some b) x hp ef k=guardK (some b') x' hp ef k:=by
 subst hb
 cases b with
 | false=>rfl
 | true=>rw [hx rfl]
@[congr] theorem optK_congr {α:Type}{x x':Option α}{k:α→KR}(h:x=x'):optK x k=optK x' k:=by rw [h]
@[congr] theorem opt2_congr {α β:Type}{x x':Option (α×β)}{k:α→β→KR}(h:x=x'):opt2 x k=opt2 x' k:=by rw [h]
@[congr] theorem opt3_congr {α β γ:Type}{x x':Option (α×β×γ)}{k:α→β→γ→KR}(h:x=x'):opt3 x k=opt3 x' k:=by rw [h]
@[congr] theorem letK_congr {α:Type}{x x':α}{k:α→KR}(h:x=x'):letK x k=letK x' k:=by rw [h]
@[congr] theorem ifK_congr {x x':AV}{a b:KR}(h:x=x'):ifK x a b=ifK x' a b:=by rw [h]
theorem stV_last (bs n:Nat)(h:List AObj)(cs:List AV)(t:TypeId)(o:Nat)(v:AV)(ef:Eff)(h1:v.cells.length=n)(h2:o + n≤cs.length)(h3:v.laid=true)(h4:bs≤h.length) :
  stV bs n (.ptr h.length o) v (h ++ [.cells cs t]) ef=some (h ++ [.cells (splice cs o v.cells) t],ef):=by
 simp only [stV,last_get,h1,h2,h3,and_self,if_true,last_set,noteK]
 rw [if_neg (by omega)]
theorem ldc_get {hp:List AObj}{g:Nat}{cs:List AV}{t:TypeId}(h:hp[g]? = some (.cells cs t))(o:Nat):ldcVal hp (.ptr g o)=(cs[o]?).map AV.ro:=by
 simp only [ldcVal,h]
theorem i64_in {x:Int}(h1:-9223372036854775808≤x)(h2:x≤9223372036854775807):IntKind.i64.wrap x=x:=IntWalk.i64_in x ⟨h1,h2⟩
theorem wrap_nat (n:Nat)(h:n < 4611686018427387904):IntKind.i64.wrap ((n:Int) + 1)=((n + 1:Nat):Int):=by rw [i64_in (by omega) (by omega)]; omega
theorem ldc_ref (hp:List AObj)(c:AV)(l:List AV):ldcVal hp (.ref (c :: l))=some c.ro:=rfl
theorem fa_ref (o:Nat)(c:List AV):faVal o (.ref c)=some (.ref (c.drop o)):=rfl
theorem fa_ptr (o g p:Nat):faVal o (.ptr g p)=some (.ptr g (p + o)):=rfl
end Go.Proofs.YtcfjcimhjmpkiaaGreatDoor.Abs
end
end
