import Derived.Test.YtdchnngpjjcchaaDoorJ1
set_option linter.all false
section
section
namespace Go.Proofs.YtdchnngpjjcchaaDoor.Abs
open Go Go.RowKit
section
variable {G:Nat→Option (List AV)}{call:FuncId→List AV→List Zi→Option (AV×List Zi×Eff)}
theorem JK:∀ f args hp v hp' e,ZX call f args hp=some (v,hp',e)→hp'=hp∧e=none:=by
  intro f args hp v hp' e h
  unfold ZX at h
  split at h <;> first | (cases h; done) | skip
  split at h <;> first | (cases h; done) | skip
  split at h <;> first | (cases h; done) | skip
  cases h
  exact ⟨rfl,rfl⟩
theorem ZaY {f:FuncId}{args:List AV}{hp:List Zi}{v:AV}{hp':List Zi}{e:Eff}(h:ZX call f args hp=some (v,hp',e))(h2:List Zi):ZX call f args h2=some (v,h2,none):=by
  unfold ZX at h ⊢
  split at h <;> first | (cases h; done) | skip
  rename_i hb
  rw [if_pos hb]
  split at h <;> first | (cases h; done) | skip
  rename_i hc
  split at h <;> first | (cases h; done) | skip
  cases h
  rfl
def Pfx (h h':List Zi):Prop:=∀ (g:Nat) (o:Zi),h[g]? = some o→h'[g]? = some o
theorem Pfx.take (n:Nat)(h:List Zi):Pfx (h.take n) h:=fun g o hg=>by
  rw [List.getElem?_take] at hg
  split at hg
  · exact hg
  · cases hg
theorem Pfx.look {h h':List Zi}(p:Pfx h h'):Qo h h':=.of_get fun g cs t hg=>⟨cs,t,p g _ hg,rfl⟩
theorem Pfx.rows {h h':List Zi}(p:Pfx h h'){x:AV}{r:Nat×List (List AV)}(hx:rowsOf h x=some r):rowsOf h' x=some r:=by
  unfold rowsOf at hx ⊢
  split at hx <;> first | exact hx | (cases hx; done) | skip
  split at hx <;> first | (cases hx; done) | skip
  rename_i hg
  rw [p _ _ hg]
  exact hx
theorem Pfx.len {h h':List Zi}(p:Pfx h h'){sh:Fe}{x v:AV}(hx:ZR h sh x=some v):ZR h' sh x=some v:=by
  unfold ZR at hx ⊢
  split at hx <;> first | exact hx | (cases hx; done) | skip
  split at hx <;> first | (cases hx; done) | skip
  rename_i hg
  rw [p _ _ hg]
  exact hx
theorem Pfx.conv {h h':List Zi}(p:Pfx h h'){c:Conv}{x v:AV}(hx:ZM h c x=some v):ZM h' c x=some v:=by
  unfold ZM at hx ⊢
  split at hx <;> first | exact hx | (cases hx; done) | skip
  split at hx <;> first | (cases hx; done) | skip
  rename_i hg
  rw [p.rows hg]
  exact hx
theorem Zfv {ao:AOp}{k:HK}{s:Zc}{v:AV}{s':Zc}(hk:hkind ao=some k)(hk':k=.free∨k=.look∨k=.read)(h:Zd G (ZX call) s ao=some (v,s')){h2:List Zi}(p:Pfx s.hp h2) :
    s'.hp=s.hp∧s'.ef=s.ef∧s'.bs=s.bs∧Zd G (ZX call) { s with hp:=h2 } ao=some (v,{ s' with hp:=h2 }):=by
  have S:=Zat JK hk h
  have hst:s'.hp=s.hp∧s'.ef=s.ef:=S.still (by rcases hk' with rfl | rfl | rfl <;> trivial)
  refine ⟨hst.1,hst.2,S.bs,?_⟩
  have fin:Zd G (ZX call) { s with hp:=h2 } ao=some (v,⟨tkF ao s.sl,h2,s.ef,s.bs⟩)→Zd G (ZX call) { s with hp:=h2 } ao=some (v,{ s' with hp:=h2 }):=fun e=>by
    rw [e,← S.sl,← hst.2,← S.bs]
  refine fin ?_
  rcases hk' with rfl | rfl | rfl
  · exact S.free rfl { s with hp:=h2 } (fun _ _=>rfl)
  · exact S.look rfl { s with hp:=h2 } (fun _ _=>rfl) p.look
  · cases ao <;> first | (simp only [hkind,Option.some.injEq,reduceCtorEq] at hk; done) | skip
    case lit e k parts=>cases parts <;> simp [hkind] at hk
    case len sh x =>
      simp only [Zd] at h ⊢
      split at h <;> first | (cases h; done) | skip
      rename_i y hy
      obtain ⟨h1,rfl⟩:=WC h
      simp only [hy,p.len h1,Option.map_some]
      rfl
    case app k b t x =>
      simp only [Zd] at h ⊢
      split at h <;> first | (cases h; done) | skip
      rename_i k' r y h1 h2
      split at h <;> first | (cases h; done) | skip
      rename_i k2 r2 h3
      split at h <;> first | (cases h; done) | skip
      rename_i hc
      cases h
      simp only [h1,h2,p.rows h3]
      rw [if_pos hc]
      rfl
    case appn k b x =>
      simp only [Zd] at h ⊢
      split at h <;> first | (cases h; done) | skip
      rename_i y h2
      split at h <;> first | (cases h; done) | skip
      rename_i k2 r2 h3
      split at h <;> first | (cases h; done) | skip
      rename_i hc
      cases h
      simp only [h2,p.rows h3]
      rw [if_pos hc]
      rfl
    case conv c x =>
      simp only [Zd] at h ⊢
      split at h <;> first | (cases h; done) | skip
      rename_i y hy
      obtain ⟨h1,rfl⟩:=WC h
      simp only [hy,p.conv h1,Option.map_some]
      rfl
    case call f args =>
      simp only [Zd] at h ⊢
      split at h <;> first | (cases h; done) | skip
      rename_i g first caps vs sl hf hv
      split at h <;> first | (cases h; done) | skip
      rename_i u hp' e hc
      obtain ⟨rfl,rfl⟩:=JK _ _ _ _ _ _ hc
      cases h
      have hsl:=S.sl
      simp only at hsl
      simp only [hf,hv,ZaY hc h2,Zc.after]
      rw [hsl]
variable (G call)(base:Nat)(al:List Nat)
def Ih (o:Yb)(s:Zc):Option Zc :=
  match Zv G (ZX call) o { s with hp:=s.hp.take base } with
  | some s'=>some { s' with hp:=s.hp }
  | none=>none
def CS:Option Zi→Bool
  | some .dead=>true
  | _=>false
def Q3 (r:Nat)(o:Yb)(s:Zc):Option Zc :=
  if CS s.hp[base + r]? = true∧s.bs≤base then
    match o.op with
    | .mk t cells=>some (({ s with hp:=s.hp.set (base + r) (.cells cells t) }:Zc).put o.dst (.ptr (base + r) 0))
    | .box t n x=>match opnd G s.sl x with
      | some v=>if v.cells.length=n∧v.laid=true then some (({ s with hp:=s.hp.set (base + r) (.cells v.cells t) }:Zc).put o.dst (.ptr (base + r) 0)) else none
      | none=>none
    | _=>none
  else none
def VS (r:Nat)(o:Yb)(s:Zc):Option Zc :=
  match setSlot o with
  | some t=>match s.sl[t]? with
    | some (.ptr g 0)=>if g=base + r∧s.bs≤base then Zv G (ZX call) o s else none
    | _=>none
  | none=>none
def XP (o:Yb)(s:Zc):Option Zc :=
  match MN al o with
  | .pre=>Ih G call base o s
  | .at r=>match Xj o with
    | true=>Q3 G base r o s
    | false=>VS G call base r o s
  | .any=>Zv G (ZX call) o s
def Vo:List Yb→Zc→Option Zc
  | [],s=>some s
  | o :: l,s=>match XP G call base al o s with
    | some s'=>Vo l s'
    | none=>none
variable {G call base al}
structure Zgd (G:Nat→Option (List AV))(call:FuncId→List AV→List Zi→Option (AV×List Zi×Eff))(base:Nat)(al:List Nat)(o:Yb)(s s':Zc)(f:List AV→List AV):Prop where
  loc:Hu (Qk o) f
  sl:s'.sl=f s.sl
  bs:s'.bs=s.bs
  ef:s'.ef=s.ef
  pre:MN al o=.pre→s'.hp=s.hp∧∀ t:Zc,Agree (WB o) s.sl t.sl→t.hp.take base=s.hp.take base→XP G call base al o t=some ⟨f t.sl,t.hp,t.ef,t.bs⟩
  at_:∀ r,MN al o=.at r→∃ x,s'.hp=s.hp.set (base + r) x∧∀ t:Zc,Agree (WB o) s.sl t.sl→t.hp[base + r]? = s.hp[base + r]?→t.bs=s.bs→XP G call base al o t=some ⟨f t.sl,t.hp.set (base + r) x,t.ef,t.bs⟩
theorem Ik {o:Yb}(h:BG o=true):∃ k,hkind o.op=some k∧(k=.free∨k=.look∨k=.read):=by
  unfold BG at h
  split at h <;> first | (cases h; done) | skip
  · exact ⟨_,by assumption,.inl rfl⟩
  · exact ⟨_,by assumption,.inr (.inl rfl)⟩
  · exact ⟨_,by assumption,.inr (.inr rfl)⟩
theorem Di {o:Yb}(h:MN al o=.pre):BG o=true:=by
  unfold MN at h
  split at h
  · split at h
    · split at h <;> cases h
    · cases h
  · split at h
    · split at h <;> cases h
    · split at h
      · assumption
      · cases h
theorem ZdU {o:Yb}{r:Nat}(h:MN al o=.at r):(Xj o=true∧∃ d,o.dst=some d∧idx d al=some r)∨(Xj o=false∧∃ t,setSlot o=some t∧idx t al=some r):=by
  unfold MN at h
  split at h
  · rename_i h1
    split at h
    · split at h <;> cases h
      exact .inl ⟨h1,_,by assumption,by assumption⟩
    · cases h
  · rename_i h1
    split at h
    · split at h <;> cases h
      exact .inr ⟨h1,_,by assumption,by assumption⟩
    · split at h <;> cases h
theorem EK {o:Yb}{s s':Zc}(hc:MN al o≠.any)(h:XP G call base al o s=some s'):∃ f,Zgd G call base al o s s' f:=by
  cases hr:MN al o with
  | any=>exact absurd hr hc
  | pre =>
    obtain ⟨k,hk,hk'⟩:=Ik (Di hr)
    have hev:∀ t,XP G call base al o t=Ih G call base o t:=fun t=>by unfold XP; rw [hr]
    rw [hev] at h
    unfold Ih at h
    split at h <;> first | (cases h; done) | skip
    rename_i s1 h1
    obtain rfl:=Option.some.inj h
    obtain ⟨f,S⟩:=MB JK hk h1
    have k1:=S.still (by rcases hk' with rfl | rfl | rfl <;> trivial)
    have k2:=S.read (by rcases hk' with rfl | rfl | rfl <;> trivial)
    refine ⟨f,S.loc,S.sl,S.bs,k1.2,fun _=>⟨rfl,fun t ht he=>?_⟩,fun r e=>by rw [hr] at e; cases e⟩
    rw [hev]
    unfold Ih
    rw [k2 { t with hp:=t.hp.take base } ht he]
  | «at» r =>
    have hev:∀ t,XP G call base al o t=(match Xj o with | true=>Q3 G base r o t | false=>VS G call base r o t):=fun t=>by unfold XP; rw [hr]
    rw [hev] at h
    cases hal:Xj o with
    | true =>
      rw [hal] at h
      replace h:Q3 G base r o s=some s':=h
      have hg:o.guard=none:=by
        unfold Xj at hal
        split at hal <;> first | (cases hal; done) | assumption
      unfold Q3 at h
      split at h <;> first | (cases h; done) | skip
      rename_i hd
      split at h <;> first | (cases h; done) | skip
      · rename_i t cells hop
        obtain rfl:=Option.some.inj h
        refine ⟨Za2 o.dst (.ptr (base + r) 0),⟨?_,by rw [Yi],by rw [Yi],by rw [Yi],fun e=>(by rw [hr] at e; cases e),fun q e=>?_⟩⟩
        · have:=(Hu.id (U1 o.op)).comp (UJ o.dst (.ptr (base + r) 0))
          exact this
        · rw [hr] at e
          cases e
          refine ⟨.cells cells t,by rw [Yi],fun t' ht he hb=>?_⟩
          rw [hev,hal]
          show Q3 G base r o t'=_
          unfold Q3
          rw [he,hb,if_pos hd,hop]
          simp only [Yi,hb]
      · rename_i t n x hop
        split at h <;> first | (cases h; done) | skip
        rename_i v hv
        split at h <;> first | (cases h; done) | skip
        rename_i hn
        obtain rfl:=Option.some.inj h
        refine ⟨Za2 o.dst (.ptr (base + r) 0),⟨?_,by rw [Yi],by rw [Yi],by rw [Yi],fun e=>(by rw [hr] at e; cases e),fun q e=>?_⟩⟩
        · have:=(Hu.id (U1 o.op)).comp (UJ o.dst (.ptr (base + r) 0))
          exact this
        · rw [hr] at e
          cases e
          refine ⟨.cells v.cells t,by rw [Yi],fun t' ht he hb=>?_⟩
          have hx:opnd G t'.sl x=some v:=by
            rw [← hv]
            refine (Zn (G := G) (x := x) ?_).symm
            exact fun i hi=>ht i (List.mem_append_right _ (by rw [hop]; exact hi))
          rw [hev,hal]
          show Q3 G base r o t'=_
          unfold Q3
          rw [he,hb,if_pos hd,hop]
          simp only [hx,Yi,hb]
          rw [if_pos hn]
    | false =>
      rw [hal] at h
      replace h:VS G call base r o s=some s':=h
      have hev':∀ t,XP G call base al o t=VS G call base r o t:=fun t=>by rw [hev,hal]
      unfold VS at h
      split at h <;> first | (cases h; done) | skip
      rename_i q hq
      split at h <;> first | (cases h; done) | skip
      rename_i g hs
      split at h <;> first | (cases h; done) | skip
      rename_i hg
      obtain ⟨rfl,hbs⟩:=hg
      have hgd:o.guard=none:=by
        unfold setSlot at hq
        split at hq <;> first | (cases hq; done) | assumption
      have hw:∀ t,YP t o.guard=some true:=fun t=>by rw [hgd]; rfl
      simp only [Zv,hw] at h
      split at h <;> first | (cases h; done) | skip
      rename_i v s1 he
      obtain rfl:=Option.some.inj h
      have hpt:∀ t:Zc,t.sl[q]? = s.sl[q]?→opnd G t.sl (.tmp q)=some (.ptr (base + r) 0):=fun t e=>by simp only [opnd,e,hs]; rfl
      have hnote:∀ t:Zc,t.bs=s.bs→t.note (base + r) 0=t.ef:=fun t e=>by
        unfold Zc.note
        rw [if_neg (by omega)]
      unfold setSlot at hq
      split at hq <;> first | (cases hq; done) | skip
      · rename_i n q' x hop _
        obtain rfl:=Option.some.inj hq
        rw [hop] at he
        simp only [Zd,hpt s rfl] at he
        split at he <;> first | (cases he; done) | skip
        rename_i g0 o0 u h1 h2
        cases h1
        split at he <;> first | (cases he; done) | skip
        rename_i cs ty hcs
        split at he <;> first | (cases he; done) | skip
        rename_i hn
        cases he
        refine ⟨Za2 o.dst .undef,⟨?_,by rw [Yi],by rw [Yi],by rw [Yi]; exact hnote s rfl,fun e=>(by rw [hr] at e; cases e),fun q2 e=>?_⟩⟩
        · have:=(Hu.id (U1 o.op)).comp (UJ o.dst .undef)
          exact this
        · rw [hr] at e
          cases e
          refine ⟨.cells (splice cs 0 u.cells) ty,by rw [Yi],fun t' ht he hb=>?_⟩
          have a0:Agree (oR (.tmp q') ++ oR x) s.sl t'.sl:=fun i hi=>ht i (List.mem_append_right _ (by rw [hop]; exact hi))
          have e1:=a0.left q' (.head _)
          rw [hev']
          unfold VS setSlot
          rw [hop,hgd]
          simp only
          rw [← e1,hs]
          simp only
          rw [if_pos ⟨trivial,by omega⟩]
          simp only [Zv,hw]
          rw [hop]
          simp only [Zd,hpt t' e1.symm,← Zn (G := G) (x := x) a0.right,h2,he,hcs]
          rw [if_pos hn]
          simp only [Yi,hnote t' hb]
      · rename_i q' x hop _
        obtain rfl:=Option.some.inj hq
        rw [hop] at he
        simp only [Zd,hpt s rfl] at he
        split at he <;> first | (cases he; done) | skip
        rename_i g0 o0 u h1 h2
        cases h1
        split at he <;> first | (cases he; done) | skip
        rename_i cs ty hcs
        split at he <;> first | (cases he; done) | skip
        rename_i hn
        cases he
        have hto:U1 o.op=[x]:=by rw [hop]; rfl
        refine ⟨fun l=>Za2 o.dst .undef (l.modify x AV.ro),⟨?_,by rw [Yi]; rfl,by rw [Yi]; rfl,by rw [Yi]; exact hnote s rfl,fun e=>(by rw [hr] at e; cases e),fun q2 e=>?_⟩⟩
        · have:=(Hu.mod x).comp (UJ o.dst .undef)
          unfold Qk
          rw [hto]
          exact this
        · rw [hr] at e
          cases e
          refine ⟨.cells (cs.set 0 u) ty,by rw [Yi],fun t' ht he hb=>?_⟩
          have a0:Agree (x :: oR (.tmp q')) s.sl t'.sl:=fun i hi=>ht i (List.mem_append_right _ (by rw [hop]; exact hi))
          have e1:=a0 q' (.tail _ (.head _))
          have e2:=a0 x (.head _)
          rw [hev']
          unfold VS setSlot
          rw [hop,hgd]
          simp only
          rw [← e1,hs]
          simp only
          rw [if_pos ⟨trivial,by omega⟩]
          simp only [Zv,hw]
          rw [hop]
          simp only [Zd,hpt t' e1.symm,← e2,h2,he,hcs]
          rw [if_pos hn]
          simp only [Yi,hnote t' hb]
          rfl
theorem ZgK {o1 o2:Yb}{s s1 s2:Zc}(hc:Aa al o1 o2=true)(h1:XP G call base al o1 s=some s1)(h2:XP G call base al o2 s1=some s2) :
    ∃ u,XP G call base al o2 s=some u∧XP G call base al o1 u=some s2:=by
  simp only [Aa,RH,Bool.and_eq_true] at hc
  obtain ⟨hk,⟨ha,hb⟩,hd⟩:=hc
  have n1:MN al o1≠.any:=fun e=>by rw [e] at hk; cases hk
  have n2:MN al o2≠.any:=fun e=>by rw [e] at hk; cases h:MN al o1 <;> rw [h] at hk <;> cases hk
  obtain ⟨f1,S1⟩:=EK n1 h1
  obtain ⟨f2,S2⟩:=EK n2 h2
  have A2:Agree (WB o2) s1.sl s.sl:=by rw [S1.sl]; exact (Agree.of_loc S1.loc ha s.sl).symm
  have A1:∀ u:Zc,u.sl=f2 s.sl→Agree (WB o1) s.sl u.sl:=fun u hu=>by rw [hu]; exact Agree.of_loc S2.loc hd s.sl
  have fin:∀ (u:Zc) (hp:List Zi),u.sl=f2 s.sl→u.bs=s.bs→u.ef=s.ef→hp=s2.hp→XP G call base al o1 u=some ⟨f1 u.sl,hp,u.ef,u.bs⟩→XP G call base al o1 u=some s2:=fun u hp e1 e2 e3 e4 h=>by
    rw [h]
    have q1:f1 u.sl=s2.sl:=by rw [e1,S2.sl,S1.sl]; exact S1.loc.swap S2.loc hb s.sl
    have q2:u.bs=s2.bs:=by rw [e2,S2.bs,S1.bs]
    have q3:u.ef=s2.ef:=by rw [e3,S2.ef,S1.ef]
    rw [q1,q2,q3,e4]
  have tk:∀ (h:List Zi) (r:Nat) (x:Zi),(h.set (base + r) x).take base=h.take base:=fun h r x=>by
    rw [List.take_set_of_le (by omega)]
  cases r1:MN al o1 with
  | any=>exact absurd r1 n1
  | pre =>
    obtain ⟨p1,p2⟩:=S1.pre r1
    cases r2:MN al o2 with
    | any=>exact absurd r2 n2
    | pre =>
      obtain ⟨p3,p4⟩:=S2.pre r2
      exact ⟨_,p4 s A2 (by rw [p1]),fin _ _ rfl rfl rfl (by rw [p3,p1]) (p2 _ (A1 _ rfl) rfl)⟩
    | «at» r =>
      obtain ⟨x,p3,p4⟩:=S2.at_ r r2
      exact ⟨_,p4 s A2 (by rw [p1]) S1.bs.symm,fin _ _ rfl rfl rfl (by rw [p3,p1]) (p2 _ (A1 _ rfl) (tk _ _ _))⟩
  | «at» r =>
    obtain ⟨x,p1,p2⟩:=S1.at_ r r1
    cases r2:MN al o2 with
    | any=>exact absurd r2 n2
    | pre =>
      obtain ⟨p3,p4⟩:=S2.pre r2
      exact ⟨_,p4 s A2 (by rw [p1,tk]),fin _ _ rfl rfl rfl (by rw [p3,p1]) (p2 _ (A1 _ rfl) rfl rfl)⟩
    | «at» q =>
      rw [r1,r2] at hk
      have hne:r≠q:=by simpa using hk
      obtain ⟨y,p3,p4⟩:=S2.at_ q r2
      have o1':∀ (h:List Zi) (z:Zi),(h.set (base + r) z)[base + q]? = h[base + q]?:=fun h z=>List.getElem?_set_ne (by omega)
      have o2':∀ (h:List Zi) (z:Zi),(h.set (base + q) z)[base + r]? = h[base + r]?:=fun h z=>List.getElem?_set_ne (by omega)
      exact ⟨_,p4 s A2 (by rw [p1,o1']) S1.bs.symm,fin _ _ rfl rfl rfl (by rw [p3,p1]; exact List.set_comm _ _ (by omega)) (p2 _ (A1 _ rfl) (o2' _ _) rfl)⟩
theorem Fz {o:Yb}{l2:List Yb}{sF:Zc}:∀ {l1:List Yb} {s:Zc},(∀ x ∈ l1,Aa al x o=true)→Vo G call base al (l1 ++ o :: l2) s=some sF →
    ∃ u,XP G call base al o s=some u∧Vo G call base al (l1 ++ l2) u=some sF
  | [],s,_,h=>by
    simp only [List.nil_append,Vo] at h
    split at h <;> first | (cases h; done) | skip
    rename_i u hu
    exact ⟨u,hu,h⟩
  | x :: l1,s,hx,h=>by
    simp only [List.cons_append,Vo] at h
    split at h <;> first | (cases h; done) | skip
    rename_i s1 h1
    obtain ⟨u1,h2,h3⟩:=Fz (fun y hy=>hx y (List.mem_cons_of_mem _ hy)) h
    obtain ⟨u,h4,h5⟩:=ZgK (hx x (List.mem_cons_self ..)) h1 h2
    refine ⟨u,h4,?_⟩
    simp only [List.cons_append,Vo,h5]
    exact h3
end
section
variable {G:Nat→Option (List AV)}{call:FuncId→List AV→List Zi→Option (AV×List Zi×Eff)}{base:Nat}{al:List Nat}
theorem BF:∀ {l:List Nat} {k t:Nat},nodupB l=true→l[k]? = some t→idx t l=some k
  | [],k,t,_,h=>by simp at h
  | u :: l,k,t,hn,h=>by
    simp only [nodupB,Bool.and_eq_true,Bool.not_eq_true'] at hn
    unfold idx
    cases k with
    | zero=>simp only [List.getElem?_cons_zero,Option.some.injEq] at h; rw [if_pos h]
    | succ k =>
      simp only [List.getElem?_cons_succ] at h
      have:u≠t:=fun e=>by
        subst e
        have:=List.mem_of_getElem? h
        simp [this] at hn
      rw [if_neg this,BF hn.2 h]
      rfl
theorem Cm:∀ {l:List Nat} {k t:Nat},idx t l=some k→l[k]? = some t
  | [],k,t,h=>by cases h
  | u :: l,k,t,h=>by
    unfold idx at h
    split at h
    · rename_i e
      cases h
      simp [e]
    · obtain ⟨q,hq,rfl⟩:=Option.map_eq_some_iff.1 h
      simpa using Cm hq
def Xi (n:Nat):List Zi:=List.replicate n .dead
theorem Fg {l m:List Nat}(h:apartB l m=true){t:Nat}(ht:t ∈ m):t ∉ l:=fun hl=>by
  have:=List.all_eq_true.1 h t hl
  simp [ht] at this
theorem ZdM {call:FuncId→List AV→List Zi→Option (AV×List Zi×Eff)}(hq:∀ f args hp v hp' e,call f args hp=some (v,hp',e)→hp'=hp∧e=none){o:Yb}{k:HK}{s s':Zc}(hk:hkind o.op=some k)(h:Zv G call o s=some s'):s'.bs=s.bs∧∀ t,t ∉ Qk o→s'.sl[t]? = s.sl[t]?:=by
  obtain ⟨f,S⟩:=MB hq hk h
  exact ⟨S.bs,fun t ht=>by rw [S.sl,S.loc.out _ _ ht]⟩
theorem ZdY {call:FuncId→List AV→List Zi→Option (AV×List Zi×Eff)}{o:Yb}{s s':Zc}(hk:hkind o.op=some .set)(h:Zv G call o s=some s'):s'.hp.length=s.hp.length:=by
  simp only [Zv] at h
  split at h <;> first | (cases h; done) | skip
  · split at h <;> first | (cases h; done) | skip
    rename_i v s1 he
    obtain rfl:=Option.some.inj h
    rw [Yi]
    show s1.hp.length=_
    cases hop:o.op <;> rw [hop] at hk he <;> first | (simp only [hkind,Option.some.injEq,reduceCtorEq] at hk; done) | skip
    case lit e k parts=>cases parts <;> simp [hkind] at hk
    case call f args=>simp only [hkind] at hk; split at hk <;> simp at hk
    all_goals
      simp only [Zd] at he
      repeat' split at he
      all_goals first
        | (cases he; done)
        | (cases he; simp [Zc.let_])
  · obtain rfl:=Option.some.inj h
    rw [Yi]
theorem sim (hnd:nodupB al=true):∀ {l:List Yb} {k:Nat} {s sF:Zc},Rj al k l=true→k≤al.length→ZH G (ZX call) l s=some sF→s.bs≤base→s.hp.length=base + k→(∀ (r t:Nat) (v:AV),r < k→al[r]? = some t→s.sl[t]? = some v→v=.ptr (base + r) 0) →
    Vo G call base al l { s with hp:=s.hp ++ Xi (al.length - k) } = some sF
  | [],k,s,sF,ho,hk,h,hbs,hl,hs=>by
    simp only [Rj,beq_iff_eq] at ho
    obtain rfl:=Option.some.inj h
    subst ho
    simp only [Vo,Nat.sub_self,Xi,List.replicate_zero,List.append_nil]
  | o :: l,k,s,sF,ho,hk,h,hbs,hl,hs=>by
    simp only [ZH] at h
    split at h <;> first | (cases h; done) | skip
    rename_i s1 h1
    simp only [Rj] at ho
    cases hal:Xj o with
    | true =>
      rw [hal] at ho
      simp only [Bool.and_eq_true,beq_iff_eq] at ho
      obtain ⟨hd,ho⟩:=ho
      have hg:o.guard=none:=by
        unfold Xj at hal
        split at hal <;> first | (cases hal; done) | assumption
      obtain ⟨t,ht⟩:∃ t,o.dst=some t:=by
        unfold Xj at hal
        split at hal <;> first | (cases hal; done) | exact ⟨_,by assumption⟩
      rw [ht] at hd
      have hkl:k < al.length:=(List.getElem?_eq_some_iff.1 hd.symm).1
      have hcls:MN al o=.at k:=by
        unfold MN
        rw [hal,ht]
        simp only
        rw [BF hnd hd.symm]
      have hdead:({ s with hp:=s.hp ++ Xi (al.length - k) }:Zc).hp[base + k]? = some .dead:=by
        show (s.hp ++ Xi (al.length - k))[base + k]? = _
        rw [List.getElem?_append_right (by omega),hl,Nat.sub_self]
        unfold Xi
        rw [List.getElem?_replicate,if_pos (by omega)]
      have hset:∀ x:Zi,(s.hp ++ Xi (al.length - k)).set (base + k) x=(s.hp ++ [x]) ++ Xi (al.length - (k + 1)):=fun x=>by
        rw [List.set_append_right _ _ (by omega),hl,Nat.sub_self]
        obtain ⟨m,hm⟩:∃ m,al.length - k=m + 1:=⟨al.length - k - 1,by omega⟩
        have:al.length - (k + 1)=m:=by omega
        rw [hm,this]
        simp [Xi,List.replicate_succ]
      have key:∀ x:Zi,s1=({ s with hp:=s.hp ++ [x] }:Zc).put o.dst (.ptr s.hp.length 0)→XP G call base al o { s with hp:=s.hp ++ Xi (al.length - k) } = some (({ s with hp:=(s.hp ++ Xi (al.length - k)).set (base + k) x }:Zc).put o.dst (.ptr (base + k) 0)) →
          Vo G call base al (o :: l) { s with hp:=s.hp ++ Xi (al.length - k) } = some sF:=fun x e1 e2=>by
        simp only [Vo]
        rw [e2]
        have:=sim hnd (l := l) (k := k + 1) (s := s1) ho hkl h (by rw [e1,ht]; exact hbs) (by rw [e1,ht]; simp [Zc.put,hl]; omega) (fun r q v hr hq hv=>by
          rw [e1,ht] at hv
          simp only [Zc.put] at hv
          by_cases e:r=k
          · subst e
            rw [← hd] at hq
            cases hq
            rw [List.getElem?_set] at hv
            split at hv
            · split at hv
              · rw [← Option.some.inj hv,hl]
              · cases hv
            · rename_i ne; exact absurd rfl ne
          · refine hs r q v (by omega) hq ?_
            rw [List.getElem?_set_ne] at hv
            · exact hv
            · intro e'
              subst e'
              have i1:=BF hnd hq
              rw [BF hnd hd.symm] at i1
              cases i1
              exact e rfl)
        rw [← this,e1,ht]
        simp only [Zc.put,hset,hl]
      simp only [Zv,hg,YP] at h1
      split at h1 <;> first | (cases h1; done) | skip
      rename_i v s2 hev
      obtain rfl:=Option.some.inj h1
      have hR:XP G call base al o { s with hp:=s.hp ++ Xi (al.length - k) } = Q3 G base k o { s with hp:=s.hp ++ Xi (al.length - k) }:=by
        unfold XP
        rw [hcls,hal]
      have hif:CS ({ s with hp:=s.hp ++ Xi (al.length - k) }:Zc).hp[base + k]? = true∧({ s with hp:=s.hp ++ Xi (al.length - k) }:Zc).bs≤base:=⟨by rw [hdead]; rfl,hbs⟩
      cases hop:o.op with
      | mk t' cells =>
        rw [hop] at hev
        cases hev
        refine key _ rfl ?_
        rw [hR]
        unfold Q3
        rw [if_pos hif,hop]
      | box t' n x =>
        rw [hop] at hev
        simp only [Zd] at hev
        split at hev <;> first | (cases hev; done) | skip
        rename_i u hu
        split at hev <;> first | (cases hev; done) | skip
        rename_i hn
        cases hev
        refine key _ rfl ?_
        rw [hR]
        unfold Q3
        rw [if_pos hif,hop]
        simp only [hu]
        rw [if_pos hn]
      | _=>unfold Xj at hal; rw [hop] at hal; simp at hal
    | false =>
      rw [hal] at ho
      simp only [Bool.and_eq_true,Bool.or_eq_true] at ho
      obtain ⟨⟨ho1,ho2⟩,ho3⟩:=ho
      have go:∀ q:HK,hkind o.op=some q→s1.hp.length=s.hp.length→XP G call base al o { s with hp:=s.hp ++ Xi (al.length - k) } = some { s1 with hp:=s1.hp ++ Xi (al.length - k) }→Vo G call base al (o :: l) { s with hp:=s.hp ++ Xi (al.length - k) } = some sF:=fun q hq hlen e=>by
        obtain ⟨b1,b2⟩:=ZdM JK hq h1
        simp only [Vo]
        rw [e]
        refine sim hnd ho3 hk h (by rw [b1]; exact hbs) (by rw [hlen]; exact hl) fun r t v hr ht hv=>hs r t v hr ht ?_
        rw [← b2 t (Fg ho2 (List.mem_of_getElem? ht))]
        exact hv
      have pre:∀ q:HK,hkind o.op=some q→(q=.free∨q=.look∨q=.read)→setSlot o=none→(q=.free∨k=0)→Vo G call base al (o :: l) { s with hp:=s.hp ++ Xi (al.length - k) } = some sF:=fun q hq hq' hns hk0=>by
        obtain ⟨f,S⟩:=MB JK hq h1
        have st:=S.still (by rcases hq' with rfl | rfl | rfl <;> trivial)
        have hcls:MN al o=.pre:=by
          unfold MN
          rw [hal]
          simp only
          rw [hns]
          have:BG o=true:=by unfold BG; rw [hq]; rcases hq' with rfl | rfl | rfl <;> rfl
          simp [this]
        refine go q hq (by rw [st.1]) ?_
        unfold XP
        rw [hcls]
        simp only
        unfold Ih
        have hrun:Zv G (ZX call) o { s with hp:=(s.hp ++ Xi (al.length - k)).take base } = some ⟨f s.sl,(s.hp ++ Xi (al.length - k)).take base,s.ef,s.bs⟩:=by
          rcases hk0 with rfl | rfl
          · exact S.free rfl { s with hp:=(s.hp ++ Xi (al.length - k)).take base } (fun _ _=>rfl)
          · have:(s.hp ++ Xi (al.length - 0)).take base=s.hp:=by
              rw [List.take_append_of_le_length (by omega),List.take_of_length_le (by omega)]
            rw [this]
            exact S.read (by rcases hq' with rfl | rfl | rfl <;> trivial) s (fun _ _=>rfl) rfl
        have e0:Zv G (ZX call) o { ({ s with hp:=s.hp ++ Xi (al.length - k) }:Zc) with hp:=({ s with hp:=s.hp ++ Xi (al.length - k) }:Zc).hp.take base } = some ⟨f s.sl,(s.hp ++ Xi (al.length - k)).take base,s.ef,s.bs⟩:=hrun
        rw [e0]
        simp only
        rw [st.1,← S.sl,← st.2,← S.bs]
      rcases ho1 with (ho1 | ho1) | ho1
      · have hq:hkind o.op=some .free:=by
          unfold ZcD at ho1
          split at ho1
          · assumption
          · cases ho1
        refine pre .free hq (.inl rfl) ?_ (.inl rfl)
        unfold setSlot
        split <;> first | rfl | (rename_i hop _; rw [hop] at hq; cases hq)
      · simp only [beq_iff_eq] at ho1
        obtain ⟨q,hq,hq'⟩:=Ik ho1.1
        refine pre q hq hq' ?_ (.inr ho1.2)
        unfold setSlot
        split <;> first | rfl | (rename_i hop _; rw [hop] at hq; cases hq; rcases hq' with h | h | h <;> cases h)
      · simp only [beq_iff_eq] at ho1
        obtain ⟨ho1,rfl⟩:=ho1
        have hq:hkind o.op=some .set:=by
          unfold ZeQ at ho1
          split at ho1
          · assumption
          · cases ho1
        have hnp:BG o=false:=by unfold BG; rw [hq]
        refine go .set hq (ZdY hq h1) ?_
        have e0:∀ x:Zc,({ x with hp:=x.hp ++ Xi (al.length - al.length) }:Zc)=x:=fun x=>by simp [Xi]
        rw [e0 s,e0 s1]
        unfold XP
        cases hc:MN al o with
        | any=>exact h1
        | pre=>have:=Di hc; rw [hnp] at this; cases this
        | «at» r =>
          simp only
          rw [hal]
          rcases ZdU hc with ⟨e,_⟩ | ⟨_,t,ht,hr⟩
          · rw [hal] at e; cases e
          · have hget:=Cm hr
            have hrl:r < al.length:=(List.getElem?_eq_some_iff.1 hget).1
            obtain ⟨v,hv⟩:∃ v,s.sl[t]? = some v:=by
              cases hv:s.sl[t]? with
              | some v=>exact ⟨v,rfl⟩
              | none =>
                exfalso
                have hnone:opnd G s.sl (.tmp t)=none:=by simp only [opnd,hv]; rfl
                simp only [Zv] at h1
                unfold setSlot at ht
                split at ht <;> first | (cases ht; done) | skip
                all_goals
                  rename_i hop hgd
                  obtain rfl:=Option.some.inj ht
                  rw [hgd] at h1
                  simp only [YP] at h1
                  rw [hop] at h1
                  simp only [Zd,hnone] at h1
                  cases h1
            have hp:=hs r t v hrl hget hv
            subst hp
            show VS G call base r o s=some s1
            unfold VS
            rw [ht]
            simp only
            rw [hv]
            simp only
            rw [if_pos ⟨trivial,hbs⟩]
            exact h1
end
section
variable {P:Program}{G:Nat→Option (List AV)}{call:FuncId→List AV→List Zi→Option (AV×List Zi×Eff)}{E:Entry}{s s':Zc}{Γ:Zq}{a:Act}{w:World}{hand:Nat→Bool}{draw:Bool}{o:Oper}{base:Nat}{al:List Nat}
theorem PG {ao:AOp}(h:(cOp P hand draw o).getD .bad=ao)(hb:ao≠.bad):cOp P hand draw o=some ao:=by
  cases hc:cOp P hand draw o with
  | none=>rw [hc] at h; exact absurd h.symm hb
  | some x=>rw [hc] at h; exact congrArg some h
theorem Ze3 {t:TypeId}{cells:List AV}(h:cOp P hand draw o=some (.mk t cells)):∃ z,o.op=.alloc t∧Nl P t=some z∧z.cells.all AV.one=true∧cells=z.cells:=by
  unfold cOp at h
  repeat' split at h
  all_goals first
    | (cases h; done)
    | (obtain ⟨_,_,e⟩:=Option.map_eq_some_iff.1 h; cases e; done)
    | (cases h; exact ⟨_,by assumption,by assumption,by assumption,rfl⟩)
theorem Zdb {t:TypeId}{n:Nat}{x:Yv}(h:cOp P hand draw o=some (.box t n x)):∃ x',o.op=.box t x'∧ZC P t x'=some x:=by
  unfold cOp at h
  repeat' split at h
  all_goals first
    | (cases h; done)
    | (obtain ⟨_,h1,e⟩:=Option.map_eq_some_iff.1 h; cases e; exact ⟨_,by assumption,h1⟩)
    | (obtain ⟨_,h1,e⟩:=Option.map_eq_some_iff.1 h; cases e; done)
theorem Eh (hI:Inv E s Γ a w){e:TypeId}{v:AV}{cv:Value}{n:Nat}(hd:s.hp[n]? = some .dead)(hb:s.bs≤n)(hr:Rep Γ w v cv)(hl:v.laid=true)(hn:∀ k r,v=.own k r→r=[]∧cv=.slice none 0 0) :
    Inv E { s with hp:=s.hp.set n (.cells v.cells e) } (Oq Γ w.heap.size (.own n)) a (w.alloc (.cells cv.cells e))∧Rep (Oq Γ w.heap.size (.own n)) (w.alloc (.cells cv.cells e)) (.ptr n 0) (.pointer (some ⟨w.heap.size,0,none⟩)):=by
  obtain ⟨a1,a2⟩:=hr.cellsRep hl hn
  have st:=QU hI.rw.fresh (.cells cv.cells e) (.own n)
  refine ⟨hI.fill _ _ hd hb ⟨w.heap.size,cv.cells,YL _ _ _,heap_alloc_new w _,a1,fun i c hc=>?_⟩,.ptr _ _ _ (YL _ _ _)⟩
  obtain ⟨b1,b2,b3⟩:=a2 i c hc
  exact ⟨b1,b2.mono st.fix st.own,.nil b3⟩
theorem Zd2 (hG:GOk G E.W0)(hI:Inv E s Γ a w){g:Option (Nat×Bool)}{r:Nat}{u:Zc}(he:Q3 G base r ⟨o.dst,(cOp P hand draw o).getD .bad,g⟩ s=some u){K:Act→World→Prop}{Q:Exit→Act→World→Prop}(hK:∀ Γ a w,Inv E u Γ a w→K a w) :
    o.wp P a w K Q:=by
  unfold Q3 at he
  split at he <;> first | (cases he; done) | skip
  rename_i hd
  obtain ⟨hd,hbs⟩:=hd
  have hd':s.hp[base + r]? = some .dead:=by
    unfold CS at hd
    split at hd
    · assumption
    · cases hd
  split at he <;> first | (cases he; done) | skip
  · rename_i t cells hop
    obtain rfl:=Option.some.inj he
    obtain ⟨z,h1,h2,h3,rfl⟩:=Ze3 (PG hop (by nofun))
    obtain ⟨i,zv,hi,hzv,hrep⟩:=ML h2
    obtain ⟨k1,k2⟩:=hrep Γ w
    obtain ⟨i1,i2⟩:=Eh hI (e := t) hd' (by omega) k1 (KL h3) k2
    have hrun:(execOp a.eval o).run P w=.ok (.value (.pointer (some ⟨w.heap.size,0,none⟩))) (w.alloc (.cells zv.cells t)):=by
      simp only [execOp,h1]
      simp [Instr.alloc,zeroValue,typeInfo,hi,hzv,newVar,newRow]
    unfold Oper.wp
    rw [hrun]
    obtain ⟨Γ2,j2⟩:=i1.put o.dst i2 (.of_ne (by simp))
    exact hK _ _ _ j2
  · rename_i t n x hop
    split at he <;> first | (cases he; done) | skip
    rename_i v hv
    split at he <;> first | (cases he; done) | skip
    rename_i hl
    obtain rfl:=Option.some.inj he
    obtain ⟨x',h1,h2⟩:=Zdb (PG hop (by nofun))
    obtain ⟨k1,k2⟩:=Zj hG hI h2 hv
    obtain ⟨i1,i2⟩:=Eh hI (e := t) hd' (by omega) k1 hl.2 k2
    have hrun:(execOp a.eval o).run P w=.ok (.value (.pointer (some ⟨w.heap.size,0,none⟩))) (w.alloc (.cells (a.eval x').cells t)):=by
      simp only [execOp,h1]
      simp [Instr.box,newVar,newRow]
    unfold Oper.wp
    rw [hrun]
    obtain ⟨Γ2,j2⟩:=i1.put o.dst i2 (.of_ne (by simp))
    exact hK _ _ _ j2
theorem Dc (hG:GOk G E.W0)(hS:Yp P E.W0 call){ops:Array Oper}{g:Option (Nat×Bool)}{u:Zc}{K:Act→World→Prop}{Q:Exit→Act→World→Prop}(h2:Gf ops o.guard=some g)
    (he:Zv G call ⟨o.dst,(cOp P hand draw o).getD .bad,g⟩ s=some u) (hI:Inv E s Γ a w) (hK:∀ Γ a w,Inv E u Γ a w→K a w) :
    if Region.wanted o (yielded ops a.tmps)=true then o.wp P a w K Q∨(o.asks P a w∧LetsOut Q) else K (a.put o.dst Go.undef) w:=by
  simp only [Zv] at he
  split at he <;> first | (cases he; done) | skip
  · rename_i hw
    rw [Qz hI h2 hw]
    split at he <;> first | (cases he; done) | skip
    rename_i v s2 hev
    obtain rfl:=Option.some.inj he
    simp only [if_true]
    refine .inl (ZbK hG hS hI (QT hev) hev fun Γ' cv w' i1 r1 o1=>?_)
    obtain ⟨Γ2,i2⟩:=i1.put o.dst r1 o1
    exact hK _ _ _ i2
  · rename_i hw
    rw [Qz hI h2 hw]
    obtain rfl:=Option.some.inj he
    simp only [Bool.false_eq_true,if_false]
    obtain ⟨Γ2,i2⟩:=hI.put o.dst (v := .undef) (cv := Go.undef) .undef (.of_ne (by simp))
    exact hK _ _ _ i2
theorem ZbM (hG:GOk G E.W0)(hS:Yp P E.W0 (ZX call)){ops:Array Oper}{g:Option (Nat×Bool)}{u:Zc}{K:Act→World→Prop}{Q:Exit→Act→World→Prop}(h2:Gf ops o.guard=some g)
    (he:XP G call base al ⟨o.dst,(cOp P hand draw o).getD .bad,g⟩ s=some u) (hI:Inv E s Γ a w) (hK:∀ Γ a w,Inv E u Γ a w→K a w) :
    if Region.wanted o (yielded ops a.tmps)=true then o.wp P a w K Q∨(o.asks P a w∧LetsOut Q) else K (a.put o.dst Go.undef) w:=by
  unfold XP at he
  split at he
  ·
    rename_i hc
    obtain ⟨k,hk,hk'⟩:=Ik (Di hc)
    refine Dc (hand := hand) (draw := draw) hG hS h2 ?_ hI hK
    unfold Ih at he
    split at he <;> first | (cases he; done) | skip
    rename_i s1 h1
    obtain rfl:=Option.some.inj he
    show Zv G (ZX call) ⟨o.dst,(cOp P hand draw o).getD .bad,g⟩ s=_
    simp only [Zv] at h1 ⊢
    have wg:∀ h,YP { s with hp:=h } g=YP s g:=fun h=>by cases g <;> rfl
    rw [wg] at h1
    split at h1 <;> first | (cases h1; done) | skip
    · rename_i hw
      split at h1 <;> first | (cases h1; done) | skip
      rename_i v s2 hev
      obtain rfl:=Option.some.inj h1
      obtain ⟨e1,e2,e3,e4⟩:=Zfv hk hk' hev (Pfx.take base s.hp)
      have e4':Zd G (ZX call) s ((cOp P hand draw o).getD .bad)=some (v,{ s2 with hp:=s.hp }):=e4
      rw [e4']
      simp only [Yi]
    · rename_i hw
      obtain rfl:=Option.some.inj h1
      simp only [Yi]
  ·
    split at he
    · rename_i hal
      have hg:g=none:=by
        unfold Xj at hal
        split at hal <;> first | (cases hal; done) | assumption
      subst hg
      have hw:Region.wanted o (yielded ops a.tmps)=true:=Qz hI h2 (b := true) rfl
      rw [hw]
      simp only [if_true]
      exact .inl (Zd2 hG hI he hK)
    · unfold VS at he
      split at he <;> first | (cases he; done) | skip
      split at he <;> first | (cases he; done) | skip
      split at he <;> first | (cases he; done) | skip
      exact Dc hG hS h2 he hI hK
  · exact Dc hG hS h2 he hI hK
theorem ZbO (hG:GOk G E.W0)(hS:Yp P E.W0 (ZX call)){ops:Array Oper}{bops:List Yb}{Q:Exit→Act→World→Prop}{sF:Zc}(hc:X4 P hand draw ops ops.toList=some bops)
    (hord:∀ i,i < ops.size→(match ops[i]? with | some o=>o.after.all fun e=>!Region.binds .any e || decide (e.on < i) | none=>false)=true)
    (hpair:∀ i,i < ops.size→∀ j,j < i→(IK ops i j || (match bops[j]?,bops[i]? with | some x,some y=>Aa al x y | _,_=>false))=true) (hQ:∀ Γ a w,Inv E sF Γ a w→Q .normal a w) :
    ∀ (fuel:Nat) {listed:Array Bool} {s:Zc} {Γ:Zq} {a:Act} {w:World},listed.size=ops.size→XC ops listed→(WU ops.size listed).length=fuel→Vo G call base al ((WU ops.size listed).map fun i=>bops.getD i ⟨none,.bad,none⟩) s=some sF→Inv E s Γ a w→wpAny P .any ops Q fuel listed a w:=by
  obtain ⟨hlen,hget⟩:=Xr hc
  intro fuel
  induction fuel with
  | zero =>
    intro listed s Γ a w hsz hcl hl h hI
    have hn:=List.eq_nil_of_length_eq_zero hl
    rw [hn] at h
    obtain rfl:=Option.some.inj (by simpa [Vo] using h:some s=some sF)
    refine ⟨List.eq_nil_iff_forall_not_mem.2 fun i hi=>?_,hQ _ _ _ hI⟩
    obtain ⟨h1,o,h2,_⟩:=mem_ready.1 hi
    have:i ∈ WU ops.size listed:=YR.2 ⟨(Array.getElem?_eq_some_iff.1 h2).1,h1⟩
    rw [hn] at this
    cases this
  | succ fuel ih =>
    intro listed s Γ a w hsz hcl hl h hI
    have hlisted:∀ j,j < ops.size→listed.getD j true≠false→listed.getD j false=true:=fun j hj h=>by
      have hj':j < listed.size:=by omega
      simp [hj'] at h ⊢; exact h
    refine ⟨fun hr=>?_,fun i hi=>?_⟩
    · obtain ⟨i,r,hir⟩:∃ i r,WU ops.size listed=i :: r:=by
        cases hx:WU ops.size listed with
        | nil=>rw [hx] at hl; cases hl
        | cons i r=>exact ⟨i,r,rfl⟩
      have him:=YR.1 (show i ∈ WU ops.size listed by rw [hir]; exact List.mem_cons_self ..)
      have hoi:ops[i]? = some ops[i]:=Array.getElem?_eq_getElem him.1
      have hready:i ∈ Region.ready .any ops listed:=by
        refine mem_ready.2 ⟨him.2,_,hoi,fun e he hb=>?_⟩
        have:=hord i him.1
        rw [hoi] at this
        have hlt:=Array.all_eq_true'.1 this e he
        rw [hb] at hlt
        simp only [Bool.not_true,Bool.false_or,decide_eq_true_eq] at hlt
        refine hlisted e.on (by omega) fun hun=>?_
        have hm:=YR.2 ⟨show e.on < ops.size by omega,hun⟩
        rw [hir] at hm
        have hs:=QS ops.size listed
        rw [hir] at hs
        rcases List.mem_cons.1 hm with he | hm
        · omega
        · have:=(List.pairwise_cons.1 hs).1 _ hm
          omega
      rw [hr] at hready
      cases hready
    · obtain ⟨hun,o,ho,hdeps⟩:=mem_ready.1 hi
      have hin:=(Array.getElem?_eq_some_iff.1 ho).1
      obtain ⟨l1,l2,hsplit⟩:=List.append_of_mem (YR.2 ⟨hin,hun⟩)
      have hs:=QS ops.size listed
      rw [hsplit] at hs
      obtain ⟨g,hg1,hg2⟩:=hget i o (by simpa using ho)
      have hbi:bops.getD i ⟨none,.bad,none⟩=⟨o.dst,(cOp P hand draw o).getD .bad,g⟩:=by rw [List.getD_eq_getElem?_getD,hg2]; rfl
      have hcomm:∀ x ∈ l1.map (fun i=>bops.getD i ⟨none,.bad,none⟩),Aa al x ⟨o.dst,(cOp P hand draw o).getD .bad,g⟩=true:=fun x hx=>by
        obtain ⟨j,hj,rfl⟩:=List.mem_map.1 hx
        have hji:j < i:=(List.pairwise_append.1 hs).2.2 j hj i (List.mem_cons_self ..)
        have hjm:=YR.1 (show j ∈ WU ops.size listed by rw [hsplit]; exact List.mem_append_left _ hj)
        have:=hpair i hin j hji
        rw [Bool.or_eq_true] at this
        rcases this with h1 | h1
        · exfalso
          have h2:=hcl.ready ho hdeps (Ou h1)
          rw [UI hjm.2] at h2
          cases h2
        · rw [hg2] at h1
          split at h1
          · rename_i x y hx hy
            cases hy
            rw [List.getD_eq_getElem?_getD,hx]
            exact h1
          · cases h1
      rw [hsplit,List.map_append,List.map_cons,hbi] at h
      obtain ⟨u,hu1,hu2⟩:=Fz hcomm h
      rw [← List.map_append,← Jj hsplit (by omega)] at hu2
      have hlen2:(WU ops.size (listed.setIfInBounds i true)).length=fuel:=by
        rw [Jj hsplit (by omega)]
        rw [hsplit] at hl
        simp at hl ⊢
        omega
      unfold wpOp
      simp only [ho]
      exact ZbM hG hS hg1 hu1 hI fun Γ' a' w' hI'=>ih (by simp [hsz]) (hcl.list ho hdeps) hlen2 hu2 hI'
theorem Inv.keepFree (h:Inv E s Γ a w)(n:Nat):Inv E { s with hp:=s.hp ++ Xi n } Γ a w:=by
  refine ⟨h.defers,h.slots,⟨fun g o hg=>?_,h.rw.inj,h.rw.fresh,fun b g hb=>?_,h.rw.old,h.rw.oldImm,fun g hg b hb=>?_⟩,h.fr,h.base,h.base2,?_,h.back⟩
  · rw [List.getElem?_append] at hg
    split at hg
    · exact h.rw.objs g o hg
    · have:=List.eq_of_mem_replicate (List.mem_of_getElem? hg)
      subst this
      trivial
  · have:=h.rw.lt b g hb
    simp only [List.length_append]
    omega
  · have:=h.rw.lt b g hb
    rw [List.getElem?_append_left this] at hg
    exact h.rw.dead g hg b hb
  · have:=h.le
    simp only [List.length_append]
    omega
theorem ZbN (hG:GOk G E.W0)(hS:Yp P E.W0 (ZX call)){ops:Array Oper}{bops:List Yb}{Q:Exit→Act→World→Prop}{sF:Zc}(hc:X4 P hand draw ops ops.toList=some bops)(hd:NK ops bops=true)(hQ:∀ Γ a w,Inv E sF Γ a w→Q .normal a w)
    (h:ZH G (ZX call) bops s=some sF) (hI:Inv E s Γ a w):wpAny P .any ops Q ops.size (Array.replicate ops.size false) a w:=by
  simp only [NK,Bool.and_eq_true,List.all_eq_true,List.mem_range] at hd
  obtain ⟨⟨⟨⟨hord,_⟩,hok⟩,hnd⟩,hpair⟩:=hd
  have hr:WU ops.size (Array.replicate ops.size false)=List.range ops.size:=by
    unfold WU
    refine List.filter_eq_self.2 fun i hi=>?_
    simp only [List.mem_range] at hi
    simp [hi]
  have hmap:(List.range ops.size).map (fun i=>bops.getD i ⟨none,.bad,none⟩)=bops:=by
    have hl:ops.size=bops.length:=by simpa using (Xr hc).1
    rw [hl]
    refine List.ext_getElem? fun i=>?_
    rw [List.getElem?_map]
    by_cases hi:i < bops.length
    · rw [List.getElem?_range hi,Option.map_some,List.getD_eq_getElem?_getD,List.getElem?_eq_getElem hi]; rfl
    · rw [List.getElem?_eq_none (by simpa using hi),List.getElem?_eq_none (by omega)]; rfl
  have hs:=sim (base := s.hp.length) hnd hok (Nat.zero_le _) h hI.le rfl (fun r t v hr=>absurd hr (Nat.not_lt_zero _))
  exact ZbO hG hS hc hord hpair hQ ops.size (by simp) (.start ops _) (by rw [hr]; simp) (by rw [hr,hmap]; exact hs) (hI.keepFree _)
end
end Go.Proofs.YtdchnngpjjcchaaDoor.Abs
end
section
namespace Go.Proofs.YtdchnngpjjcchaaDoor.Abs
open Go Go.RowKit
section
variable {P:Program}{G:Nat→Option (List AV)}{call:FuncId→List AV→List Zi→Option (AV×List Zi×Eff)}{E:Entry}{s s':Zc}{Γ:Zq}{a:Act}{w:World}{hand:Nat→Bool}{draw:Bool}
def Ends (E:Entry)(r:Kw×Zc)(e:Exit)(a:Act)(w:World):Prop :=
  (match r.1,e with
    | .normal,.normal=>True
    | .exit i,.exit j=>i=j
    | .ret,.ret=>True
    | _,_=>False)∧∃ Γ,Inv E r.2 Γ a w
theorem Ends.normal {s:Zc}{Γ:Zq}{a:Act}{w:World}(h:Inv E s Γ a w):Ends E (.normal,s) .normal a w:=⟨trivial,Γ,h⟩
theorem CW {c:Code}{f:Zc→Option (Kw×Zc)}(ih:∀ {s:Zc} {r:Kw×Zc} {Γ:Zq} {a:Act} {w:World},f s=some r→Inv E s Γ a w→c.wp P (Ends E r) a w) :
    ∀ (n:Nat) {s:Zc} {r:Kw×Zc} {Γ:Zq} {a:Act} {w:World},iter f n s=some r→Inv E s Γ a w→Code.rounds P c (Ends E r) n a w
  | 0,_,_,_,_,_,h,_=>by cases h
  | n + 1,s,r,Γ,a,w,h,hI=>by
    rw [rounds_succ]
    simp only [iter] at h
    split at h
    · rename_i s1 h1
      refine Go.wp_mono (ih h1 hI) fun e a' w' he=>?_
      obtain ⟨k1,Γ',i1⟩:=he
      cases e <;> first | exact k1.elim | skip
      exact CW ih n h i1
    · rename_i hne
      refine Go.wp_mono (ih h hI) fun e a' w' he=>?_
      cases e <;> first | exact he | skip
      obtain ⟨k1,_⟩:=he
      obtain ⟨x,s1⟩:=r
      cases x <;> first | exact k1.elim | skip
      exact absurd h (hne s1)
theorem ND (hm:P.follows .mixedOrders=true)(hG:GOk G E.W0)(hS:Yp P E.W0 call)(hB:Yp P E.W0 (ZX call)){takes:FuncId→List Nat}{res:List Nat}(L:Nat):∀ {c:Code} {ac:ZA} {s:Zc} {r:Kw×Zc} {Γ:Zq} {a:Act} {w:World},
    Vs P takes res c=some ac→Z4 G call L ac s=some r→Inv E s Γ a w→c.wp P (Ends E r) a w:=by
  intro c
  induction c with
  | skip =>
    intro ac s r Γ a w hc h hI
    cases hc; cases h
    exact Go.wp_skip (.normal hI)
  | region id ops draw =>
    intro ac s r Γ a w hc h hI
    cases draw with
    | false =>
      simp only [Vs] at hc
      obtain ⟨aops,h1,rfl⟩:=Option.map_eq_some_iff.1 hc
      simp only [Z4] at h
      obtain ⟨s1,h2,rfl⟩:=Option.map_eq_some_iff.1 h
      refine wp_region ?_
      rw [List.range_eq_range']
      have:=Zav hG hS (Q := Ends E (.normal,s1)) 0 (l := ops.toList) (by simp) h1 h2 hI fun Γ a w h=>.normal h
      simpa using this
    | true =>
      simp only [Vs] at hc
      split at hc <;> first | (cases hc; done) | skip
      rename_i aops bops h1 h1'
      split at hc
      · rename_i hq
        simp only [Bool.and_eq_true] at hq
        cases hc
        generalize KQ ops ops.size=n at *
        simp only [Z4] at h
        have hl:ops.size=bops.length:=by simpa using (Xr h1').1
        have hnle:n≤ops.size:=by
          have:=hq.2
          simp only [ZbX,Bool.and_eq_true,decide_eq_true_eq] at this
          exact this.1.1.2
        cases h2:ZH G (Yo call) (bops.take n) s with
        | none=>rw [h2] at h; simp at h
        | some s1 =>
          rw [h2] at h
          simp only [Option.map_some] at h
          obtain ⟨s2,h3,rfl⟩:=Option.map_eq_some_iff.1 h
          refine wp_region_any hm ?_
          have hb:Behind w { w with drawn:=w.drawn + 1 }:=⟨rfl,rfl,rfl,Nat.le_refl _,fun _ _=>rfl⟩
          have hrep:∀ i,i < ops.size→(Array.replicate ops.size false).getD i true=false:=fun i hi=>by simp [hi]
          have hr:WU n (Array.replicate ops.size false)=List.range n:=by
            unfold WU
            refine List.filter_eq_self.2 fun i hi=>?_
            simp only [List.mem_range] at hi
            rw [hrep i (by omega)]; rfl
          have hr2:Jk n ops.size (Array.replicate ops.size false)=(List.range ops.size).drop n:=by
            unfold Jk
            rw [show (List.range ops.size)=List.range n ++ (List.range ops.size).drop n from by
              rw [show List.range n=(List.range ops.size).take n from by rw [List.take_range,Nat.min_eq_left hnle],List.take_append_drop]]
            rw [List.filter_append,List.filter_eq_nil_iff.2 (fun i hi=>by
              simp only [List.mem_range] at hi
              have:¬ n≤i:=by omega
              simp [this]),List.nil_append]
            rw [List.drop_append_of_le_length (by simp),show (List.range n).drop n=[] from by simp,List.nil_append]
            refine List.filter_eq_self.2 fun i hi=>?_
            obtain ⟨k,hk⟩:=List.mem_iff_getElem?.1 hi
            rw [List.getElem?_drop] at hk
            have hlt:=(List.getElem?_eq_some_iff.1 hk).1
            rw [List.getElem?_range (by simpa using hlt)] at hk
            cases hk
            simp only [List.length_range] at hlt
            rw [hrep _ hlt]; simp
          have hmap:(List.range ops.size).map (fun i=>bops.getD i ⟨none,.bad,none⟩)=bops:=by
            rw [hl]
            refine List.ext_getElem? fun i=>?_
            rw [List.getElem?_map]
            by_cases hi:i < bops.length
            · rw [List.getElem?_range hi,Option.map_some,List.getD_eq_getElem?_getD,List.getElem?_eq_getElem hi]; rfl
            · rw [List.getElem?_eq_none (by simpa using hi),List.getElem?_eq_none (by omega)]; rfl
          refine ZdO hG hS (n := n) (Q := Ends E (.normal,s2)) h1' hq.2 (fun Γ a w h=>.normal h) ops.size (s1 := s1) (by simp) (.start ops _) (by rw [hr,hr2]; simp; omega) ?_ ?_ (hb.inv hI)
          · rw [hr,show List.range n=(List.range ops.size).take n from by rw [List.take_range,Nat.min_eq_left hnle],List.map_take,hmap]; exact h2
          · rw [hr2,List.map_drop,hmap]; exact h3
      split at hc
      · rename_i hq
        simp only [Bool.and_eq_true] at hq
        cases hc
        simp only [Z4] at h
        obtain ⟨s1,h2,rfl⟩:=Option.map_eq_some_iff.1 h
        refine wp_region_quiet (C := Behind w) hm hq.1 ⟨rfl,rfl,rfl,Nat.le_refl _,fun _ _=>rfl⟩ ?_
        exact TK hG hS h1 hq.2 h2 hI fun Γ a w h=>.normal h
      · split at hc
        · rename_i hd
          cases hc
          simp only [Z4] at h
          obtain ⟨s1,h2,rfl⟩:=Option.map_eq_some_iff.1 h
          refine wp_region_any hm ?_
          have hb:Behind w { w with drawn:=w.drawn + 1 }:=⟨rfl,rfl,rfl,Nat.le_refl _,fun _ _=>rfl⟩
          have hr:WU ops.size (Array.replicate ops.size false)=List.range ops.size:=by
            unfold WU
            refine List.filter_eq_self.2 fun i hi=>?_
            simp only [List.mem_range] at hi
            simp [hi]
          have hmap:(List.range ops.size).map (fun i=>bops.getD i ⟨none,.bad,none⟩)=bops:=by
            have hl:ops.size=bops.length:=by simpa using (Xr h1').1
            rw [hl]
            refine List.ext_getElem? fun i=>?_
            rw [List.getElem?_map]
            by_cases hi:i < bops.length
            · rw [List.getElem?_range hi,Option.map_some,List.getD_eq_getElem?_getD,List.getElem?_eq_getElem hi]; rfl
            · rw [List.getElem?_eq_none (by simpa using hi),List.getElem?_eq_none (by omega)]; rfl
          exact ZdN hG hS (Q := Ends E (.normal,s1)) h1' hd (fun Γ a w h=>.normal h) ops.size (by simp) (.start ops _) (by rw [hr]; simp) (by rw [hr,hmap]; exact h2) (hb.inv hI)
        · split at hc
          · rename_i hd
            cases hc
            simp only [Z4] at h
            obtain ⟨s1,h2,rfl⟩:=Option.map_eq_some_iff.1 h
            refine wp_region_any hm ?_
            have hb:Behind w { w with drawn:=w.drawn + 1 }:=⟨rfl,rfl,rfl,Nat.le_refl _,fun _ _=>rfl⟩
            exact ZbN hG hB (Q := Ends E (.normal,s1)) h1' hd (fun Γ a w h=>.normal h) h2 (hb.inv hI)
          · cases hc; cases h
  | seq x y ihx ihy =>
    intro ac s r Γ a w hc h hI
    simp only [Vs] at hc
    split at hc <;> first | (cases hc; done) | skip
    rename_i ax ay hx hy
    obtain rfl:=Option.some.inj hc
    simp only [Z4] at h
    refine Go.wp_seq ?_
    split at h
    · rename_i s1 h1
      refine Go.wp_mono (ihx hx h1 hI) fun e a' w' he=>?_
      obtain ⟨k1,Γ',i1⟩:=he
      cases e <;> first | exact k1.elim | skip
      exact ihy hy h i1
    · rename_i hne
      refine Go.wp_mono (ihx hx h hI) fun e a' w' he=>?_
      cases e <;> first | exact he | skip
      obtain ⟨k1,_⟩:=he
      obtain ⟨q,s1⟩:=r
      cases q <;> first | exact k1.elim | skip
      exact absurd h (hne s1)
  | cond c x y ihx ihy =>
    intro ac s r Γ a w hc h hI
    simp only [Vs] at hc
    split at hc <;> first | (cases hc; done) | skip
    rename_i c' ax ay hcc hx hy
    obtain rfl:=Option.some.inj hc
    simp only [Z4] at h
    split at h <;> first | (cases h; done) | skip
    · rename_i hb
      have k:=(Zj hG hI hcc hb).1
      generalize hq:a.eval c=q at k
      cases k
      exact Go.wp_cond_true hq (ihx hx h hI)
    · rename_i hb
      have k:=(Zj hG hI hcc hb).1
      generalize hq:a.eval c=q at k
      cases k
      exact Go.wp_cond_false hq (ihy hy h hI)
  | block id c ih =>
    intro ac s r Γ a w hc h hI
    simp only [Vs] at hc
    obtain ⟨ax,hx,rfl⟩:=Option.map_eq_some_iff.1 hc
    simp only [Z4] at h
    refine Go.wp_block ?_
    split at h
    · rename_i i s1 h1
      split at h
      · rename_i hi
        obtain rfl:=Option.some.inj h
        refine Go.wp_mono (ih hx h1 hI) fun e a' w' he=>?_
        obtain ⟨k1,Γ',i1⟩:=he
        cases e <;> first | exact k1.elim | skip
        rename_i j
        simp only [Exit.inBlock]
        rw [if_pos (by rw [← hi]; exact (show i=j from k1).symm)]
        exact .normal i1
      · rename_i hi
        obtain rfl:=Option.some.inj h
        refine Go.wp_mono (ih hx h1 hI) fun e a' w' he=>?_
        obtain ⟨k1,Γ',i1⟩:=he
        cases e <;> first | exact k1.elim | skip
        rename_i j
        simp only [Exit.inBlock]
        rw [if_neg (by rw [← (show i=j from k1)]; exact hi)]
        exact ⟨k1,Γ',i1⟩
    · rename_i hne
      refine Go.wp_mono (ih hx h hI) fun e a' w' he=>?_
      cases e <;> first | exact he | skip
      obtain ⟨k1,_⟩:=he
      obtain ⟨q,s1⟩:=r
      cases q <;> first | exact k1.elim | skip
      exact absurd h (hne _ s1)
  | loop c ih =>
    intro ac s r Γ a w hc h hI
    simp only [Vs] at hc
    obtain ⟨ax,hx,rfl⟩:=Option.map_eq_some_iff.1 hc
    simp only [Z4] at h
    exact wp_loop_rounds L (CW (fun h1 h2=>ih hx h1 h2) L h hI)
  | scope c ih =>
    intro ac s r Γ a w hc h hI
    simp only [Vs] at hc
    obtain ⟨ax,hx,rfl⟩:=Option.map_eq_some_iff.1 hc
    simp only [Z4] at h
    refine Go.wp_scope_straight (Go.wp_mono (ih hx h hI) fun e a' w' he=>?_)
    cases e <;> first | exact he | skip
    obtain ⟨k1,_⟩:=he
    obtain ⟨q,s1⟩:=r
    cases q <;> exact k1.elim
  | exit id =>
    intro ac s r Γ a w hc h hI
    cases hc; cases h
    exact Go.wp_exit ⟨rfl,Γ,hI⟩
  | ret =>
    intro ac s r Γ a w hc h hI
    cases hc; cases h
    exact Go.wp_ret ⟨trivial,Γ,hI⟩
  | label l =>
    intro ac s r Γ a w hc h hI
    cases hc; cases h
    exact Go.wp_label (.normal hI)
  | _ =>
    intro ac s r Γ a w hc h
    cases hc; cases h
end
end Go.Proofs.YtdchnngpjjcchaaDoor.Abs
end
section
namespace Go.Proofs.YtdchnngpjjcchaaDoor.Abs
open Go Go.RowKit
section
variable {P:Program}{G:Nat→Option (List AV)}{E:Entry}{s:Zc}{Γ:Zq}{a:Act}{w:World}
def TU (tmps:Array Value):ResultVar→Sem Value
  | .tmp t=>pure (tmps.getD t Go.undef)
  | .cell x t=>do loadVar t (← asAddr (tmps.getD x Go.undef))
def packed:List Value→Value
  | [v]=>v
  | vs=>.tuple vs.toArray
theorem TV {fn:Func}{tmps:Array Value}{vs:List Value}(h:(fn.results.toList.mapM (TU tmps)).run P w=.ok vs w):(results fn tmps).run P w=.ok (packed vs) w:=by
  have e0:results fn tmps=(do let vs ← fn.results.mapM (TU tmps); pure (if h:vs.size=1 then vs[0] else .tuple vs)):=by
    unfold results
    congr 1
  rw [e0]
  obtain ⟨l,hl⟩:∃ l,fn.results=⟨l⟩:=⟨fn.results.toList,rfl⟩
  rw [hl] at h ⊢
  have e:((⟨l⟩:Array ResultVar).mapM (TU tmps)).run P w=.ok vs.toArray w:=by
    rw [List.mapM_toArray,map_eq_pure_bind,Sem.run_bind,h]
    rfl
  rw [Sem.run_bind,e]
  simp only [Result.andThen_ok,Sem.run_pure]
  cases vs with
  | nil=>rfl
  | cons v vs=>cases vs <;> rfl
theorem res_one (hI:Inv E s Γ a w){r:ResultVar}{ar:Np}{v:AV}(hc:Zgm P r=some ar)(h:II s ar=some v) :
    ∃ cv,(TU a.tmps r).run P w=.ok cv w∧Rep Γ w v cv∧((∃ t,cv=a.tmps.getD t Go.undef∧s.sl[t]? = some v)∨∀ k r,v≠.own k r):=by
  cases r with
  | tmp t =>
    obtain rfl:=Option.some.inj hc
    exact ⟨a.tmps.getD t Go.undef,rfl,hI.slots.rep t v h,.inl ⟨t,rfl,h⟩⟩
  | cell t ty =>
    simp only [Zgm] at hc
    split at hc
    · rename_i hag
      obtain rfl:=Option.some.inj hc
      simp only [II] at h
      split at h <;> first | (cases h; done) | skip
      rename_i x hx
      obtain ⟨b,off,cv,e,hl,hcell,hr,hn⟩:=CZ hI (hI.slots.rep t x hx) h
      have hu:=Tq hag
      obtain ⟨i,hi⟩:=info_of_underlying hu
      have hld:=run_loadCells_list (P := P) w ⟨b,off,none⟩ cv (fun j y hj=>by rw [add_lit]; exact hcell j y hj)
      rw [hl] at hld
      refine ⟨_,?_,hr,.inr hn⟩
      simp only [TU,e]
      simp [asAddr,loadVar,Jf hag hu,ZG hi,hld]
    · rename_i hag
      split at hc <;> first | (cases hc; done) | skip
      rename_i hu
      obtain rfl:=Option.some.inj hc
      simp only [II] at h
      split at h <;> first | (cases h; done) | skip
      rename_i x hx
      obtain ⟨b,off,cv,e,hcell,hr,hn⟩:=Zaa hI (hI.slots.rep t x hx) h
      refine ⟨cv,?_,hr,.inr hn⟩
      simp only [TU,e]
      simp [asAddr,loadVar,Jf (by simpa using hag) hu,hcell]
theorem Za6 (hI:Inv E s Γ a w):∀ {rs:List ResultVar} {ars:List Np} {vs:List AV},N7 P rs=some ars→U7 s ars=some vs →
    ∃ cvs:List Value,(rs.mapM (TU a.tmps)).run P w=.ok cvs w∧cvs.length=vs.length∧ars.length=rs.length∧∀ (j:Nat) (x:AV),vs[j]? = some x→∃ u,cvs[j]? = some u∧Rep Γ w x u
  | [],ars,vs,hc,h=>by
    cases hc; cases h
    exact ⟨[],rfl,rfl,rfl,fun j x hx=>by simp at hx⟩
  | r :: rs,ars,vs,hc,h=>by
    simp only [N7] at hc
    split at hc <;> first | (cases hc; done) | skip
    rename_i ar l h1 h2
    obtain rfl:=Option.some.inj hc
    simp only [U7] at h
    split at h <;> first | (cases h; done) | skip
    rename_i v vs' h3 h4
    obtain rfl:=Option.some.inj h
    obtain ⟨cv,e1,r1,_⟩:=res_one hI h1 h3
    obtain ⟨cvs,e2,e3,e4,e5⟩:=Za6 hI h2 h4
    refine ⟨cv :: cvs,?_,by simp [e3],by simp [e4],fun j x hx=>?_⟩
    · rw [List.mapM_cons]
      simp only [Sem.run_bind,e1,Result.andThen_ok,e2]
      rfl
    · cases j with
      | zero=>obtain rfl:=Option.some.inj hx; exact ⟨cv,rfl,r1.nm⟩
      | succ j =>
        obtain ⟨u,hu,hr⟩:=e5 j x (by simpa using hx)
        exact ⟨u,by simpa using hu,hr⟩
theorem Zf5 (hI:Inv E s Γ a w){fn:Func}{rs:List Np}{v:AV}(hc:N7 P fn.results.toList=some rs)(h:VC s rs=some v) :
    ∃ cv Γ',(results fn a.tmps).run P w=.ok cv w∧RW E.W0 Γ' w s.hp∧Frame E.Γ0 E.w0 Γ' w s.ef∧Rep Γ' w v cv∧OwnAt Γ' w .res v cv∧∀ b g,Γ' b=.own g→g < s.bs→E.Γ0 b=.own g:=by
  have many:∀ vs,U7 s rs=some vs→v=.tup vs→rs.length≠1→∃ cv Γ',(results fn a.tmps).run P w=.ok cv w∧RW E.W0 Γ' w s.hp∧Frame E.Γ0 E.w0 Γ' w s.ef∧Rep Γ' w v cv∧OwnAt Γ' w .res v cv∧∀ b g,Γ' b=.own g→g < s.bs→E.Γ0 b=.own g:=by
    intro vs hvs hv hne
    obtain ⟨cvs,e2,e3,e4,e5⟩:=Za6 hI hc hvs
    have hr:=TV e2
    have hvl:vs.length=rs.length:=by
      clear hc e2 e3 e4 e5 hr hv hne h
      induction rs generalizing vs with
      | nil=>cases hvs; rfl
      | cons r rs ih =>
        simp only [U7] at hvs
        split at hvs <;> first | (cases hvs; done) | skip
        rename_i h1 h2
        obtain rfl:=Option.some.inj hvs
        simp [ih _ h2]
    subst hv
    refine ⟨.tuple cvs.toArray,Γ,?_,hI.rw,hI.fr,.tup vs _ (by simpa using e3) (fun j x hx=>?_),.of_ne (by simp),hI.back⟩
    · rw [hr]
      cases cvs with
      | nil=>rfl
      | cons u cvs =>
        cases cvs with
        | nil=>simp at e3; omega
        | cons _ _=>rfl
    · obtain ⟨u,hu,hr⟩:=e5 j x hx
      rw [Array.getD_eq_getD_getElem?,List.getElem?_toArray,hu]
      exact hr
  cases rs with
  | nil =>
    simp only [VC] at h
    obtain ⟨vs,hvs,e⟩:=Option.map_eq_some_iff.1 h
    exact many vs hvs e.symm (by simp)
  | cons r rs =>
    cases rs with
    | cons r' rs =>
      simp only [VC] at h
      obtain ⟨vs,hvs,e⟩:=Option.map_eq_some_iff.1 h
      exact many vs hvs e.symm (by simp)
    | nil =>
      simp only [VC] at h
      cases hl:fn.results.toList with
      | nil=>rw [hl] at hc; cases hc
      | cons q qs =>
        rw [hl] at hc
        simp only [N7] at hc
        split at hc <;> first | (cases hc; done) | skip
        rename_i ar l h1 h2
        obtain ⟨rfl,rfl⟩:=List.cons.inj (Option.some.inj hc)
        have hqs:qs=[]:=by
          cases qs with
          | nil=>rfl
          | cons _ _ =>
            simp only [N7] at h2
            split at h2 <;> simp at h2
        subst hqs
        obtain ⟨cv,e1,r1,hown⟩:=res_one hI h1 h
        have hrun:=TV (fn := fn) (tmps := a.tmps) (P := P) (w := w) (vs := [cv]) (by
          rw [hl,List.mapM_cons]
          simp only [Sem.run_bind,e1,Result.andThen_ok]
          rfl)
        rcases hown with ⟨t,rfl,ht⟩ | hn
        · obtain ⟨Γ',i1,r1,o1⟩:=hI.take t ht
          exact ⟨_,Γ',hrun,i1.rw,i1.fr,r1,o1,i1.back⟩
        · exact ⟨_,Γ,hrun,hI.rw,hI.fr,r1,.of_ne hn,hI.back⟩
end
end Go.Proofs.YtdchnngpjjcchaaDoor.Abs
end
section
namespace Go.Proofs.YtdchnngpjjcchaaDoor.Abs
open Go Go.RowKit
def WW (bs:Nat):Kind→Kind
  | .own g=>if g < bs then .own g else .imm
  | .list n (.cell g i)=>if g < bs then .list n (.cell g i) else .imm
  | k=>k
theorem GU {bs o:Nat}{k:Kind}(h:WP o k):WP o (WW bs k):=by
  cases k with
  | imm=>trivial
  | own g=>exact h.elim
  | list m l =>
    cases l <;> simp only [WW] <;> first | exact h | skip
    split
    · exact h
    · trivial
theorem Qv {bs g:Nat}{k:Kind}(h:WW bs k=.own g):k=.own g∧g < bs:=by
  cases k with
  | imm=>cases h
  | own g' =>
    simp only [WW] at h
    split at h
    · rename_i hl; cases h; exact ⟨rfl,hl⟩
    · cases h
  | list m l =>
    cases l <;> simp only [WW] at h <;> first | (cases h; done) | skip
    split at h <;> cases h
theorem Oj {α β:Type}{f:α→Option β}:∀ {l:List α} {r:List β},l.mapM f=some r→r.length=l.length∧∀ (j:Nat) (y:β),r[j]? = some y→∃ x,l[j]? = some x∧f x=some y
  | [],r,h=>by
    simp only [List.mapM_nil] at h
    obtain rfl:=Option.some.inj h
    exact ⟨rfl,fun j y hy=>by simp at hy⟩
  | x :: l,r,h=>by
    rw [List.mapM_cons] at h
    cases hx:f x with
    | none=>rw [hx] at h; cases h
    | some y =>
      cases hl:l.mapM f with
      | none=>rw [hx,hl] at h; cases h
      | some ys =>
        rw [hx,hl] at h
        obtain rfl:=Option.some.inj h
        obtain ⟨e1,e2⟩:=Oj hl
        refine ⟨by simp [e1],fun j z hz=>?_⟩
        cases j with
        | zero=>obtain rfl:=Option.some.inj hz; exact ⟨x,rfl,hx⟩
        | succ j =>
          obtain ⟨x',h1,h2⟩:=e2 j z (by simpa using hz)
          exact ⟨x',by simpa using h1,h2⟩
section
variable {W0 w:World}{Γ Γ':Zq}{hp:List Zi}{bs:Nat}
theorem Zaj {x:AV}{v:Value}(hf:Yc Γ w Γ' w)(h:Rep Γ w x v)(hn:x.noId1=true):Rep Γ' w x.ro v:=(h.noId hf hn).ro
theorem OwnAt.fix {w':World}{l l':Loc}{x:AV}{v:Value}(hf:Yc Γ w Γ' w')(hb:∀ b n,Γ b=.list n l→Γ' b=.list n l'∧w'.heap[b]? = w.heap[b]?)(h:OwnAt Γ w l x v):OwnAt Γ' w' l' x v:=by
  intro k rows e
  rcases h k rows e with h | ⟨b,cap,e,cur,hv,hg,hh,h1,h2,h3,h4,h5⟩
  · exact .inl h
  · obtain ⟨g1,g2⟩:=hb b _ hg
    exact .inr ⟨b,cap,e,cur,hv,g1,g2.trans hh,h1,h2,h3,h4,fun i j r c a1 a2=>⟨(h5 i j r c a1 a2).1,(h5 i j r c a1 a2).2.noId hf (h5 i j r c a1 a2).1⟩⟩
theorem BC (hr:RW W0 Γ w hp):∀ (d:Nat) {v v':AV} {cv:Value},Ce bs hp d v=some v'→Rep Γ w v cv→Rep (fun b=>WW bs (Γ b)) w v' cv∧(∀ k r,v'≠.own k r)∧(v.one=true→v'.one=true):=by
  have hf:Yc Γ w (fun b=>WW bs (Γ b)) w:=fun _ _ _ h1 h2=>⟨GU h1,h2⟩
  have hown:∀ b g,Γ b=.own g→g < bs→WW bs (Γ b)=.own g:=fun b g h hg=>by simp [h,WW,hg]
  intro d
  induction d with
  | zero =>
    intro v v' cv h hv
    cases v <;> simp only [Ce] at h
    case arr g off len k =>
      split at h <;> first | (cases h; done) | skip
      rename_i hg
      obtain rfl:=Option.some.inj h
      cases hv with
      | arr _ _ _ _ cap b hb hc=>exact ⟨.arr _ _ _ _ cap b (hown b g hb hg) hc,by simp,fun h=>h⟩
    case ptr g o =>
      split at h <;> first | (cases h; done) | skip
      rename_i hg
      obtain rfl:=Option.some.inj h
      cases hv with
      | ptr _ _ b hb=>exact ⟨.ptr _ _ b (hown b g hb hg),by simp,fun h=>h⟩
    case map g =>
      split at h <;> first | (cases h; done) | skip
      rename_i hg
      obtain rfl:=Option.some.inj h
      cases hv with
      | map _ b hb=>exact ⟨.map _ b (hown b g hb hg),by simp,fun h=>h⟩
    case agg=>cases h
    case tup=>cases h
    case fn f a cs =>
      split at h <;> first | (cases h; done) | skip
      rename_i hg
      obtain rfl:=Option.some.inj h
      refine ⟨?_,by simp,fun h=>h⟩
      have:=hv.noId hf (by simpa [AV.noId1] using hg)
      obtain ⟨rfl,rfl⟩:a=[]∧cs=[]:=by simpa using hg
      exact this
    case undef=>cases h; cases hv; exact ⟨.undef,by simp [AV.ro],fun h=>h⟩
    all_goals
      obtain rfl:=Option.some.inj h
      exact ⟨Zaj hf hv rfl,fun _ _=>QJ,fun h=>by rw [PK]; exact h⟩
  | succ d ih =>
    intro v v' cv h hv
    cases v <;> simp only [Ce] at h
    case arr g off len k =>
      split at h
      · rename_i hg
        obtain rfl:=Option.some.inj h
        cases hv with
        | arr _ _ _ _ cap b hb hc=>exact ⟨.arr _ _ _ _ cap b (hown b g hb hg) hc,by simp,fun h=>h⟩
      · rename_i hg
        split at h <;> first | (cases h; done) | skip
        rename_i cs t hobj
        split at h <;> first | (cases h; done) | skip
        rename_i hfit
        obtain ⟨cs',h1,h2⟩:=Option.bind_eq_some_iff.1 h
        split at h2 <;> first | (cases h2; done) | skip
        rename_i hid
        obtain rfl:=Option.some.inj h2
        obtain ⟨m1,m2⟩:=Oj h1
        cases hv with
        | arr _ _ _ _ cap b hb hc =>
          obtain ⟨b',C,o1,o2,o3,o4⟩:=hr.objs g _ hobj
          obtain rfl:=hr.inj b b' g hb o1
          have hlen:cs'.length=len * k:=by rw [m1]; simp; omega
          have hrow:∀ (i:Nat) (r:List AV),(chunk k len cs')[i]? = some r→i < len∧r.length=k∧∀ (j:Nat) (c:AV),r[j]? = some c→j < k∧cs'[i * k + j]? = some c:=by
            intro i r hi
            have hil:=Zh hi
            rw [Qr] at hil
            have he:=Gm k len _ i r hi
            have hle:(i + 1) * k≤len * k:=Nat.mul_le_mul_right k hil
            rw [Nat.add_mul,Nat.one_mul] at hle
            refine ⟨hil,by rw [he]; simp; omega,fun j c hj=>?_⟩
            rw [he,List.getElem?_take] at hj
            split at hj
            · rename_i hjk
              refine ⟨hjk,?_⟩
              rw [List.getElem?_drop] at hj
              exact hj
            · cases hj
          have hcell:∀ (p:Nat) (c:AV),cs'[p]? = some c→off + p < C.size∧Rep (fun b=>WW bs (Γ b)) w c (C.getD (off + p) Go.undef)∧c.noId1=true:=by
            intro p c hp
            obtain ⟨x,x1,x2⟩:=m2 p c hp
            have hpl:=Zh hp
            rw [List.getElem?_take,if_pos (by omega),List.getElem?_drop] at x1
            obtain ⟨_,q2,_⟩:=o4 _ x x1
            exact ⟨by omega,(ih x2 q2).1,List.all_eq_true.1 hid c (List.mem_of_getElem? hp)⟩
          refine ⟨?_,by simp,fun _=>rfl⟩
          have hl:(chunk k len cs').length=len:=Qr k len cs'
          have key:=Rep.lst (Γ := fun b=>WW bs (Γ b)) (w := w) k (chunk k len cs') b off cap (fun i j=>C.getD (off + (i * k + j)) Go.undef) (by rw [hl]; exact hc) (fun r hr=>?_) (fun i j r c hi hj=>?_) (fun i j r c hi hj=>?_)
          · rw [hl] at key; exact key
          · obtain ⟨i,hi⟩:=List.mem_iff_getElem?.1 hr
            exact (hrow i r hi).2.1
          · obtain ⟨_,_,h3⟩:=hrow i r hi
            obtain ⟨_,h4⟩:=h3 j c hj
            obtain ⟨q1,q2,q3⟩:=hcell _ c h4
            refine ⟨?_,?_,q3⟩
            · rw [cell_of_row w b _ C t (0,0) o2]
              exact Y5 q1
            · show WP _ (WW bs (Γ b))
              rw [hb]
              simp only [WW,if_neg hg]
              trivial
          · obtain ⟨_,_,h3⟩:=hrow i r hi
            obtain ⟨_,h4⟩:=h3 j c hj
            exact (hcell _ c h4).2.1
    case ptr g o =>
      split at h <;> first | (cases h; done) | skip
      rename_i hg
      obtain rfl:=Option.some.inj h
      cases hv with
      | ptr _ _ b hb=>exact ⟨.ptr _ _ b (hown b g hb hg),by simp,fun h=>h⟩
    case map g =>
      split at h <;> first | (cases h; done) | skip
      rename_i hg
      obtain rfl:=Option.some.inj h
      cases hv with
      | map _ b hb=>exact ⟨.map _ b (hown b g hb hg),by simp,fun h=>h⟩
    case agg=>cases h
    case tup=>cases h
    case fn f a cs =>
      split at h <;> first | (cases h; done) | skip
      rename_i hg
      obtain rfl:=Option.some.inj h
      refine ⟨?_,by simp,fun h=>h⟩
      have:=hv.noId hf (by simpa [AV.noId1] using hg)
      obtain ⟨rfl,rfl⟩:a=[]∧cs=[]:=by simpa using hg
      exact this
    case undef=>cases h; cases hv; exact ⟨.undef,by simp [AV.ro],fun h=>h⟩
    all_goals
      obtain rfl:=Option.some.inj h
      exact ⟨Zaj hf hv rfl,fun _ _=>QJ,fun h=>by rw [PK]; exact h⟩
theorem Ci (hr:RW W0 Γ w hp){v v':AV}{cv:Value}(h:Ii bs hp v=some v')(hv:Rep Γ w v cv):Rep (fun b=>WW bs (Γ b)) w v' cv∧∀ k r,v'≠.own k r:=by
  unfold Ii at h
  split at h
  · rename_i cs
    obtain ⟨cs',h1,rfl⟩:=Option.map_eq_some_iff.1 h
    obtain ⟨m1,m2⟩:=Oj h1
    cases hv with
    | agg _ u hs k1 kn kr =>
      refine ⟨.agg cs' u (by rw [hs,m1]) (fun j c hc=>?_) (fun j k r hc=>?_) (fun j c hc=>?_),by simp⟩
      · obtain ⟨x,x1,x2⟩:=m2 j c hc
        exact (BC hr 4 x2 (kr j x x1)).2.2 (k1 j x x1)
      · obtain ⟨x,x1,x2⟩:=m2 j _ hc
        exact absurd rfl ((BC hr 4 x2 (kr j x x1)).2.1 k r)
      · obtain ⟨x,x1,x2⟩:=m2 j c hc
        exact (BC hr 4 x2 (kr j x x1)).1
  · obtain ⟨h1,h2,_⟩:=BC hr 4 h hv
    exact ⟨h1,h2⟩
theorem ZeJ (hr:RW W0 Γ w hp){v v':AV}{cv:Value}(h:frz bs hp v=some v')(hv:Rep Γ w v cv)(ho:OwnAt Γ w .res v cv):Rep (fun b=>WW bs (Γ b)) w v' cv∧OwnAt (fun b=>WW bs (Γ b)) w .res v' cv:=by
  have hf:Yc Γ w (fun b=>WW bs (Γ b)) w:=fun _ _ _ h1 h2=>⟨GU h1,h2⟩
  unfold frz at h
  split at h
  · rename_i vs
    obtain ⟨vs',h1,rfl⟩:=Option.map_eq_some_iff.1 h
    obtain ⟨m1,m2⟩:=Oj h1
    cases hv with
    | tup _ u hs kr =>
      refine ⟨.tup vs' u (by rw [hs,m1]) fun j c hc=>?_,.of_ne (by simp)⟩
      obtain ⟨x,x1,x2⟩:=m2 j c hc
      exact (Ci hr x2 (kr j x x1)).1
  · obtain rfl:=Option.some.inj h
    exact ⟨hv.noId hf rfl,ho.fix hf fun b n hb=>⟨by simp [hb,WW],rfl⟩⟩
  · obtain ⟨h1,h2⟩:=Ci hr h hv
    exact ⟨h1,.of_ne h2⟩
theorem MJ {x:AV}{cv:Value}(hx:x.under1 bs=true)(hv:Rep Γ w x cv):Rep (fun b=>WW bs (Γ b)) w x cv:=by
  have hf:Yc Γ w (fun b=>WW bs (Γ b)) w:=fun _ _ _ h1 h2=>⟨GU h1,h2⟩
  have hown:∀ b g,Γ b=.own g→g < bs→WW bs (Γ b)=.own g:=fun b g h hg=>by simp [h,WW,hg]
  unfold AV.under1 at hx
  split at hx
  · cases hv with
    | arr _ _ _ _ cap b hb hc=>exact .arr _ _ _ _ cap b (hown b _ hb (by simpa using hx)) hc
  · cases hv with
    | ptr _ _ b hb=>exact .ptr _ _ b (hown b _ hb (by simpa using hx))
  · cases hv with
    | map _ b hb=>exact .map _ b (hown b _ hb (by simpa using hx))
  · exact hv.noId hf hx
theorem Zcu {x:AV}{cv:Value}(hx:x.under bs=true)(hv:Rep Γ w x cv):Rep (fun b=>WW bs (Γ b)) w x cv:=by
  unfold AV.under at hx
  split at hx
  · simp only [Bool.and_eq_true,List.all_eq_true] at hx
    cases hv with
    | fn f a cs u v hs1 hr1 hs hr=>exact .fn _ _ _ u v hs1 (fun j c hc=>MJ (hx.1 c (List.mem_of_getElem? hc)) (hr1 j c hc)) hs (fun j c hc=>MJ (hx.2 c (List.mem_of_getElem? hc)) (hr j c hc))
  · exact MJ hx hv
theorem Pn {s:Zc}{Γ0:Zq}{w0:World}{hp0:List Zi}{v:AV}{cv:Value}{v':AV}{hp':List Zi}{e':Eff}(h0:RW W0 Γ0 w0 hp0)(hbs:s.bs=hp0.length)(hle:s.bs≤s.hp.length)(base:∀ b n g i,Γ0 b=.list n (.cell g i)→g < s.bs)
    (hr:RW W0 Γ w s.hp) (hfr:Frame Γ0 w0 Γ w s.ef) (hbk:∀ b g,Γ b=.own g→g < s.bs→Γ0 b=.own g) (hv:Rep Γ w v cv) (ho:OwnAt Γ w .res v cv) {keep:Bool} (h:(if keep then (v.nm,s.hp,s.ef) else finish v s hp0)=(v',hp',e')) :
    ∃ Γ',RW W0 Γ' w hp'∧Rep Γ' w v' cv∧OwnAt Γ' w .res v' cv∧Frame Γ0 w0 Γ' w e'∧hp0.length≤hp'.length∧∀ b g,Γ' b=.own g→g < hp0.length→Γ0 b=.own g:=by
  have hf:Yc Γ w (fun b=>WW s.bs (Γ b)) w:=fun _ _ _ h1 h2=>⟨GU h1,h2⟩
  have asis:(v.nm,s.hp,s.ef)=(v',hp',e')→∃ Γ',RW W0 Γ' w hp'∧Rep Γ' w v' cv∧OwnAt Γ' w .res v' cv∧Frame Γ0 w0 Γ' w e'∧hp0.length≤hp'.length∧∀ b g,Γ' b=.own g→g < hp0.length→Γ0 b=.own g:=by
    intro e
    cases e
    exact ⟨Γ,hr,hv.nm,.of_ne fun _ _=>Ji,hfr,by omega,fun b g hb hl=>hbk b g hb (by omega)⟩
  have base1:∀ b g,Γ0 b=.own g→g < s.bs:=fun b g hb=>by rw [hbs]; exact h0.lt b g hb
  have same0:∀ b,b < w0.heap.size→Kept s.ef (Γ0 b)→WW s.bs (Γ b)=Γ0 b∧w.heap[b]? = w0.heap[b]?:=fun b hb hk=>by
    obtain ⟨e1,e2⟩:=hfr.keep b hb hk
    refine ⟨?_,e2⟩
    rw [e1]
    cases hg:Γ0 b with
    | imm=>rfl
    | own g=>simp [WW,base1 b g hg]
    | list n l =>
      cases l with
      | cell g i=>simp [WW,base b n g i hg]
      | _=>rfl
  have fr:Frame Γ0 w0 (fun b=>WW s.bs (Γ b)) w s.ef :=
    ⟨hfr.os,hfr.tape,hfr.output,hfr.size,hfr.fix.trans hf,fun b g hb=>by simp [hfr.own b g hb,WW,base1 b g hb],same0⟩
  have inj':∀ b b' g,WW s.bs (Γ b)=.own g→WW s.bs (Γ b')=.own g→b=b':=fun b b' g h1 h2=>hr.inj b b' g (Qv h1).1 (Qv h2).1
  have imm':∀ b,Γ b=.imm→WW s.bs (Γ b)=.imm:=fun b hb=>by rw [hb]; rfl
  split at h
  · exact asis h
  unfold finish at h
  split at h
  case h_2=>exact asis h
  rename_i u hu
  obtain ⟨r1,r2⟩:=ZeJ hr hu hv ho
  split at h
  · rename_i he
    cases h
    rw [he] at fr
    refine ⟨_,⟨fun g o hg=>?_,inj',fun b hb=>imm' b (hr.fresh b hb),fun b g hb=>by rw [← hbs]; exact (Qv hb).2,hr.old,fun b hb=>imm' b (hr.oldImm b hb),fun g hg b hb=>h0.dead g hg b (hbk b g (Qv hb).1 (Qv hb).2)⟩,r1,r2,fr,Nat.le_refl _,fun b g hb hl=>hbk b g (Qv hb).1 (Qv hb).2⟩
    refine (h0.objs g o hg).step (X := fun b=>¬ Kept none (Γ0 b)) ⟨fr.os,fr.tape,fr.output,fr.size,fun b hb hx=>fr.keep b hb (Classical.not_not.1 hx),fr.fix,fr.own⟩ h0.fresh (fun b hx e=>hx ?_) (fun b n i hx e=>hx ?_)
    · rw [e]; exact fun _ _ e=>by cases e
    · rw [e]; exact fun _ _ e=>by cases e
  · rename_i e he
    split at h
    · rename_i hall
      cases h
      rw [he] at fr
      have hlen:(s.hp.take s.bs).length=s.bs:=by simp; omega
      refine ⟨_,⟨fun g o hg=>?_,inj',fun b hb=>imm' b (hr.fresh b hb),fun b g hb=>by rw [hlen]; exact (Qv hb).2,hr.old,fun b hb=>imm' b (hr.oldImm b hb),fun g hg b hb=>hr.dead g (by have hgl:=Zh hg; rw [hlen] at hgl; rw [List.getElem?_take,if_pos hgl] at hg; exact hg) b (Qv hb).1⟩,r1,r2,fr,by omega,fun b g hb hl=>hbk b g (Qv hb).1 (Qv hb).2⟩
      have hgl:=Zh hg
      rw [hlen] at hgl
      have hund:=List.all_eq_true.1 hall o (List.mem_of_getElem? hg)
      rw [List.getElem?_take,if_pos hgl] at hg
      have:=hr.objs g o hg
      cases o with
      | dead=>trivial
      | cells cs t =>
        obtain ⟨b,C,h1,h2,h3,h4⟩:=this
        refine ⟨b,C,by simp [h1,WW,hgl],h2,h3,fun i c hc=>?_⟩
        obtain ⟨a1,a2,a3⟩:=h4 i c hc
        exact ⟨a1,Zcu (List.all_eq_true.1 hund c (List.mem_of_getElem? hc)) a2,a3.fix hf fun b n hb=>⟨by simp [hb,WW,hgl],rfl⟩⟩
      | map es =>
        obtain ⟨b,ms,clk,h1,h2,h3,h4⟩:=this
        exact ⟨b,ms,clk,by simp [h1,WW,hgl],h2,h3,h4⟩
      | iter l pos =>
        obtain ⟨b,h1,h2⟩:=this
        exact ⟨b,by simp [h1,WW,hgl],h2⟩
      | buf _ _ _ =>
        obtain ⟨b,C,h1,h2,h3⟩:=this
        exact ⟨b,C,by simp [h1,WW,hgl],h2,h3.mono fun b n i hb=>⟨by simp [hb,WW,hgl],rfl⟩⟩
    · exact asis h
end
end Go.Proofs.YtdchnngpjjcchaaDoor.Abs
end
section
namespace Go.Proofs.YtdchnngpjjcchaaDoor.Abs
open Go Go.RowKit
def Og (call:FuncId→List AV→List Zi→Option (AV×List Zi×Eff))(f:FuncId)(args:List AV)(hp:List Zi):Option (AV×List Zi×Eff) :=
  match call f args hp with
  | some (v,hp',none)=>match frz hp.length hp' v with
    | some v'=>some (v',hp,none)
    | none=>none
  | _=>none
theorem F8 {P:Program}{W0:World}{call:FuncId→List AV→List Zi→Option (AV×List Zi×Eff)}(hS:Yp P W0 call):Yp P W0 (Og call):=by
  intro f args hp v hp' e h Γ w xs hr ht hs hx
  unfold Og at h
  split at h <;> first | (cases h; done) | skip
  rename_i v0 hp0 hc
  split at h <;> first | (cases h; done) | skip
  rename_i v1 hf
  cases h
  refine (hS f args hp v0 hp0 none hc Γ w xs hr ht hs hx).mono fun cv w' ⟨Γ',r1,r2,r3,r4,r5⟩=>?_
  exact Pn (s := ⟨[],hp0,none,hp.length⟩) hr rfl r5.1 (fun b n g i hb=>ht.cell b n g i hb) r1 r4 r5.2 r2 r3 (keep := false) (by simp only [finish,hf]; rfl)
def Xb:Kind→Kind
  | .own _=>.list 0 .outer
  | .list n (.cell _ _)=>.list n .outer
  | k=>k
def KN:Kind→Bool
  | .own _=>true
  | .list _ (.cell _ _)=>true
  | _=>false
theorem Dx {k:Kind}{o:Nat}(h:WP o k):WP o (Xb k):=by
  cases k with
  | imm=>trivial
  | own g=>exact h.elim
  | list n l=>cases l <;> exact h
theorem Dy {k:Kind}{g:Nat}:Xb k≠.own g:=by
  cases k with
  | imm=>simp [Xb]
  | own g=>simp [Xb]
  | list n l=>cases l <;> simp [Xb]
theorem EW {k:Kind}(h:KN k=false):Xb k=k:=by
  cases k with
  | imm=>rfl
  | own g=>cases h
  | list n l=>cases l <;> first | rfl | cases h
theorem EU {k:Kind}(h:KN k=true):Kept none (Xb k):=by
  cases k with
  | imm=>cases h
  | own g=>trivial
  | list n l=>cases l <;> first | trivial | cases h
theorem Nv {k:Kind}{o:Nat}(h:KN k=true)(hf:WP o (Xb k)):WP o k:=by
  cases k with
  | imm=>cases h
  | own g=>exact absurd hf (Nat.not_lt_zero _)
  | list n l=>cases l <;> first | exact hf | cases h
theorem Rep.bare {Γ Γ':Zq}{w:World}{x:AV}{v:Value}(hf:Yc Γ w Γ' w)(h:Rep Γ w x v)(hb:x.bare=true):Rep Γ' w x v:=by
  cases h with
  | agg cells cv hs h1 hn hr =>
    refine .agg cells cv hs h1 hn fun j c hc=>(hr j c hc).noId hf ?_
    exact List.all_eq_true.1 hb c (List.mem_of_getElem? hc)
  | _=>exact Rep.noId hf (by constructor <;> assumption) hb
theorem Dz {P:Program}{W0:World}{call:FuncId→List AV→List Zi→Option (AV×List Zi×Eff)}(hS:Yp P W0 call):Yp P W0 (ZX call):=by
  intro f args hp v hp' e h Γ w xs hr ht hs hx
  have hc:args.all AV.bare=true∧Og call f args []=some (v,[],none)∧hp'=hp∧e=none:=by
    unfold ZX at h
    split at h <;> first | (cases h; done) | skip
    rename_i hb
    split at h <;> first | (cases h; done) | skip
    rename_i v0 hp0 hc
    split at h <;> first | (cases h; done) | skip
    rename_i v1 hf
    cases h
    refine ⟨hb,?_,rfl,rfl⟩
    unfold Og
    rw [hc]
    simp only [List.length_nil]
    rw [hf]
  obtain ⟨hb,hc,rfl,rfl⟩:=hc
  have f1:Yc Γ w (fun b=>Xb (Γ b)) w:=fun _ _ _ h1 h2=>⟨Dx h1,h2⟩
  have hr1:RW W0 (fun b=>Xb (Γ b)) w []:=⟨fun g o hg=>by simp at hg,fun b b' g hb=>absurd hb Dy,fun b hb=>by simp [hr.fresh b hb,Xb],fun b g hb=>absurd hb Dy,hr.old,fun b hb=>by simp [hr.oldImm b hb,Xb],fun g hg=>by simp at hg⟩
  have ht1:Tidy (fun b=>Xb (Γ b)) 0:=by
    refine ⟨fun b m h=>?_,fun b m j h=>?_,fun b m g i h=>?_⟩
    · have:=ht.res b m
      cases hg:Γ b with
      | imm=>simp [hg,Xb] at h
      | own g=>simp [hg,Xb] at h
      | list n l=>cases l <;> simp [hg,Xb] at h this <;> omega
    · have:=ht.arg b m j
      cases hg:Γ b with
      | imm=>simp [hg,Xb] at h
      | own g=>simp [hg,Xb] at h
      | list n l=>cases l <;> simp [hg,Xb] at h this <;> omega
    · cases hg:Γ b with
      | imm=>simp [hg,Xb] at h
      | own g=>simp [hg,Xb] at h
      | list n l=>cases l <;> simp [hg,Xb] at h
  refine (F8 hS f args [] v [] none hc (fun b=>Xb (Γ b)) w xs hr1 ht1 hs fun j x hj=>?_).mono fun cv w' ⟨Γ',r1,r2,r3,r4,r5⟩=>?_
  · obtain ⟨q1,q2⟩:=hx j x hj
    have hbx:=List.all_eq_true.1 hb x (List.mem_of_getElem? hj)
    refine ⟨q1.bare f1 hbx,fun k rows e=>?_⟩
    rcases q2 k rows e with h | ⟨b,cap,e,cur,h1,h2,h3,h4,h5,h6,h7,h8⟩
    · exact .inl h
    · exact .inr ⟨b,cap,e,cur,h1,by simp [h2,Xb],h3,h4,h5,h6,h7,fun i j r c hi hj=>⟨(h8 i j r c hi hj).1,(h8 i j r c hi hj).2.noId f1 (h8 i j r c hi hj).1⟩⟩
  · have lt:∀ b,Γ b≠.imm→b < w.heap.size:=fun b hb=>by
      rcases Nat.lt_or_ge b w.heap.size with h' | h'
      · exact h'
      · exact absurd (hr.fresh b h') hb
    have lost:∀ b,KN (Γ b)=true→Γ' b=Xb (Γ b)∧w'.heap[b]? = w.heap[b]?:=fun b hb=>r4.keep b (lt b fun e=>by rw [e] at hb; cases hb) (EU hb)
    let Γ2:Zq:=fun b=>if KN (Γ b)=true then Γ b else Γ' b
    have g1:∀ b,KN (Γ b)=true→Γ2 b=Γ b:=fun b hb=>if_pos hb
    have g2:∀ b,¬ KN (Γ b)=true→Γ2 b=Γ' b:=fun b hb=>if_neg hb
    have fix:Yc Γ w Γ2 w':=fun b o y h1 h2=>by
      obtain ⟨k1,k2⟩:=r4.fix b o y (Dx h1) h2
      refine ⟨?_,k2⟩
      unfold Jo
      by_cases hb:KN (Γ b)=true
      · rw [g1 b hb]; exact h1
      · rw [g2 b hb]; exact k1
    have own:Yw Γ Γ2:=fun b g hb=>by rw [g1 b (by rw [hb]; rfl)]; exact hb
    have ownI:∀ b g,Γ2 b=.own g→Γ b=.own g:=fun b g hb=>by
      by_cases hl:KN (Γ b)=true
      · rw [g1 b hl] at hb; exact hb
      · rw [g2 b hl] at hb; exact absurd (r1.lt b g hb) (Nat.not_lt_zero _)
    have fix2:Yc Γ' w' Γ2 w':=fun b o y h1 h2=>by
      refine ⟨?_,h2⟩
      unfold Jo at h1 ⊢
      by_cases hb:KN (Γ b)=true
      · rw [g1 b hb]
        rw [(lost b hb).1] at h1
        exact Nv hb h1
      · rw [g2 b hb]; exact h1
    have own2:Yw Γ' Γ2:=fun b g hb=>absurd (r1.lt b g hb) (Nat.not_lt_zero _)
    have keepL:∀ b,KN (Γ b)=true→Γ2 b=Γ b∧w'.heap[b]? = w.heap[b]?:=fun b hb=>⟨g1 b hb,(lost b hb).2⟩
    have imm2:∀ b,Γ' b=.imm→KN (Γ b)=false→Γ2 b=.imm:=fun b h1 h2=>by rw [g2 b (by rw [h2]; simp)]; exact h1
    refine ⟨Γ2,⟨fun g o hg=>?_,fun b b' g h1 h2=>hr.inj b b' g (ownI b g h1) (ownI b' g h2),fun b hb=>?_,fun b g hb=>hr.lt b g (ownI b g hb),r1.old,fun b hb=>?_,fun g hg b hb=>hr.dead g hg b (ownI b g hb)⟩,r2.mono fix2 own2,r3.mono fix2 own2 fun b n hb=>⟨?_,rfl⟩,
      ⟨r4.os,r4.tape,r4.output,r4.size,fix,own,fun b hb hk=>?_⟩,Nat.le_refl _,fun b g hb _=>ownI b g hb⟩
    · have hold:=hr.objs g o hg
      cases o with
      | dead=>trivial
      | cells cs t =>
        obtain ⟨b,C,h1,h2,h3,h4⟩:=hold
        obtain ⟨k1,k2⟩:=keepL b (by rw [h1]; rfl)
        refine ⟨b,C,k1.trans h1,k2.trans h2,h3,fun i c hc=>?_⟩
        obtain ⟨a1,a2,a3⟩:=h4 i c hc
        refine ⟨a1,a2.mono fix own,a3.mono fix own fun b n hb=>?_⟩
        obtain ⟨k1,k2⟩:=keepL b (by rw [hb]; rfl)
        exact ⟨k1.trans hb,k2⟩
      | map es =>
        obtain ⟨b,ms,clk,h1,h2,h3,h4⟩:=hold
        obtain ⟨k1,k2⟩:=keepL b (by rw [h1]; rfl)
        exact ⟨b,ms,clk,k1.trans h1,k2.trans h2,h3,h4⟩
      | iter l pos =>
        obtain ⟨b,h1,h2⟩:=hold
        obtain ⟨k1,k2⟩:=keepL b (by rw [h1]; rfl)
        exact ⟨b,k1.trans h1,k2.trans h2⟩
      | buf _ _ _ =>
        obtain ⟨b,C,h1,h2,h3⟩:=hold
        obtain ⟨k1,k2⟩:=keepL b (by rw [h1]; rfl)
        refine ⟨b,C,k1.trans h1,k2.trans h2,h3.mono fun b n i hb=>?_⟩
        obtain ⟨k1,k2⟩:=keepL b (by rw [hb]; rfl)
        exact ⟨k1.trans hb,k2⟩
    · refine imm2 b (r1.fresh b hb) ?_
      rw [hr.fresh b (Nat.le_trans r4.size hb)]; rfl
    · refine imm2 b (r1.oldImm b hb) ?_
      rw [hr.oldImm b hb]; rfl
    · by_cases hl:KN (Γ b)=true
      · have:=(lost b hl).1
        rw [hb] at this
        cases hg:Γ b with
        | imm=>simp [hg,Xb] at this
        | own g=>simp [hg,Xb] at this
        | list n l=>cases l <;> simp [hg,Xb] at this <;> (rw [hg] at hl; cases hl)
      · rw [g2 b hl]; exact hb
    · by_cases hl:KN (Γ b)=true
      · exact keepL b hl
      · have hsame:=EW (by simpa using hl:KN (Γ b)=false)
        obtain ⟨k1,k2⟩:=r4.keep b hb (by show Kept none (Xb (Γ b)); rw [hsame]; exact hk)
        exact ⟨by rw [g2 b hl,k1]; exact hsame,k2⟩
end Go.Proofs.YtdchnngpjjcchaaDoor.Abs
end
section
namespace Go.Proofs.YtdchnngpjjcchaaDoor.Abs
open Go Go.RowKit
section
variable {G:Nat→Option (List AV)}{call:FuncId→List AV→List Zi→Option (AV×List Zi×Eff)}
theorem FW {s s':Zc}{ao:AOp}{v:AV}(h:Zd G call s ao=some (v,s')):s'.bs=s.bs:=by
  cases ao <;> simp only [Zd] at h <;> (repeat' split at h) <;> first
    | (cases h; done)
    | (obtain ⟨_,rfl⟩:=Y4 h; rfl)
    | (cases h; rfl)
    | (obtain ⟨x,_,e⟩:=Option.map_eq_some_iff.1 h; cases e; rfl)
theorem ZcI (s:Zc)(d:Option Nat)(v:AV):(s.put d v).bs=s.bs:=by cases d <;> rfl
theorem UG:∀ {l:List Yb} {s s':Zc},ZH G call l s=some s'→s'.bs=s.bs
  | [],s,s',h=>by cases h; rfl
  | o :: l,s,s',h=>by
    simp only [ZH] at h
    split at h <;> first | (cases h; done) | skip
    rename_i s1 h1
    rw [UG h]
    simp only [Zv] at h1
    split at h1 <;> first | (cases h1; done) | skip
    · split at h1 <;> first | (cases h1; done) | skip
      rename_i v s2 h2
      obtain rfl:=Option.some.inj h1
      rw [ZcI,FW h2]
    · obtain rfl:=Option.some.inj h1
      rw [ZcI]
theorem CV {f:Zc→Option (Kw×Zc)}(hf:∀ {s:Zc} {r:Kw×Zc},f s=some r→r.2.bs=s.bs):∀ (n:Nat) {s:Zc} {r:Kw×Zc},iter f n s=some r→r.2.bs=s.bs
  | 0,_,_,h=>by cases h
  | n + 1,s,r,h=>by
    simp only [iter] at h
    split at h
    · rename_i s1 h1
      rw [CV hf n h]
      exact hf h1
    · exact hf h
theorem NM (L:Nat):∀ {c:ZA} {s:Zc} {r:Kw×Zc},Z4 G call L c s=some r→r.2.bs=s.bs:=by
  intro c
  induction c with
  | skip=>intro s r h; cases h; rfl
  | region draw ops =>
    intro s r h
    cases draw with
    | false =>
      simp only [Z4] at h
      obtain ⟨s1,h1,rfl⟩:=Option.map_eq_some_iff.1 h
      exact UG h1
    | true =>
      simp only [Z4] at h
      obtain ⟨s1,h1,rfl⟩:=Option.map_eq_some_iff.1 h
      exact UG h1
  | regionB ops =>
    intro s r h
    simp only [Z4] at h
    obtain ⟨s1,h1,rfl⟩:=Option.map_eq_some_iff.1 h
    exact UG h1
  | seq x y ihx ihy =>
    intro s r h
    simp only [Z4] at h
    split at h
    · rename_i s1 h1
      rw [ihy h]; exact ihx h1
    · exact ihx h
  | cond c x y ihx ihy =>
    intro s r h
    simp only [Z4] at h
    split at h <;> first | (cases h; done) | skip
    · exact ihx h
    · exact ihy h
  | block id c ih =>
    intro s r h
    simp only [Z4] at h
    split at h
    · rename_i i s1 h1
      have:=ih h1
      split at h <;> (obtain rfl:=Option.some.inj h; exact this)
    · exact ih h
  | loop c ih =>
    intro s r h
    simp only [Z4] at h
    exact CV ih L h
  | scope c ih=>intro s r h; simp only [Z4] at h; exact ih h
  | exit id=>intro s r h; cases h; rfl
  | ret=>intro s r h; cases h; rfl
  | bad=>intro s r h; cases h
end
structure CfgOk (P:Program)(W0:World)(C:Cfg):Prop where
  mixed:P.follows .mixedOrders=true
  globals:GOk C.G W0
  table:∀ f af,C.T f=some af→∃ fn takes,P.funcs[f]? = some fn∧(fn.name == "runtime.NumGoroutine")=false∧cFn P takes fn=some af
  oracle:Yp P W0 C.O
theorem DY {P:Program}{f:FuncId}{fn:Func}{c:Code}(hf:P.funcs[f]? = some fn)(hn:(fn.name == "runtime.NumGoroutine")=false)(hb:fn.body=some c)(xs:Array Value)(w:World):(callFunc f xs).run P w=.ok (.enter f xs) w:=by
  have hn':¬ fn.name = "runtime.NumGoroutine" := by simpa using hn
  simp [callFunc,program,hf,hn',hb,Sem.run]
theorem J5 {P:Program}{W0:World}{C:Cfg}(h:CfgOk P W0 C):∀ n,Yp P W0 (Za C n):=by
  intro n
  induction n with
  | zero=>intro f args hp v hp' e hc; cases hc
  | succ n ih =>
    intro f args hp v hp' e hc Γ w xs hr ht hs hx
    simp only [Za] at hc
    split at hc
    case h_2=>exact h.oracle f args hp v hp' e hc Γ w xs hr ht hs hx
    rename_i af haf
    obtain ⟨fn,takes,hf,hname,hcf⟩:=h.table f af haf
    unfold cFn at hcf
    split at hcf <;> first | (cases hcf; done) | skip
    rename_i c rs hb hrs
    obtain ⟨ac,hac,rfl⟩:=Option.map_eq_some_iff.1 hcf
    split at hc
    · cases hc
    · rename_i x s hne hev
      split at hc <;> first | (cases hc; done) | skip
      rename_i u hu
      have hfin:=Option.some.inj hc
      refine ⟨DY hf hname hb xs w,?_⟩
      have hbs:s.bs=hp.length:=NM C.L hev
      have hI:Inv ⟨W0,Γ,w⟩ ⟨args ++ List.replicate (fn.ntmps - args.length) .undef,hp,none,hp.length⟩ Γ { tmps := xs ++ Array.replicate (fn.ntmps - xs.size) Go.undef,defers := [] } w:=by
        have get:∀ (t:Nat) (y:AV),(args ++ List.replicate (fn.ntmps - args.length) AV.undef)[t]? = some y→(args[t]? = some y∧(xs ++ Array.replicate (fn.ntmps - xs.size) Go.undef).getD t Go.undef=xs.getD t Go.undef)∨(y=.undef∧(xs ++ Array.replicate (fn.ntmps - xs.size) Go.undef).getD t Go.undef=Go.undef):=by
          intro t y hy
          rw [List.getElem?_append] at hy
          split at hy
          · rename_i hlt
            refine .inl ⟨hy,?_⟩
            rw [Array.getD_eq_getD_getElem?,Array.getD_eq_getD_getElem?,Array.getElem?_append_left (by omega)]
          · rename_i hge
            have hm:=List.mem_of_getElem? hy
            have:=List.eq_of_mem_replicate hm
            refine .inr ⟨this,?_⟩
            have hlt:=Zh hy
            simp only [List.length_replicate] at hlt
            rw [Array.getD_eq_getD_getElem?,Array.getElem?_append_right (by omega),Array.getElem?_replicate,if_pos (by omega)]
            rfl
        refine ⟨rfl,⟨by simp [hs],fun t y hy=>?_,fun t y hy=>?_⟩,hr,.refl _ _ _,fun b g hb=>hr.lt b g hb,fun b m g i hb=>ht.cell b m g i hb,Nat.le_refl _,fun _ _ hb _=>hb⟩
        · rcases get t y hy with ⟨h1,h2⟩ | ⟨rfl,h2⟩
          · rw [h2]; exact (hx t y h1).1
          · rw [h2]; exact .undef
        · rcases get t y hy with ⟨h1,h2⟩ | ⟨rfl,h2⟩
          · rw [h2]; exact (hx t y h1).2
          · exact .of_ne (by simp)
      have hw:=ND h.mixed h.globals ih (Dz ih) C.L hac hev hI
      refine calls_of_wp hf hb (Go.wp_mono hw fun en a' w' he=>?_)
      obtain ⟨k1,Γ',i1⟩:=he
      have fin:a'.defers=[]∧∃ cv,(results fn a'.tmps).run P w'=.ok cv w'∧∃ v',Ending.returned cv=.returned v'∧∃ Γ',RW W0 Γ' w' hp'∧Rep Γ' w' v v'∧OwnAt Γ' w' .res v v'∧Frame Γ w Γ' w' e∧hp.length≤hp'.length∧∀ b g,Γ' b=.own g→g < hp.length→Γ b=.own g:=by
        obtain ⟨cv,Γ2,q1,q2,q3,q4,q5,q6⟩:=Zf5 i1 hrs hu
        obtain ⟨Γ3,p1,p2,p3,p4,p5⟩:=Pn hr hbs (by rw [hbs]; have:=i1.le; simpa [hbs] using this) (fun b m g i hb=>by rw [hbs]; exact ht.cell b m g i hb) q2 q3 q6 q4 q5 hfin
        exact ⟨i1.defers,cv,q1,cv,rfl,Γ3,p1,p2,p3,p4,p5⟩
      cases x with
      | exit i=>exact (hne i rfl).elim
      | normal=>cases en <;> first | exact k1.elim | exact fin
      | ret=>cases en <;> first | exact k1.elim | exact fin
    · cases hc
end Go.Proofs.YtdchnngpjjcchaaDoor.Abs
end
section
namespace Go.Proofs.YtdchnngpjjcchaaDoor.Abs
open Go Go.RowKit
def still:Zq:=fun _=>.imm
theorem Zcj (W:World):RW W still W [] :=
  ⟨fun g o hg=>by simp at hg,fun b b' g h=>(by cases h),fun _ _=>rfl,fun b g h=>(by cases h),⟨rfl,rfl,rfl,Nat.le_refl _,fun _ _=>rfl⟩,fun _ _=>rfl,fun g hg=>by simp at hg⟩
theorem RN:Tidy still 0:=⟨fun _ _ h=>(by cases h),fun _ _ _ h=>(by cases h),fun _ _ _ _ h=>(by cases h)⟩
theorem P6 {P:Program}{W:World}{C:Cfg}(h:CfgOk P W C){n:Nat}{f:FuncId}{avs:List AV}{hp:List Zi}{e:Eff}(hev:Za C n f avs []=some (.bool true,hp,e)){args:Array Value}
    (hs:args.size=avs.length) (hr:∀ (j:Nat) (x:AV),avs[j]? = some x→Rep still W x (args.getD j Go.undef)∧∀ k r,x≠.own k r) :
    Calls P f args W fun e W'=>e=.returned (.bool true)∧Below W.heap.size W W':=by
  obtain ⟨_,hw⟩:=J5 h n f avs [] _ _ _ hev still W args (Zcj W) RN hs fun j x hx=>⟨(hr j x hx).1,.of_ne (hr j x hx).2⟩
  refine hw.mono fun en W' ⟨cv,hv,Γ',r1,r2,_,r4,_⟩=>?_
  subst hv
  cases r2
  exact ⟨rfl,r4.os,r4.tape,r4.output,r4.size,fun b hb=>(r4.keep b hb trivial).2⟩
end Go.Proofs.YtdchnngpjjcchaaDoor.Abs
end
section
namespace Go.Proofs.YtdchnngpjjcchaaDoor.Abs
open Go Go.RowKit
def RV (P:Program)(W0:World)(f:FuncId)(args:List AV)(v:AV):Prop :=
  (∀ k r,v≠.own k r)∧∀ (Γ:Zq) (w:World) (xs:Array Value),Below W0.heap.size W0 w→(∀ b,w.heap.size≤b→Γ b=.imm)→xs.size=args.length→(∀ (j:Nat) (x:AV),args[j]? = some x→Rep Γ w x (xs.getD j Go.undef)) →
    ZaV P f xs w fun cv w'=>Below w.heap.size w w'∧Rep Γ w' v cv
theorem Md {P:Program}{W0:World}{O:FuncId→List AV→Option AV}(h:∀ f args v,O f args=some v→RV P W0 f args v) :
    Yp P W0 fun f args hp=>(O f args).map fun v=>(v,hp,none):=by
  intro f args hp v hp' e ho Γ w xs hr _ hs hx
  obtain ⟨u,hu,e1⟩:=Option.map_eq_some_iff.1 ho
  cases e1
  obtain ⟨hown,hrun⟩:=h f args v hu
  refine (hrun Γ w xs hr.old hr.fresh hs fun j x hj=>(hx j x hj).1).mono fun cv w' ⟨hb,hv⟩=>?_
  have st:Step Γ w Γ w' fun _=>False:=⟨hb.os,hb.tape,hb.output,hb.size,fun b hbl _=>⟨rfl,hb.block b hbl⟩,fun b o v h1 h2=>⟨h1,(Vh (hb.block b (lt_of_cell h2))).trans h2⟩,.refl _⟩
  obtain ⟨o1,o2⟩:=XT hr.old hr.oldImm st fun _ hx=>hx.elim
  refine ⟨Γ,⟨fun g o hg=>(hr.objs g o hg).step st hr.fresh (fun _ hx=>hx.elim) (fun _ _ _ hx=>hx.elim),hr.inj,fun b hbl=>hr.fresh b (Nat.le_trans hb.size hbl),hr.lt,o1,o2,hr.dead⟩,hv,.of_ne hown,⟨hb.os,hb.tape,hb.output,hb.size,st.fix,.refl _,fun b hbl _=>⟨rfl,hb.block b hbl⟩⟩,Nat.le_refl _,fun _ _ hb _=>hb⟩
theorem WV {P:Program}{f:FuncId}{fn:Func}{c:Code}{xs:Array Value}{w:World}{R:Value→World→Prop}(hf:P.funcs[f]? = some fn)(hn:(fn.name == "runtime.NumGoroutine")=false)(hb:fn.body=some c)
    (h:Calls P f xs w fun e w'=>∃ v,e=.returned v∧R v w'):ZaV P f xs w R:=⟨DY hf hn hb xs w,h⟩
end Go.Proofs.YtdchnngpjjcchaaDoor.Abs
end
section
namespace Go.Proofs.YtdchnngpjjcchaaDoor.Abs
open Go
inductive KV where
  | raw (v:AV)
  | cln (v:AV)
def KV.val:KV→AV
  | .raw v=>v
  | .cln v=>v
def KV.rd:KV→AV
  | .raw v=>v.ro
  | .cln v=>v
abbrev UL {α:Type}(b:Bool)(x y:α):α :=
  match b with
  | true=>x
  | false=>y
abbrev Env:=Nat→KV
def Env.set (e:Env)(t:Nat)(v:KV):Env:=fun u=>UL (Nat.beq u t) v (e u)
def Env.put (e:Env)(d:Option Nat)(v:KV):Env :=
  match d with
  | some d=>e.set d v
  | none=>e
abbrev KR:=Option (AV×List Zi×Eff)
abbrev XD:=Env→List Zi→Eff→KR
abbrev rdK {α:Type}(x:Option α)(k:α→KR):KR :=
  match x with
  | some v=>k v
  | none=>none
def Ze {α:Type}(x:Option α)(k:α→KR):KR :=
  match x with
  | some v=>k v
  | none=>none
def XR {α β:Type}(x:Option (α×β))(k:α→β→KR):KR :=
  match x with
  | some (a,b)=>k a b
  | none=>none
def Y1 {α β γ:Type}(x:Option (α×β×γ))(k:α→β→γ→KR):KR :=
  match x with
  | some (a,b,c)=>k a b c
  | none=>none
def ifK (v:AV)(a b:KR):KR :=
  match v with
  | .bool true=>a
  | .bool false=>b
  | _=>none
def Ko (want:Bool):AV→Option Bool
  | .bool b=>some (b == want)
  | .undef=>some false
  | _=>none
def Kq (g:Option Bool)(x:KR)(hp:List Zi)(ef:Eff)(k:AV→List Zi→Eff→KR):KR :=
  match g with
  | some true=>Y1 x k
  | some false=>k .undef hp ef
  | none=>none
def ZcA (g:Option Bool)(a b:KR):KR :=
  match g with
  | some true=>a
  | some false=>b
  | none=>none
def Ql (c:AV)(want:Bool)(x:KR)(other:Option AV)(hp:List Zi)(ef:Eff)(k:AV→List Zi→Eff→KR):KR :=
  match c with
  | .bool b=>match b == want with
    | true=>Y1 x k
    | false=>Ze other fun v=>k v hp ef
  | _=>none
def MM {α:Type}(x:α)(k:α→KR):KR:=k x
def XQ (bs:Nat)(ef:Eff)(g v:Nat):Eff:=if g < bs then Eff.or ef (some (g,v)) else ef
def Zf (bs:Nat)(ef:Eff):Eff→Eff
  | some (a,b)=>if a < bs then Eff.or ef (some (a,b)) else ef
  | none=>ef
def Lj (c a b:AV):Option AV :=
  match c with
  | .bool true=>some a
  | .bool false=>some b
  | _=>none
def SX (n:Nat)(v:AV):Option (List AV):=if v.cells.length=n∧v.laid=true then some v.cells else none
def Tz (e:TypeId)(k:Nat)(vs:List AV)(hp:List Zi):Option (AV×List Zi) :=
  if vs.all (fun v=>v.cells.length == k && v.cells.all AV.noId1) then some (.own k (vs.map fun v=>v.cells.map AV.ro),hp)
  else if vs.all (fun v=>v.cells.length == k && v.laid) then some (.arr hp.length 0 vs.length k,hp ++ [.cells (vs.map AV.cells).flatten e]) else none
def ZeU (e:TypeId)(k:Nat)(vs:List AV)(hp:List Zi):Option (AV×List Zi) :=
  if vs.all (fun v=>v.cells.length == k && v.laid) then some (.arr hp.length 0 vs.length k,hp ++ [.cells (vs.map AV.cells).flatten e]) else none
def ZgT (bs:Nat)(p:AV)(hp:List Zi)(ef:Eff):Option (AV×List Zi×Eff) :=
  match p with
  | .ptr g o=>match hp[g]? with
    | some (.cells cs t)=>match cs[o]? with
      | some v=>some (v.up,hp.set g (.cells (cs.set o v.ro) t),XQ bs ef g 0)
      | none=>none
    | _=>none
  | _=>none
def stV (bs n:Nat)(p v:AV)(hp:List Zi)(ef:Eff):Option (List Zi×Eff) :=
  match p with
  | .ptr g o=>match hp[g]? with
    | some (.cells cs t)=>if v.cells.length=n∧o + n≤cs.length∧v.laid=true then some (hp.set g (.cells (splice cs o v.cells) t),XQ bs ef g 0) else none
    | _=>none
  | _=>none
def Lt (bs:Nat)(p v:AV)(hp:List Zi)(ef:Eff):Option (List Zi×Eff) :=
  match p with
  | .ptr g o=>match hp[g]? with
    | some (.cells cs t)=>if v.one=true∧o < cs.length then some (hp.set g (.cells (cs.set o v) t),XQ bs ef g 0) else none
    | _=>none
  | _=>none
def Qw:AV→Option AV
  | .ref c=>some (.ref c)
  | .ptr g o=>some (.ptr g o)
  | .fn f a c=>some (.fn f a c)
  | _=>none
def PD (e:TypeId)(zero:List AV)(n:AV)(hp:List Zi):Option (AV×List Zi) :=
  match n with
  | .int _ n=>if 0≤n∧n≤4294967296 then some (.arr hp.length 0 n.toNat zero.length,hp ++ [.cells (List.flatten (List.replicate n.toNat zero)) e]) else none
  | _=>none
def ZeY (bs:Nat)(sh:KSh)(m k v:AV)(hp:List Zi)(ef:Eff):Option (List Zi×Eff) :=
  match m with
  | .map g=>match hp[g]? with
    | some (.map es)=>if Ux sh k && v.flat1 then match update sh k v es with
        | some es'=>some (hp.set g (.map es'),XQ bs ef g 0)
        | none=>none
      else none
    | _=>none
  | _=>none
def ZcJ (x:AV)(hp:List Zi):Option (AV×List Zi) :=
  match x with
  | .str b=>some (.ptr hp.length 0,hp ++ [.iter b 0])
  | _=>none
def ZeZ (bs:Nat)(x:AV)(hp:List Zi)(ef:Eff):Option (AV×List Zi×Eff) :=
  match x with
  | .ptr g 0=>match hp[g]? with
    | some (.iter b pos)=>if pos < b.length then
        some (.tup [.bool true,.int .i64 pos,.int .i32 (Utf8.decode ⟨b.toArray⟩ pos).1],hp.set g (.iter b (pos + (Utf8.decode ⟨b.toArray⟩ pos).2)),XQ bs ef g 0)
      else some (.tup [.bool false],hp,ef)
    | _=>none
  | _=>none
def Zm (x:AV)(i:Nat):Option AV :=
  match x with
  | .tup vs=>(vs[i]?).map AV.ro
  | _=>none
def MQ (k bytes:Nat)(s x:AV)(hp:List Zi):Option AV :=
  match s with
  | .own k' r=>match rowsOf hp x with
    | some (k'',r')=>if k=k'∧k=k''∧r'.all (·.all AV.noId1)∧(r.length + r'.length) * bytes≤140737488355328 then some (.own k (r ++ r')) else none
    | none=>none
  | _=>none
def Zex (bytes:Nat)(s x:AV):Option AV :=
  match s,x with
  | .own k r,.str l=>if k=1∧(r.length + l.length) * bytes≤140737488355328 then some (.own 1 (r ++ l.map byteRow)) else none
  | _,_=>none
def Zew (k bytes:Nat)(x:AV)(hp:List Zi):Option AV :=
  match rowsOf hp x with
  | some (k'',r')=>if k=k''∧r'.all (·.all AV.noId1)∧r'.length * bytes≤140737488355328 then some (.own k r') else none
  | none=>none
def copyV (bs k:Nat)(d x:AV)(hp:List Zi)(ef:Eff):Option (AV×List Zi×Eff) :=
  match d with
  | .arr g off len k''=>match rowsOf hp x,hp[g]? with
    | some (k',r),some (.cells cs t)=>if k=k'∧k=k''∧off + Nat.min r.length len * k≤cs.length∧((r.take (Nat.min r.length len)).flatten.map AV.ro).all AV.one=true then
        some (.int .i64 (Nat.min r.length len:Nat),hp.set g (.cells (splice cs off ((r.take (Nat.min r.length len)).flatten.map AV.ro)) t),XQ bs ef g 0) else none
    | _,_=>none
  | .lst _ []=>match rowsOf hp x with
    | some (k',_)=>if k=k' then some (.int .i64 0,hp,ef) else none
    | none=>none
  | _=>none
def ZeX:List AV→Option AV
  | .int .i64 n :: l=>(minL n l).map fun n=>.int .i64 n
  | _=>none
def ZeW:List AV→Option AV
  | .int .i64 n :: l=>(maxL n l).map fun n=>.int .i64 n
  | _=>none
def Ze9 (K:FuncId→List AV→List Zi→KR)(f:AV)(vs:List AV)(hp:List Zi):KR :=
  match f with
  | .fn f first caps=>K f (first.map AV.nm ++ vs ++ caps.map AV.nm) hp
  | _=>none
def Xl:List Nat→Nat→Bool
  | [],_=>true
  | u :: l,t=>UL (Nat.beq u t) false (Xl l t)
def rm (d:Nat):List Nat→List Nat
  | []=>[]
  | u :: l=>UL (Nat.beq u d) (rm d l) (u :: rm d l)
def rmO (d:Option Nat)(P:List Nat):List Nat :=
  match d with
  | some d=>rm d P
  | none=>P
def Qy:AOp→Bool
  | .take _ | .stt .. | .app .. | .apps .. => true
  | .call _ args=>args.any fun
    | .inl _=>true
    | .inr _=>false
  | _=>false
def WQ (N t:Nat)(want:Bool)(P:List Nat):List Nat→List Yb→Nat
  | _,[]=>0
  | ds,o :: l=>match o.guard,o.dst with
    | some (u,w),some d =>
      UL (((Nat.beq u t && (w == want)) || !Xl ds u) && !Nat.beq d t && !Xl P d && !Qy o.op && Nat.blt d N) (WQ N t want P (d :: ds) l + 1) 0
    | _,_=>0
def inA (t:Nat)(w:Bool):List (Nat×Bool)→Bool
  | []=>false
  | (u,v) :: l=>UL (Nat.beq u t && (v == w)) true (inA t w l)
section
variable (G:Nat→Option (List AV))(N bs:Nat)(P:List Nat)
def YS (e:Env):Yv→Option AV
  | .tmp t=>UL ((Nat.blt t N && Xl P t)) (some (e t).rd) (none)
  | .const v=>some v
  | .glob g=>(G g).map .ref
def Kr (e:Env):List Yv→Option (List AV)
  | []=>some []
  | x :: l=>match YS G N P e x with
    | some v=>match Kr e l with
      | some vs=>some (v :: vs)
      | none=>none
    | none=>none
def Ol (e:Env):Option Yv→Option (Option AV)
  | none=>some none
  | some x=>match YS G N P e x with
    | some v=>some (some v)
    | none=>none
def mvK (e:Env)(x:Yv)(k:KV→KR):KR :=
  match x with
  | .tmp t=>UL ((Nat.blt t N && Xl P t)) (k (.cln (e t).rd)) none
  | .const v=>k (.raw v)
  | .glob g=>Ze (G g) fun c=>k (.cln (.ref c))
def Bc:Env→List (Nat ⊕ Yv)→Option (List AV×Env)
  | e,[]=>some ([],e)
  | e,.inl t :: l=>UL ((Nat.blt t N && Xl P t)) (match Bc (e.set t (.cln (e t).rd)) l with
    | some (vs,e')=>some ((e t).val :: vs,e')
    | none=>none) none
  | e,.inr x :: l=>match YS G N P e x with
    | some v=>match Bc e l with
      | some (vs,e')=>some (v :: vs,e')
      | none=>none
    | none=>none
variable (K:FuncId→List AV→List Zi→KR)
def opK (e:Env)(hp:List Zi)(ef:Eff)(op:AOp)(k:KV→Env→List Zi→Eff→KR):KR :=
  match op with
  | .bad=>none
  | .mv x=>mvK G N P e x fun v=>k v e hp ef
  | .take t=>UL ((Nat.blt t N && Xl P t)) (k (e t) (e.set t (.cln (e t).rd)) hp ef) none
  | .pick c a b=>rdK (YS G N P e c) fun c=>rdK (YS G N P e a) fun a=>rdK (YS G N P e b) fun b=>Ze (Lj c a b) fun v=>k (.raw v) e hp ef
  | .mk t cells=>k (.cln (.ptr hp.length 0)) e (hp ++ [.cells cells t]) ef
  | .box t n x=>rdK (YS G N P e x) fun v=>Ze (SX n v) fun cs=>k (.cln (.ptr hp.length 0)) e (hp ++ [.cells cs t]) ef
  | .build zero parts=>rdK (Kr G N P e (parts.map (·.2.2))) fun vs=>Ze (fill zero ((parts.zip vs).map fun (p,v)=>(p.1,p.2.1,v.nm))) fun cs=>k (.cln (.agg cs)) e hp ef
  | .lit t n parts=>rdK (Kr G N P e parts) fun vs=>XR (Tz t n vs hp) fun v hp'=>k (.raw v) e hp' ef
  | .lita t n parts=>rdK (Kr G N P e parts) fun vs=>XR (ZeU t n vs hp) fun v hp'=>k (.raw v) e hp' ef
  | .ldc p=>rdK (YS G N P e p) fun p=>Ze (Zt hp p) fun v=>k (.cln v) e hp ef
  | .lda n p=>rdK (YS G N P e p) fun p=>Ze (ZV hp n p) fun v=>k (.cln v) e hp ef
  | .ldt p=>rdK (YS G N P e p) fun p=>Y1 (ZgT bs p hp ef) fun v hp' ef'=>k (.raw v) e hp' ef'
  | .st n p x=>rdK (YS G N P e p) fun p=>rdK (YS G N P e x) fun v=>XR (stV bs n p v hp ef) fun hp' ef'=>k (.cln .undef) e hp' ef'
  | .stt p t=>rdK (YS G N P e p) fun p=>UL ((Nat.blt t N && Xl P t)) (XR (Lt bs p (e t).val hp ef) (fun hp' ef'=>k (.cln .undef) (e.set t (.cln (e t).rd)) hp' ef')) none
  | .nilchk x=>rdK (YS G N P e x) fun x=>Ze (Qw x) fun v=>k (.cln v) e hp ef
  | .bin op sh x y=>rdK (YS G N P e x) fun a=>rdK (YS G N P e y) fun b=>Ze (Zb op sh a b) fun v=>k (.cln v) e hp ef
  | .un op x=>rdK (YS G N P e x) fun a=>Ze (XH op a) fun v=>k (.cln v) e hp ef
  | .conv c x=>rdK (YS G N P e x) fun a=>Ze (ZM hp c a) fun v=>k (.cln v) e hp ef
  | .mkfn f first caps=>rdK (Kr G N P e first) fun us=>rdK (Kr G N P e caps) fun vs=>k (.cln (.fn f us vs)) e hp ef
  | .mkmap=>k (.cln (.map hp.length)) e (hp ++ [.map []]) ef
  | .mksl t zero n=>rdK (YS G N P e n) fun n=>XR (PD t zero n hp) fun v hp'=>k (.cln v) e hp' ef
  | .slice sh x lo hi=>rdK (YS G N P e x) fun x=>rdK (Ol G N P e lo) fun lo=>rdK (Ol G N P e hi) fun hi=>Ze (WH sh x lo hi) fun v=>k (.cln v) e hp ef
  | .slice3 sh x hi mx=>rdK (YS G N P e x) fun x=>rdK (YS G N P e hi) fun hi=>rdK (YS G N P e mx) fun mx=>Ze (WY sh x hi mx) fun v=>k (.cln v) e hp ef
  | .fa off x=>rdK (YS G N P e x) fun x=>Ze (Yh off x) fun v=>k (.cln v) e hp ef
  | .fld off n agg x=>rdK (YS G N P e x) fun x=>Ze (LX off n agg x) fun v=>k (.cln v) e hp ef
  | .ia sh x i=>rdK (YS G N P e x) fun x=>rdK (YS G N P e i) fun i=>Ze (ZZ sh x i) fun v=>k (.cln v) e hp ef
  | .idx x i=>rdK (YS G N P e x) fun x=>rdK (YS G N P e i) fun i=>Ze (LZ x i) fun v=>k (.cln v) e hp ef
  | .look sh zero x i ok=>rdK (YS G N P e x) fun x=>rdK (YS G N P e i) fun i=>Ze (BK hp sh zero x i ok) fun v=>k (.raw v) e hp ef
  | .mupd sh m i v=>rdK (YS G N P e m) fun m=>rdK (YS G N P e i) fun i=>rdK (YS G N P e v) fun v=>XR (ZeY bs sh m i v hp ef) fun hp' ef'=>k (.cln .undef) e hp' ef'
  | .range x=>rdK (YS G N P e x) fun x=>XR (ZcJ x hp) fun v hp'=>k (.cln v) e hp' ef
  | .next x=>rdK (YS G N P e x) fun x=>Y1 (ZeZ bs x hp ef) fun v hp' ef'=>k (.cln v) e hp' ef'
  | .extract x i=>rdK (YS G N P e x) fun x=>Ze (Zm x i) fun v=>k (.cln v) e hp ef
  | .len sh x=>rdK (YS G N P e x) fun x=>Ze (ZR hp sh x) fun v=>k (.cln v) e hp ef
  | .app n bytes t x=>UL ((Nat.blt t N && Xl P t)) (rdK (YS G N P e x) (fun x=>Ze (MQ n bytes (e t).val x hp) fun v=>k (.raw v) (e.set t (.cln (e t).rd)) hp ef)) none
  | .apps bytes t x=>UL ((Nat.blt t N && Xl P t)) (rdK (YS G N P e x) (fun x=>Ze (Zex bytes (e t).val x) fun v=>k (.raw v) (e.set t (.cln (e t).rd)) hp ef)) none
  | .appn n bytes x=>rdK (YS G N P e x) fun x=>Ze (Zew n bytes x hp) fun v=>k (.raw v) e hp ef
  | .copy n d x=>rdK (YS G N P e d) fun d=>rdK (YS G N P e x) fun x=>Y1 (copyV bs n d x hp ef) fun v hp' ef'=>k (.cln v) e hp' ef'
  | .min xs=>rdK (Kr G N P e xs) fun vs=>Ze (ZeX vs) fun v=>k (.cln v) e hp ef
  | .max xs=>rdK (Kr G N P e xs) fun vs=>Ze (ZeW vs) fun v=>k (.cln v) e hp ef
  | .call f args=>rdK (YS G N P e f) fun f=>rdK (Bc G N P e args) fun p=>Y1 (Ze9 K f p.1 hp) fun v hp' ef'=>k (.raw v) p.2 hp' (Zf bs ef ef')
def ZdL (A:List (Nat×Bool))(o:Yb)(e:Env)(hp:List Zi)(ef:Eff)(k:XD):KR :=
  match o.guard with
  | none=>opK G N bs P K e hp ef o.op fun v e' hp' ef'=>k (e'.put o.dst v) hp' ef'
  | some (t,want)=>UL (inA t want A) (opK G N bs P K e hp ef o.op fun v e' hp' ef'=>k (e'.put o.dst v) hp' ef') (UL (Nat.blt t N && Xl P t)
      (UL (Qy o.op)
        (ZcA (Ko want (e t).val) (opK G N bs P K e hp ef o.op fun v e' hp' ef'=>k (e'.put o.dst v) hp' ef') (k (e.put o.dst (.cln .undef)) hp ef))
        (Kq (Ko want (e t).val) (opK G N bs P K e hp ef o.op fun v _ hp' ef'=>some (v.val,hp',ef')) hp ef fun v hp' ef'=>k (e.put o.dst (.raw v)) hp' ef'))
      none)
end
section
variable (G:Nat→Option (List AV))(N bs:Nat)(K:FuncId→List AV→List Zi→KR)
def CB (A:List (Nat×Bool))(P:List Nat)(ops:List Yb):Option (Nat×Bool×Nat×Option Nat×Yv×Yv×List Yb) :=
  match ops with
  | []=>none
  | o :: l=>match o.guard with
    | none=>none
    | some (t,want)=>UL (inA t want A) none
      (match (o :: l).drop (WQ N t want P [] (o :: l)) with
      | ⟨d,.pick (.tmp u) a b,none⟩ :: rest=>UL (Nat.beq u t && Nat.blt t N && Xl P t && Nat.blt 0 (WQ N t want P [] (o :: l))) (some (t,want,WQ N t want P [] (o :: l),d,a,b,rest)) none
      | ⟨d,.pick (.tmp u) a b,some (gt,gw)⟩ :: rest=>UL (inA gt gw A && Nat.beq u t && Nat.blt t N && Xl P t && Nat.blt 0 (WQ N t want P [] (o :: l))) (some (t,want,WQ N t want P [] (o :: l),d,a,b,rest)) none
      | _=>none)
def FY:Nat→List (Nat×Bool)→List Nat→List Yb→List Nat
  | 0,_,P,_=>P
  | _ + 1,_,P,[]=>P
  | n + 1,A,P,o :: l=>match CB N A P (o :: l) with
    | some (_,_,_,d,_,_,rest)=>FY n A (rmO d P) rest
    | none=>FY n A (rmO o.dst P) l
def EC:Nat→List (Nat×Bool)→List Nat→List Yb→XD→XD
  | _,_,_,[],k=>k
  | 0,_,_,_ :: _,_=>fun _ _ _=>none
  | n + 1,A,P,o :: l,k=>match CB N A P (o :: l) with
    | some (t,want,m,d,a,b,rest)=>fun e hp ef=>Ql (e t).val want
        (EC n ((t,want) :: A) P ((o :: l).take m) (fun e' hp' ef'=>rdK (YS G N (FY N n ((t,want) :: A) P ((o :: l).take m)) e' (UL want a b)) fun v=>some (v,hp',ef')) e hp ef)
        (YS G N P e (UL want b a)) hp ef fun v hp' ef'=>EC n A (rmO d P) rest k (e.put d (.raw v)) hp' ef'
    | none=>fun e hp ef=>ZdL G N bs P K A o e hp ef (EC n A (rmO o.dst P) l k)
def Zb7 (id:Nat):List (Nat×XD)→XD
  | []=>fun _ _ _=>none
  | (i,k) :: l=>UL (Nat.beq i id) (k) (Zb7 id l)
def QH (F:XD→XD):Nat→XD
  | 0=>fun _ _ _=>none
  | n + 1=>F (QH F n)
variable (P:List Nat)(L:Nat)
def ZF:ZA→XD→XD→List (Nat×XD)→XD
  | .skip,n,_,_=>n
  | .region false ops,n,_,_=>EC G N bs K ops.length [] P ops n
  | .region true ops,n,_,_=>EC G N bs (Yo K) ops.length [] P ops n
  | .regionB ops,n,_,_=>EC G N bs (ZX K) ops.length [] P ops n
  | .seq a b,n,r,xs=>ZF a (ZF b n r xs) r xs
  | .cond c a b,n,r,xs=>fun e hp ef=>rdK (YS G N P e c) fun v=>ifK v (ZF a n r xs e hp ef) (ZF b n r xs e hp ef)
  | .block id c,n,r,xs=>ZF c n r ((id,n) :: xs)
  | .loop c,_,r,xs=>QH (fun n'=>ZF c n' r xs) L
  | .scope c,n,r,xs=>ZF c n r xs
  | .exit id,_,_,xs=>Zb7 id xs
  | .ret,_,r,_=>r
  | .bad,_,_,_=>fun _ _ _=>none
end
def Zes (e:Env)(N:Nat)(P:List Nat)(hp:List Zi):Np→Option AV
  | .tmp t=>UL ((Nat.blt t N && Xl P t)) (some (e t).val) (none)
  | .one t=>UL ((Nat.blt t N && Xl P t)) (Zt hp (e t).val) (none)
  | .agg t n=>UL ((Nat.blt t N && Xl P t)) (ZV hp n (e t).val) (none)
def Zcc (e:Env)(N:Nat)(P:List Nat)(hp:List Zi):List Np→(List AV→KR)→KR
  | [],k=>k []
  | r :: l,k=>rdK (Zes e N P hp r) fun v=>Zcc e N P hp l fun vs=>k (v.nm :: vs)
def S9 (e:Env)(N:Nat)(P:List Nat)(hp:List Zi):List Np→(AV→KR)→KR
  | [r],k=>rdK (Zes e N P hp r) k
  | rs,k=>Zcc e N P hp rs fun vs=>k (.tup vs)
def Y6 (keep:Bool)(hp0:List Zi)(v:AV)(hp:List Zi)(ef:Eff):AV×List Zi×Eff :=
  bif keep then (v.nm,hp,ef) else finish v ⟨[],hp,ef,hp0.length⟩ hp0
def YU (P:List Nat)(fn:AFn)(hp0:List Zi):XD:=fun e hp ef=>S9 e fn.ntmps P hp fn.results fun v=>some (Y6 fn.keep hp0 v hp ef)
def RZ:List AV→Env
  | []=>fun _=>.raw .undef
  | v :: l=>fun t=>match t with
    | 0=>.raw v
    | t + 1=>RZ l t
def fnK (G:Nat→Option (List AV))(K:FuncId→List AV→List Zi→KR)(P:List Nat)(L:Nat)(fn:AFn)(args:List AV)(hp:List Zi):KR :=
  ZF G fn.ntmps hp.length K P L fn.code (YU P fn hp) (YU P fn hp) [] (RZ args) hp none
end Go.Proofs.YtdchnngpjjcchaaDoor.Abs
end
section
namespace Go.Proofs.YtdchnngpjjcchaaDoor.Abs
open Go
theorem ZW {α:Type}{x:Option α}{k:α→KR}{r:AV×List Zi×Eff}(h:Ze x k=some r):∃ v,x=some v∧k v=some r:=by
  cases x with
  | none=>cases h
  | some v=>exact ⟨v,rfl,h⟩
theorem Vr {α β:Type}{x:Option (α×β)}{k:α→β→KR}{r:AV×List Zi×Eff}(h:XR x k=some r):∃ a b,x=some (a,b)∧k a b=some r:=by
  cases x with
  | none=>cases h
  | some v=>exact ⟨v.1,v.2,rfl,h⟩
theorem U2 {α β γ:Type}{x:Option (α×β×γ)}{k:α→β→γ→KR}{r:AV×List Zi×Eff}(h:Y1 x k=some r):∃ a b c,x=some (a,b,c)∧k a b c=some r:=by
  cases x with
  | none=>cases h
  | some v=>exact ⟨v.1,v.2.1,v.2.2,rfl,h⟩
theorem KY {α:Type}(x y:α):UL true x y=x:=rfl
theorem UA {α:Type}(x y:α):UL false x y=y:=rfl
theorem Zp {α:Type}{x:Option α}{k:α→KR}{r:AV×List Zi×Eff}(h:rdK x k=some r):∃ v,x=some v∧k v=some r:=by
  cases x with
  | none=>cases h
  | some v=>exact ⟨v,rfl,h⟩
theorem Xc {α:Type}{b:Bool}{x:Option α}{r:α}(h:UL b x none=some r):b=true∧x=some r:=by
  cases b with
  | false=>cases h
  | true=>exact ⟨rfl,h⟩
def Nr (v:KV):Prop:=v.val.ro=v.rd
theorem Uy (v:AV):Nr (.raw v):=rfl
theorem XJ {v:AV}(h:v.ro=v):Nr (.cln v):=h
theorem PW (v:AV):v.ro.ro=v.ro:=by cases v <;> rfl
theorem ZeR {v:KV}(h:Nr v):Nr (.cln v.rd):=by
  show v.rd.ro=v.rd
  rw [← h,PW]
theorem Vq:∀ {P:List Nat} {t:Nat},Xl P t=true↔t ∉ P
  | [],t=>by simp [Xl]
  | u :: l,t=>by
    simp only [Xl,List.mem_cons,not_or]
    cases hb:Nat.beq u t with
    | true =>
      have:=Nat.eq_of_beq_eq_true hb
      subst this
      simp
    | false =>
      have:t≠u:=fun h=>by subst h; rw [Nat.beq_refl] at hb; cases hb
      simp [this,← Vq]
theorem Ey:∀ {P:List Nat} {d t:Nat},t ∈ rm d P↔t ∈ P∧t≠d
  | [],d,t=>by simp [rm]
  | u :: l,d,t=>by
    simp only [rm]
    cases hb:Nat.beq u d with
    | true =>
      have:=Nat.eq_of_beq_eq_true hb
      subst this
      simp only [Ey,List.mem_cons]
      constructor
      · rintro ⟨a,b⟩; exact ⟨.inr a,b⟩
      · rintro ⟨a | a,b⟩
        · exact absurd a b
        · exact ⟨a,b⟩
    | false =>
      have:u≠d:=fun h=>by subst h; rw [Nat.beq_refl] at hb; cases hb
      simp only [List.mem_cons,Ey]
      constructor
      · rintro (a | ⟨a,b⟩)
        · subst a; exact ⟨.inl rfl,this⟩
        · exact ⟨.inr a,b⟩
      · rintro ⟨a | a,b⟩
        · exact .inl a
        · exact .inr ⟨a,b⟩
structure YV (N:Nat)(P:List Nat)(e:Env)(sl:List AV):Prop where
  len:sl.length=N
  val:∀ t,t < N→t ∉ P→sl[t]? = some (e t).val
  ok:∀ t,Nr (e t)
theorem YV.mono {N:Nat}{P P':List Nat}{e:Env}{sl:List AV}(h:YV N P e sl)(hp:∀ t,t ∈ P→t ∈ P'):YV N P' e sl:=⟨h.len,fun t ht hn=>h.val t ht fun hm=>hn (hp t hm),h.ok⟩
theorem YV.set {N:Nat}{P:List Nat}{e:Env}{sl:List AV}(h:YV N P e sl)(d:Nat){v:KV}(hv:Nr v):YV N (rm d P) (e.set d v) (sl.set d v.val):=by
  refine ⟨by rw [List.length_set]; exact h.len,fun t ht hn=>?_,fun t=>?_⟩
  · rw [List.getElem?_set]
    by_cases e1:d=t
    · subst e1
      simp [Env.set,h.len,ht]
    · have:Nat.beq t d=false:=by cases hb:Nat.beq t d with | false=>rfl | true=>exact absurd (Nat.eq_of_beq_eq_true hb).symm e1
      simp [e1,Env.set,this,h.val t ht fun hm=>hn (Ey.2 ⟨hm,fun h=>e1 h.symm⟩)]
  · show Nr (UL (Nat.beq t d) v (e t))
    cases Nat.beq t d
    · exact h.ok t
    · exact hv
theorem YV.put {N:Nat}{P:List Nat}{e:Env}{sl:List AV}(h:YV N P e sl)(d:Option Nat){v:KV}(hv:Nr v){hp:List Zi}{ef:Eff}{bs:Nat}:YV N (rmO d P) (e.put d v) (Zc.put ⟨sl,hp,ef,bs⟩ d v.val).sl:=by
  cases d with
  | none=>exact h
  | some d=>exact h.set d hv
theorem YV.let_ {N:Nat}{P:List Nat}{e:Env}{sl:List AV}(h:YV N P e sl)(t:Nat):YV N P (e.set t (.cln (e t).rd)) (sl.modify t AV.ro):=by
  refine ⟨by rw [List.length_modify]; exact h.len,fun u hu hn=>?_,fun u=>?_⟩
  · rw [List.getElem?_modify]
    by_cases e1:t=u
    · subst e1
      simp only [if_true,h.val t hu hn,Env.set,Nat.beq_refl,KV.val]
      have:=h.ok t
      simp only [Nr] at this
      simp only [KV.val] at this
      rw [Option.map_eq_map,Option.map_some,← this]
    · have:Nat.beq u t=false:=by cases hb:Nat.beq u t with | false=>rfl | true=>exact absurd (Nat.eq_of_beq_eq_true hb).symm e1
      simp [e1,Env.set,this,h.val u hu hn]
  · show Nr (UL (Nat.beq u t) (.cln (e t).rd) (e u))
    cases Nat.beq u t
    · exact h.ok u
    · exact ZeR (h.ok t)
section
variable {G:Nat→Option (List AV)}{N:Nat}{P:List Nat}{e:Env}{sl:List AV}
theorem P9 {t N:Nat}{P:List Nat}(h:(Nat.blt t N && Xl P t)=true):t < N∧t ∉ P:=by
  rw [Bool.and_eq_true] at h
  exact ⟨Nat.le_of_ble_eq_true h.1,Vq.1 h.2⟩
theorem YV.get (h:YV N P e sl){t:Nat}(ht:(Nat.blt t N && Xl P t)=true):sl[t]? = some (e t).val:=h.val t (P9 ht).1 (P9 ht).2
theorem YV.read (h:YV N P e sl){t:Nat}(ht:(Nat.blt t N && Xl P t)=true):(sl[t]?).map AV.ro=some (e t).rd:=by
  rw [h.get ht,Option.map_some,h.ok t]
theorem YV.opnd (h:YV N P e sl){x:Yv}{v:AV}(hx:YS G N P e x=some v):Abs.opnd G sl x=some v:=by
  cases x with
  | tmp t =>
    obtain ⟨h1,h2⟩:=Xc (show UL (Nat.blt t N && Xl P t) (some (e t).rd) none=some v from hx)
    cases h2
    exact h.read h1
  | const v=>exact hx
  | glob g=>exact hx
theorem YV.opnds (h:YV N P e sl):∀ {xs:List Yv} {vs:List AV},Kr G N P e xs=some vs→Abs.opnds G sl xs=some vs
  | [],vs,hx=>hx
  | x :: l,vs,hx=>by
    simp only [Kr] at hx
    split at hx
    · rename_i v hv
      split at hx
      · rename_i us hus
        cases hx
        simp only [Abs.opnds,h.opnd hv,h.opnds hus,Option.map_some]
      · cases hx
    · cases hx
theorem YV.optOpnd (h:YV N P e sl){x:Option Yv}{v:Option AV}(hx:Ol G N P e x=some v):Abs.optOpnd G sl x=some v:=by
  cases x with
  | none=>exact hx
  | some x =>
    simp only [Ol] at hx
    split at hx
    · rename_i u hu
      cases hx
      simp only [Abs.optOpnd,h.opnd hu,Option.map_some]
    · cases hx
theorem YV.mvK (h:YV N P e sl){x:Yv}{k:KV→KR}{r:AV×List Zi×Eff}(hx:mvK G N P e x k=some r):∃ v,Abs.opnd G sl x=some v.val∧Nr v∧k v=some r:=by
  cases x with
  | tmp t =>
    obtain ⟨h1,h2⟩:=Xc (show UL (Nat.blt t N && Xl P t) (k (KV.cln (e t).rd)) none=some r from hx)
    exact ⟨KV.cln (e t).rd,h.read h1,ZeR (h.ok t),h2⟩
  | const v=>exact ⟨_,rfl,Uy v,hx⟩
  | glob g =>
    obtain ⟨c,h1,h2⟩:=ZW (show Ze (G g) (fun c=>k (.cln (.ref c)))=some r from hx)
    exact ⟨KV.cln (.ref c),by simp only [Abs.opnd,h1,Option.map_some]; rfl,rfl,h2⟩
theorem YV.args:∀ {as:List (Nat ⊕ Yv)} {e e':Env} {sl:List AV} {vs:List AV},YV N P e sl→Bc G N P e as=some (vs,e')→∃ sl',WI G sl as=some (vs,sl')∧YV N P e' sl'
  | [],e,e',sl,vs,h,ha=>by
    cases ha
    exact ⟨sl,rfl,h⟩
  | .inl t :: l,e,e',sl,vs,h,ha=>by
    simp only [Bc] at ha
    obtain ⟨h1,h2⟩:=Xc ha
    split at h2
    · rename_i us e1 hus
      cases h2
      obtain ⟨sl',a1,a2⟩:=YV.args (h.let_ t) hus
      refine ⟨sl',?_,a2⟩
      simp only [WI,h.get h1,a1,Option.map_some]
    · cases h2
  | .inr x :: l,e,e',sl,vs,h,ha=>by
    simp only [Bc] at ha
    split at ha
    · rename_i v hv
      split at ha
      · rename_i us e1 hus
        cases ha
        obtain ⟨sl',a1,a2⟩:=YV.args h hus
        refine ⟨sl',?_,a2⟩
        simp only [WI,h.opnd hv,a1,Option.map_some]
      · cases ha
    · cases ha
end
theorem Zcf {op:BinOp}{x y:List UInt8}{v:AV}(h:Nb op x y=some v):v.ro=v:=by
  cases op <;> simp only [Nb] at h <;> first | (cases h; done) | (cases h; rfl) | (split at h <;> cases h; rfl)
theorem Za8 {op:BinOp}{k:IntKind}{x y:Int}{v:AV}(h:QR op k x y=some v):v.ro=v:=by
  cases op <;> simp only [QR] at h <;> first | (cases h; done) | (cases h; rfl) | (split at h <;> cases h; rfl)
theorem SA {op:BinOp}{k:IntKind}{x y:Int}{v:AV}(h:JA op k x y=some v):v.ro=v:=by
  simp only [JA] at h
  split at h
  · cases h
  · cases op <;> simp only at h <;> first | (cases h; done) | (cases h; rfl)
theorem Za7 {op:BinOp}{sh:ZaR}{x y v:AV}(h:Zb op sh x y=some v):v.ro=v:=by
  unfold Zb at h
  split at h
  · split at h
    · split at h
      · exact SA h
      · split at h
        · exact Za8 h
        · cases h
    · exact Zcf h
    · cases h
  · split at h
    · obtain ⟨b,_,rfl⟩:=Option.map_eq_some_iff.1 h; rfl
    · obtain ⟨b,_,rfl⟩:=Option.map_eq_some_iff.1 h; rfl
    · cases h
theorem Zcg {op:UnOp}{x v:AV}(h:XH op x=some v):v.ro=v:=by
  unfold XH at h
  split at h <;> cases h <;> rfl
theorem AO {hp:List Zi}{c:Conv}{x v:AV}(h:ZM hp c x=some v):v.ro=v:=by
  unfold ZM at h
  split at h
  · cases h; rfl
  · cases h; rfl
  · cases h; rfl
  · split at h
    · obtain ⟨b,_,rfl⟩:=Option.map_eq_some_iff.1 h; rfl
    · cases h
  · cases h
theorem ZfD {hp:List Zi}{x v:AV}(h:Zt hp x=some v):v.ro=v:=by
  unfold Zt at h
  split at h
  · cases h; exact PW _
  · split at h
    · obtain ⟨b,_,rfl⟩:=Option.map_eq_some_iff.1 h; exact PW _
    · cases h
  · cases h
theorem ZfC {hp:List Zi}{n:Nat}{x v:AV}(h:ZV hp n x=some v):v.ro=v:=by
  unfold ZV at h
  split at h
  · split at h <;> cases h; rfl
  · split at h
    · split at h <;> cases h; rfl
    · cases h
  · cases h
theorem Za9 {x v:AV}(h:Qw x=some v):v.ro=v:=by
  unfold Qw at h
  split at h <;> cases h <;> rfl
theorem ZaA {sh:Shape}{x v hi mx:AV}(h:WY sh x hi mx=some v):v.ro=v:=by
  unfold WY at h
  split at h <;> first | (cases h; done) | skip
  · split at h <;> cases h; rfl
  · split at h <;> cases h; split <;> rfl
  · split at h <;> cases h; split <;> rfl
theorem Zce {sh:Shape}{x v:AV}{lo hi:Option AV}(h:WH sh x lo hi=some v):v.ro=v:=by
  unfold WH at h
  split at h
  · split at h
    · split at h <;> cases h; rfl
    · cases h
  · split at h
    · split at h
      · split at h <;> cases h; rfl
      · cases h
    · cases h
  · split at h
    · split at h
      · split at h
        · split at h <;> cases h <;> rfl
        · cases h
      · cases h
    · cases h
  · split at h
    · split at h
      · split at h <;> cases h <;> rfl
      · cases h
    · cases h
  · cases h
theorem ZgD {off:Nat}{x v:AV}(h:Yh off x=some v):v.ro=v:=by
  unfold Yh at h
  split at h <;> cases h <;> rfl
theorem Zf8 {off n:Nat}{a:Bool}{x v:AV}(h:LX off n a x=some v):v.ro=v:=by
  unfold LX at h
  split at h
  · split at h
    · split at h
      · cases h; rfl
      · obtain ⟨b,_,rfl⟩:=Option.map_eq_some_iff.1 h; exact PW _
    · cases h
  · cases h
theorem ZgF {sh:Shape}{x i v:AV}(h:ZZ sh x i=some v):v.ro=v:=by
  unfold ZZ at h
  split at h
  · split at h
    · obtain ⟨b,_,rfl⟩:=Option.map_eq_some_iff.1 h; rfl
    · cases h
  all_goals first | (cases h; done) | (split at h <;> cases h; rfl)
theorem ZfA {x i v:AV}(h:LZ x i=some v):v.ro=v:=by
  unfold LZ at h
  split at h
  · split at h
    · obtain ⟨b,_,rfl⟩:=Option.map_eq_some_iff.1 h; rfl
    · cases h
  · cases h
theorem AP {x:AV}{i:Nat}{v:AV}(h:Zm x i=some v):v.ro=v:=by
  unfold Zm at h
  split at h
  · obtain ⟨b,_,rfl⟩:=Option.map_eq_some_iff.1 h; exact PW _
  · cases h
theorem ZfE {hp:List Zi}{sh:Fe}{x v:AV}(h:ZR hp sh x=some v):v.ro=v:=by
  unfold ZR at h
  split at h
  · cases h; rfl
  · cases h; rfl
  · cases h; rfl
  · cases h; rfl
  · split at h <;> cases h; rfl
  · cases h
theorem ZfI {xs:List AV}{v:AV}(h:ZeX xs=some v):v.ro=v:=by
  unfold ZeX at h
  split at h
  · obtain ⟨b,_,rfl⟩:=Option.map_eq_some_iff.1 h; rfl
  · cases h
theorem ZfH {xs:List AV}{v:AV}(h:ZeW xs=some v):v.ro=v:=by
  unfold ZeW at h
  split at h
  · obtain ⟨b,_,rfl⟩:=Option.map_eq_some_iff.1 h; rfl
  · cases h
end Go.Proofs.YtdchnngpjjcchaaDoor.Abs
end
section
namespace Go.Proofs.YtdchnngpjjcchaaDoor.Abs
open Go
section
variable {G:Nat→Option (List AV)}{N bs:Nat}{P:List Nat}{K:FuncId→List AV→List Zi→KR}
def Zet (G:Nat→Option (List AV))(N bs:Nat)(P:List Nat)(K:FuncId→List AV→List Zi→KR)(sl:List AV)(hp:List Zi)(ef:Eff)(op:AOp)(k:KV→Env→List Zi→Eff→KR)(r:AV×List Zi×Eff):Prop :=
  ∃ (v:KV) (e':Env) (sl':List AV) (hp':List Zi) (ef':Eff),Zd G K ⟨sl,hp,ef,bs⟩ op=some (v.val,⟨sl',hp',ef',bs⟩)∧YV N P e' sl'∧Nr v∧k v e' hp' ef'=some r
theorem Ip (sl:List AV)(hp:List Zi)(ef:Eff)(bs g v:Nat):Zc.note ⟨sl,hp,ef,bs⟩ g v=XQ bs ef g v:=rfl
theorem ZaX (sl:List AV)(hp:List Zi)(ef:Eff)(bs:Nat)(e:Eff):Zc.after ⟨sl,hp,ef,bs⟩ e=Zf bs ef e:=by
  cases e with
  | none=>rfl
  | some p=>rfl
theorem Zft {e:Env}{sl:List AV}(he:YV N P e sl){hp:List Zi}{ef:Eff}{op:AOp}{k:KV→Env→List Zi→Eff→KR}{r:AV×List Zi×Eff}(h:opK G N bs P K e hp ef op k=some r):Zet G N bs P K sl hp ef op k r:=by
  cases op <;> simp only [opK] at h
  case bad=>cases h
  case mv x =>
    obtain ⟨v,a1,a2,h2⟩:=he.mvK h
    exact ⟨v,e,sl,hp,ef,by simp only [Zd,a1,Option.map_some],he,a2,h2⟩
  case take t =>
    obtain ⟨h1,h2⟩:=Xc h
    refine ⟨e t,_,sl.modify t AV.ro,hp,ef,?_,he.let_ t,he.ok t,h2⟩
    simp only [Zd,he.get h1,Zc.let_]
  case pick c a b =>
    obtain ⟨c',h1,h⟩:=Zp h
    obtain ⟨a',h2,h⟩:=Zp h
    obtain ⟨b',h3,h⟩:=Zp h
    obtain ⟨v,h4,h⟩:=ZW h
    refine ⟨_,e,sl,hp,ef,?_,he,Uy _,h⟩
    unfold Lj at h4
    split at h4 <;> cases h4
    · simp only [Zd,he.opnd h1,he.opnd h2,Option.map_some,KV.val]
    · simp only [Zd,he.opnd h1,he.opnd h3,Option.map_some,KV.val]
  case mk t cells=>exact ⟨_,e,sl,_,ef,rfl,he,(by rfl),h⟩
  case box t n x =>
    obtain ⟨v,h1,h⟩:=Zp h
    obtain ⟨cs,h2,h⟩:=ZW h
    unfold SX at h2
    split at h2 <;> cases h2
    rename_i hc
    refine ⟨_,e,sl,_,ef,?_,he,(by rfl),h⟩
    simp only [Zd,he.opnd h1,hc,and_self,if_true,KV.val]
  case build zero parts =>
    obtain ⟨vs,h1,h⟩:=Zp h
    obtain ⟨cs,h2,h⟩:=ZW h
    refine ⟨_,e,sl,hp,ef,?_,he,(by rfl),h⟩
    simp only [Zd,he.opnds h1,h2,Option.map_some,KV.val]
  case lit t n parts =>
    obtain ⟨vs,h1,h⟩:=Zp h
    obtain ⟨v,hp',h2,h⟩:=Vr h
    refine ⟨_,e,sl,hp',ef,?_,he,Uy _,h⟩
    unfold Tz at h2
    split at h2
    · rename_i hc
      cases h2
      simp only [Zd,he.opnds h1,hc,if_true,KV.val]
    · rename_i hc
      split at h2
      · rename_i hc'
        cases h2
        simp only [Zd,he.opnds h1,hc,hc',if_true,KV.val]
        rfl
      · cases h2
  case lita t n parts =>
    obtain ⟨vs,h1,h⟩:=Zp h
    obtain ⟨v,hp',h2,h⟩:=Vr h
    refine ⟨_,e,sl,hp',ef,?_,he,Uy _,h⟩
    unfold ZeU at h2
    split at h2
    · rename_i hc
      cases h2
      simp only [Zd,he.opnds h1,hc,if_true,KV.val]
    · cases h2
  case ldc p =>
    obtain ⟨v,h1,h⟩:=Zp h
    obtain ⟨u,h2,h⟩:=ZW h
    exact ⟨_,e,sl,hp,ef,by simp only [Zd,he.opnd h1,h2,Option.map_some,KV.val],he,XJ (ZfD h2),h⟩
  case lda n p =>
    obtain ⟨v,h1,h⟩:=Zp h
    obtain ⟨u,h2,h⟩:=ZW h
    exact ⟨_,e,sl,hp,ef,by simp only [Zd,he.opnd h1,h2,Option.map_some,KV.val],he,XJ (ZfC h2),h⟩
  case ldt p =>
    obtain ⟨v,h1,h⟩:=Zp h
    obtain ⟨u,hp',ef',h2,h⟩:=U2 h
    refine ⟨_,e,sl,hp',ef',?_,he,Uy _,h⟩
    unfold ZgT at h2
    split at h2
    · split at h2
      · rename_i hg
        split at h2
        · rename_i hc
          cases h2
          simp only [Zd,he.opnd h1,hg,hc,Ip,KV.val]
        · cases h2
      · cases h2
    · cases h2
  case st n p x =>
    obtain ⟨v,h1,h⟩:=Zp h
    obtain ⟨u,h2,h⟩:=Zp h
    obtain ⟨hp',ef',h3,h⟩:=Vr h
    refine ⟨_,e,sl,hp',ef',?_,he,(by rfl),h⟩
    unfold stV at h3
    split at h3
    · split at h3
      · rename_i hg
        split at h3
        · rename_i hc
          cases h3
          simp only [Zd,he.opnd h1,he.opnd h2,hg,hc,Ip,KV.val,and_self,if_true]
        · cases h3
      · cases h3
    · cases h3
  case stt p t =>
    obtain ⟨v,h1,h⟩:=Zp h
    obtain ⟨h2,h⟩:=Xc h
    obtain ⟨hp',ef',h3,h⟩:=Vr h
    refine ⟨_,_,sl.modify t AV.ro,hp',ef',?_,he.let_ t,(by rfl),h⟩
    unfold Lt at h3
    split at h3
    · split at h3
      · rename_i hg
        split at h3
        · rename_i hc
          cases h3
          simp only [Zd,he.opnd h1,he.get h2,hg,Ip,Zc.let_]
          rw [if_pos hc]
          rfl
        · cases h3
      · cases h3
    · cases h3
  case nilchk x =>
    obtain ⟨v,h1,h⟩:=Zp h
    obtain ⟨u,h2,h⟩:=ZW h
    refine ⟨_,e,sl,hp,ef,?_,he,XJ (Za9 h2),h⟩
    unfold Qw at h2
    split at h2 <;> cases h2 <;> simp only [Zd,he.opnd h1,KV.val]
  case bin op sh x y =>
    obtain ⟨v,h1,h⟩:=Zp h
    obtain ⟨u,h2,h⟩:=Zp h
    obtain ⟨w,h3,h⟩:=ZW h
    exact ⟨_,e,sl,hp,ef,by simp only [Zd,he.opnd h1,he.opnd h2,h3,Option.map_some,KV.val],he,XJ (Za7 h3),h⟩
  case un op x =>
    obtain ⟨v,h1,h⟩:=Zp h
    obtain ⟨u,h2,h⟩:=ZW h
    exact ⟨_,e,sl,hp,ef,by simp only [Zd,he.opnd h1,h2,Option.map_some,KV.val],he,XJ (Zcg h2),h⟩
  case conv c x =>
    obtain ⟨v,h1,h⟩:=Zp h
    obtain ⟨u,h2,h⟩:=ZW h
    exact ⟨_,e,sl,hp,ef,by simp only [Zd,he.opnd h1,h2,Option.map_some,KV.val],he,XJ (AO h2),h⟩
  case mkfn f first caps =>
    obtain ⟨v,h1,h⟩:=Zp h
    obtain ⟨u,h2,h⟩:=Zp h
    exact ⟨_,e,sl,hp,ef,by simp only [Zd,he.opnds h1,he.opnds h2,KV.val],he,(by rfl),h⟩
  case mkmap=>exact ⟨_,e,sl,_,ef,rfl,he,(by rfl),h⟩
  case mksl t zero n =>
    obtain ⟨v,h1,h⟩:=Zp h
    obtain ⟨u,hp',h2,h⟩:=Vr h
    unfold PD at h2
    split at h2
    · split at h2
      · rename_i hc
        cases h2
        exact ⟨_,e,sl,_,ef,by simp only [Zd,he.opnd h1,hc,and_self,if_true,KV.val],he,(by rfl),h⟩
      · cases h2
    · cases h2
  case slice sh x lo hi =>
    obtain ⟨v,h1,h⟩:=Zp h
    obtain ⟨u1,h2,h⟩:=Zp h
    obtain ⟨u2,h3,h⟩:=Zp h
    obtain ⟨u,h4,h⟩:=ZW h
    exact ⟨_,e,sl,hp,ef,by simp only [Zd,he.opnd h1,he.optOpnd h2,he.optOpnd h3,h4,Option.map_some,KV.val],he,XJ (Zce h4),h⟩
  case slice3 sh x hi mx =>
    obtain ⟨v,h1,h⟩:=Zp h
    obtain ⟨u1,h2,h⟩:=Zp h
    obtain ⟨u2,h3,h⟩:=Zp h
    obtain ⟨u,h4,h⟩:=ZW h
    exact ⟨_,e,sl,hp,ef,by simp only [Zd,he.opnd h1,he.opnd h2,he.opnd h3,h4,Option.map_some,KV.val],he,XJ (ZaA h4),h⟩
  case fa off x =>
    obtain ⟨v,h1,h⟩:=Zp h
    obtain ⟨u,h2,h⟩:=ZW h
    exact ⟨_,e,sl,hp,ef,by simp only [Zd,he.opnd h1,h2,Option.map_some,KV.val],he,XJ (ZgD h2),h⟩
  case fld off n agg x =>
    obtain ⟨v,h1,h⟩:=Zp h
    obtain ⟨u,h2,h⟩:=ZW h
    exact ⟨_,e,sl,hp,ef,by simp only [Zd,he.opnd h1,h2,Option.map_some,KV.val],he,XJ (Zf8 h2),h⟩
  case ia sh x i =>
    obtain ⟨v,h1,h⟩:=Zp h
    obtain ⟨u,h2,h⟩:=Zp h
    obtain ⟨w,h3,h⟩:=ZW h
    exact ⟨_,e,sl,hp,ef,by simp only [Zd,he.opnd h1,he.opnd h2,h3,Option.map_some,KV.val],he,XJ (ZgF h3),h⟩
  case idx x i =>
    obtain ⟨v,h1,h⟩:=Zp h
    obtain ⟨u,h2,h⟩:=Zp h
    obtain ⟨w,h3,h⟩:=ZW h
    exact ⟨_,e,sl,hp,ef,by simp only [Zd,he.opnd h1,he.opnd h2,h3,Option.map_some,KV.val],he,XJ (ZfA h3),h⟩
  case look sh zero x i ok =>
    obtain ⟨v,h1,h⟩:=Zp h
    obtain ⟨u,h2,h⟩:=Zp h
    obtain ⟨w,h3,h⟩:=ZW h
    exact ⟨_,e,sl,hp,ef,by simp only [Zd,he.opnd h1,he.opnd h2,h3,Option.map_some,KV.val],he,Uy _,h⟩
  case mupd sh m i x =>
    obtain ⟨v,h1,h⟩:=Zp h
    obtain ⟨u,h2,h⟩:=Zp h
    obtain ⟨w,h3,h⟩:=Zp h
    obtain ⟨hp',ef',h4,h⟩:=Vr h
    refine ⟨_,e,sl,hp',ef',?_,he,(by rfl),h⟩
    unfold ZeY at h4
    split at h4
    · split at h4
      · rename_i hg
        split at h4
        · rename_i hc
          split at h4
          · rename_i hu
            cases h4
            simp only [Zd,he.opnd h1,he.opnd h2,he.opnd h3,hg,hc,hu,Ip,KV.val,if_true]
          · cases h4
        · cases h4
      · cases h4
    · cases h4
  case range x =>
    obtain ⟨v,h1,h⟩:=Zp h
    obtain ⟨u,hp',h2,h⟩:=Vr h
    unfold ZcJ at h2
    split at h2 <;> cases h2
    exact ⟨_,e,sl,_,ef,by simp only [Zd,he.opnd h1,KV.val],he,(by rfl),h⟩
  case next x =>
    obtain ⟨v,h1,h⟩:=Zp h
    obtain ⟨u,hp',ef',h2,h⟩:=U2 h
    unfold ZeZ at h2
    split at h2
    · split at h2
      · rename_i hg
        split at h2
        · rename_i hc
          cases h2
          exact ⟨_,e,sl,_,_,by simp only [Zd,he.opnd h1,hg,hc,if_true,Ip,KV.val],he,(by rfl),h⟩
        · rename_i hc
          cases h2
          exact ⟨_,e,sl,_,_,by simp only [Zd,he.opnd h1,hg,hc,if_false,KV.val],he,(by rfl),h⟩
      · cases h2
    · cases h2
  case extract x i =>
    obtain ⟨v,h1,h⟩:=Zp h
    obtain ⟨u,h2,h⟩:=ZW h
    refine ⟨_,e,sl,hp,ef,?_,he,XJ (AP h2),h⟩
    unfold Zm at h2
    split at h2
    · rename_i vs
      obtain ⟨b,hb,rfl⟩:=Option.map_eq_some_iff.1 h2
      simp only [Zd,he.opnd h1,hb,Option.map_some,KV.val]
    · cases h2
  case len sh x =>
    obtain ⟨v,h1,h⟩:=Zp h
    obtain ⟨u,h2,h⟩:=ZW h
    exact ⟨_,e,sl,hp,ef,by simp only [Zd,he.opnd h1,h2,Option.map_some,KV.val],he,XJ (ZfE h2),h⟩
  case app n bytes t x =>
    obtain ⟨h1,h⟩:=Xc h
    obtain ⟨v,h2,h⟩:=Zp h
    obtain ⟨u,h3,h⟩:=ZW h
    refine ⟨_,_,sl.modify t AV.ro,hp,ef,?_,he.let_ t,Uy _,h⟩
    have hv:=he.get h1
    unfold MQ at h3
    split at h3
    · rename_i k' r0 hs
      split at h3
      · rename_i k'' r' hr
        split at h3
        · rename_i hc
          cases h3
          rw [hs] at hv
          simp only [Zd,hv,he.opnd h2,hr,KV.val,Zc.let_]
          rw [if_pos hc]
        · cases h3
      · cases h3
    · cases h3
  case apps bytes t x =>
    obtain ⟨h1,h⟩:=Xc h
    obtain ⟨v,h2,h⟩:=Zp h
    obtain ⟨u,h3,h⟩:=ZW h
    refine ⟨_,_,sl.modify t AV.ro,hp,ef,?_,he.let_ t,Uy _,h⟩
    have hv:=he.get h1
    unfold Zex at h3
    split at h3
    · rename_i k' r0 l hs
      split at h3
      · rename_i hc
        cases h3
        rw [hs] at hv
        simp only [Zd,hv,he.opnd h2,KV.val,Zc.let_]
        rw [if_pos hc]
      · cases h3
    · cases h3
  case appn n bytes x =>
    obtain ⟨v,h2,h⟩:=Zp h
    obtain ⟨u,h3,h⟩:=ZW h
    refine ⟨_,_,sl,hp,ef,?_,he,Uy _,h⟩
    unfold Zew at h3
    split at h3
    · rename_i k'' r' hr
      split at h3
      · rename_i hc
        cases h3
        simp only [Zd,he.opnd h2,hr,KV.val]
        rw [if_pos hc]
      · cases h3
    · cases h3
  case copy n d x =>
    obtain ⟨v,h1,h⟩:=Zp h
    obtain ⟨u,h2,h⟩:=Zp h
    obtain ⟨w,hp',ef',h3,h⟩:=U2 h
    refine ⟨_,e,sl,hp',ef',?_,he,?_,h⟩
    · unfold copyV at h3
      split at h3
      · split at h3
        · rename_i hr hg
          split at h3
          · rename_i hc
            cases h3
            simp only [Zd,he.opnd h1,he.opnd h2,hr,hg,Ip,KV.val]
            rw [if_pos hc]
          · cases h3
        · cases h3
      · split at h3
        · rename_i hr
          split at h3
          · rename_i hc
            cases h3
            simp only [Zd,he.opnd h1,he.opnd h2,hr,KV.val]
            rw [if_pos hc]
          · cases h3
        · cases h3
      · cases h3
    · unfold copyV at h3
      split at h3
      · split at h3
        · split at h3 <;> cases h3; rfl
        · cases h3
      · split at h3
        · split at h3 <;> cases h3; rfl
        · cases h3
      · cases h3
  case min xs =>
    obtain ⟨v,h1,h⟩:=Zp h
    obtain ⟨u,h2,h⟩:=ZW h
    refine ⟨_,e,sl,hp,ef,?_,he,XJ (ZfI h2),h⟩
    unfold ZeX at h2
    split at h2
    · obtain ⟨b,hb,rfl⟩:=Option.map_eq_some_iff.1 h2
      simp only [Zd,he.opnds h1,hb,Option.map_some,KV.val]
    · cases h2
  case max xs =>
    obtain ⟨v,h1,h⟩:=Zp h
    obtain ⟨u,h2,h⟩:=ZW h
    refine ⟨_,e,sl,hp,ef,?_,he,XJ (ZfH h2),h⟩
    unfold ZeW at h2
    split at h2
    · obtain ⟨b,hb,rfl⟩:=Option.map_eq_some_iff.1 h2
      simp only [Zd,he.opnds h1,hb,Option.map_some,KV.val]
    · cases h2
  case call f args =>
    obtain ⟨fv,h1,h⟩:=Zp h
    obtain ⟨⟨vs,e'⟩,h2,h⟩:=Zp h
    obtain ⟨v,hp',ef',h3,h4⟩:=U2 h
    obtain ⟨sl',a1,a2⟩:=he.args h2
    clear h
    unfold Ze9 at h3
    split at h3
    · refine ⟨_,e',sl',hp',_,?_,a2,Uy _,h4⟩
      simp only [Zd,he.opnd h1,a1,h3,ZaX,KV.val]
    · cases h3
theorem Tn {want:Bool}{v:AV}{sl:List AV}{t:Nat}{s:Zc}(hs:s.sl=sl)(h:sl[t]? = some v):YP s (some (t,want))=Ko want v:=by
  simp only [YP,hs,h]
  cases v <;> rfl
def ZaU (N bs:Nat)(P:List Nat)(x:Option Zc)(k:XD)(r:AV×List Zi×Eff):Prop :=
  ∃ (e':Env) (sl':List AV) (hp':List Zi) (ef':Eff),x=some ⟨sl',hp',ef',bs⟩∧YV N P e' sl'∧k e' hp' ef'=some r
theorem put_eq (sl:List AV)(hp:List Zi)(ef:Eff)(bs:Nat)(d:Option Nat)(v:AV):Zc.put ⟨sl,hp,ef,bs⟩ d v=⟨(Zc.put ⟨sl,hp,ef,bs⟩ d v).sl,hp,ef,bs⟩:=by cases d <;> rfl
theorem Za3 {e:Env}{hp:List Zi}{ef:Eff}{op:AOp}(hq:Qy op=false){k:KV→Env→List Zi→Eff→KR} :
    opK G N bs P K e hp ef op k=opK G N bs P K e hp ef op fun v _ hp' ef'=>k v e hp' ef':=by
  cases op <;> first | rfl | (cases hq; done) | skip
  case call f args =>
    have:∀ (as:List (Nat ⊕ Yv)) (e:Env) (vs:List AV) (e':Env),(as.any fun | .inl _=>true | .inr _=>false)=false→Bc G N P e as=some (vs,e')→e'=e:=by
      intro as
      induction as with
      | nil=>intro e vs e' _ h; cases h; rfl
      | cons a l ih =>
        intro e vs e' hn h
        cases a with
        | inl t=>simp at hn
        | inr x =>
          simp only [Bc] at h
          split at h
          · split at h
            · rename_i us e1 hus
              cases h
              exact ih e us e' (by simpa using hn) hus
            · cases h
          · cases h
    simp only [opK]
    congr 1
    funext f
    cases ha:Bc G N P e args with
    | none=>rfl
    | some p =>
      obtain ⟨vs,e'⟩:=p
      cases this args e vs e' hq ha
      rfl
theorem L9:∀ {as:List (Nat ⊕ Yv)} {sl sl':List AV} {vs:List AV},(as.any fun | .inl _=>true | .inr _=>false)=false→WI G sl as=some (vs,sl')→sl'=sl
  | [],sl,sl',vs,_,h=>by cases h; rfl
  | .inl t :: l,sl,sl',vs,hn,h=>by simp at hn
  | .inr x :: l,sl,sl',vs,hn,h=>by
    simp only [WI] at h
    split at h
    · obtain ⟨p,hp,e⟩:=Option.map_eq_some_iff.1 h
      cases e
      exact L9 (by simpa using hn) hp
    · cases h
theorem ZeV {α:Type}{s s':Zc}{x:Option α}{f:α→AV}{v:AV}(h:x.map (fun a=>(f a,s))=some (v,s')):s'.sl=s.sl:=by
  obtain ⟨w,_,e⟩:=Option.map_eq_some_iff.1 h
  exact (congrArg (fun p=>p.2.sl) e).symm
theorem ZdZ {s s':Zc}{v w:AV}(h:some (w,s)=some (v,s')):s'.sl=s.sl:=(congrArg (fun p=>p.2.sl) (Option.some.inj h)).symm
theorem Zck {s s' s1:Zc}{v w:AV}(h:some (w,s1)=some (v,s'))(h1:s1.sl=s.sl):s'.sl=s.sl:=by
  rw [← h1]; exact (congrArg (fun p=>p.2.sl) (Option.some.inj h)).symm
theorem Zd4 {s s':Zc}{v:AV}(h:(none:Option (AV×Zc))=some (v,s')):s'.sl=s.sl:=nomatch h
theorem Pi {call:FuncId→List AV→List Zi→KR}{s s':Zc}{op:AOp}{v:AV}(hq:Qy op=false)(h:Zd G call s op=some (v,s')):s'.sl=s.sl:=by
  cases op
  case take t=>cases hq
  case stt p t=>cases hq
  case app k b t x=>cases hq
  case apps b t x=>cases hq
  case call f args =>
    simp only [Zd] at h
    split at h
    · rename_i hf ha
      split at h
      · have:=ZdZ h
        rw [this]
        exact L9 hq ha
      · exact absurd h (by simp)
    · exact absurd h (by simp)
  all_goals
    simp only [Zd] at h
    repeat'
      first
      | exact ZeV h
      | exact Zd4 h
      | exact Zck h rfl
      | split at h
theorem PL {α:Type}(x:Option α)(f:α→KR)(k:AV→List Zi→Eff→KR):Y1 (Ze x f) k=Ze x fun a=>Y1 (f a) k:=by cases x <;> rfl
theorem ZbP {α:Type}(x:Option α)(f:α→KR)(k:AV→List Zi→Eff→KR):Y1 (rdK x f) k=rdK x fun a=>Y1 (f a) k:=by cases x <;> rfl
theorem Zaw {α β:Type}(x:Option (α×β))(f:α→β→KR)(k:AV→List Zi→Eff→KR):Y1 (XR x f) k=XR x fun a b=>Y1 (f a b) k:=by cases x <;> rfl
theorem Zax {α β γ:Type}(x:Option (α×β×γ))(f:α→β→γ→KR)(k:AV→List Zi→Eff→KR):Y1 (Y1 x f) k=Y1 x fun a b c=>Y1 (f a b c) k:=by cases x <;> rfl
theorem ED (b:Bool)(x y:KR)(k:AV→List Zi→Eff→KR):Y1 (UL b x y) k=UL b (Y1 x k) (Y1 y k):=by cases b <;> rfl
theorem Rl (v:AV)(hp:List Zi)(ef:Eff)(k:AV→List Zi→Eff→KR):Y1 (some (v,hp,ef)) k=k v hp ef:=rfl
theorem Rk (k:AV→List Zi→Eff→KR):Y1 none k=none:=rfl
theorem Zar {e:Env}{hp:List Zi}{ef:Eff}{op:AOp}{k:KV→Env→List Zi→Eff→KR} :
    Y1 (opK G N bs P K e hp ef op fun v _ hp' ef'=>some (v.val,hp',ef')) (fun v hp' ef'=>k (.raw v) e hp' ef')=opK G N bs P K e hp ef op (fun v _ hp' ef'=>k (.raw v.val) e hp' ef'):=by
  cases op
  case mv x=>cases x <;> simp only [opK,mvK,PL,ED,Rl,Rk]
  all_goals simp only [opK,PL,ZbP,Zaw,Zax,ED,Rl,Rk]
def Held (A:List (Nat×Bool))(sl:List AV):Prop:=∀ p ∈ A,sl[p.1]? = some (.bool p.2)
def Calm (A:List (Nat×Bool))(ops:List Yb):Prop:=A≠[]→∀ o ∈ ops,Qy o.op=false∧∀ p ∈ A,o.dst≠some p.1
theorem NR:∀ {A:List (Nat×Bool)} {t:Nat} {w:Bool},inA t w A=true→(t,w) ∈ A
  | [],t,w,h=>by cases h
  | (u,v) :: l,t,w,h=>by
    simp only [inA] at h
    cases hb:(Nat.beq u t && (v == w)) with
    | true =>
      rw [Bool.and_eq_true] at hb
      have:=Nat.eq_of_beq_eq_true hb.1
      have hv:v=w:=by simpa using hb.2
      subst this; subst hv
      exact .head _
    | false=>rw [hb] at h; exact .tail _ (NR h)
theorem Held.put {A:List (Nat×Bool)}{sl:List AV}(h:Held A sl){hp:List Zi}{ef:Eff}{bs:Nat}{d:Option Nat}(hd:∀ p ∈ A,d≠some p.1)(v:AV):Held A (Zc.put ⟨sl,hp,ef,bs⟩ d v).sl:=by
  cases d with
  | none=>exact h
  | some d =>
    intro p hp
    show (sl.set d v)[p.1]? = _
    rw [List.getElem?_set,if_neg (fun e=>hd p hp (by rw [e]))]
    exact h p hp
theorem ZbL {A:List (Nat×Bool)}{o:Yb}{e:Env}{sl:List AV}(he:YV N P e sl)(hA:Held A sl)(hc:Calm A [o]){hp:List Zi}{ef:Eff}{k:XD}{r:AV×List Zi×Eff}(h:ZdL G N bs P K A o e hp ef k=some r) :
    ∃ (e':Env) (sl':List AV) (hp':List Zi) (ef':Eff),Zv G K o ⟨sl,hp,ef,bs⟩=some ⟨sl',hp',ef',bs⟩∧YV N (rmO o.dst P) e' sl'∧Held A sl'∧k e' hp' ef'=some r:=by
  unfold ZdL at h
  have run:∀ {k':KV→Env→List Zi→Eff→KR} (hk:∀ v e' hp' ef',k' v e' hp' ef'=some r→∃ v',v'.val=v.val∧(Nr v→Nr v')∧k (e'.put o.dst v') hp' ef'=some r) (_:opK G N bs P K e hp ef o.op k'=some r) (_:YP ⟨sl,hp,ef,bs⟩ o.guard=some true),
      ∃ (e':Env) (sl':List AV) (hp':List Zi) (ef':Eff),Zv G K o ⟨sl,hp,ef,bs⟩=some ⟨sl',hp',ef',bs⟩∧YV N (rmO o.dst P) e' sl'∧Held A sl'∧k e' hp' ef'=some r:=by
    intro k' hk h hw
    obtain ⟨v,e',sl',hp',ef',h1,h2,h3,h4⟩:=Zft he h
    obtain ⟨v',a1,a2,a3⟩:=hk _ _ _ _ h4
    refine ⟨e'.put o.dst v',(Zc.put ⟨sl',hp',ef',bs⟩ o.dst v'.val).sl,hp',ef',?_,h2.put o.dst (a2 h3),?_,a3⟩
    · simp only [Zv,hw,h1,a1]
      rw [put_eq]
    · by_cases hn:A=[]
      · subst hn; intro p hp; cases hp
      · obtain ⟨c1,c2⟩:=hc hn o (.head _)
        have:sl'=sl:=Pi (s := ⟨sl,hp,ef,bs⟩) (s':=⟨sl',hp',ef',bs⟩) c1 h1
        subst this
        exact hA.put c2 _
  have skip:∀ (v:KV) (_:Nr v) (_:v.val=.undef) (_:k (e.put o.dst v) hp ef=some r) (_:YP ⟨sl,hp,ef,bs⟩ o.guard=some false),
      ∃ (e':Env) (sl':List AV) (hp':List Zi) (ef':Eff),Zv G K o ⟨sl,hp,ef,bs⟩=some ⟨sl',hp',ef',bs⟩∧YV N (rmO o.dst P) e' sl'∧Held A sl'∧k e' hp' ef'=some r:=by
    intro v hv hu h hw
    refine ⟨e.put o.dst v,(Zc.put ⟨sl,hp,ef,bs⟩ o.dst v.val).sl,hp,ef,?_,he.put o.dst hv,?_,h⟩
    · simp only [Zv,hw,hu]
      rw [put_eq]
    · by_cases hn:A=[]
      · subst hn; intro p hp; cases hp
      · exact hA.put (hc hn o (.head _)).2 _
  split at h
  · rename_i hg
    exact run (fun v e' hp' ef' hk=>⟨v,rfl,fun a=>a,hk⟩) h (by rw [hg]; rfl)
  · rename_i t want hg
    cases hi:inA t want A with
    | true =>
      rw [hi,KY] at h
      refine run (fun v e' hp' ef' hk=>⟨v,rfl,fun a=>a,hk⟩) h ?_
      rw [hg,Tn rfl (hA _ (NR hi))]
      simp [Ko]
    | false =>
      rw [hi,UA] at h
      obtain ⟨h1,h⟩:=Xc h
      have hw:YP ⟨sl,hp,ef,bs⟩ o.guard=Ko want (e t).val:=by rw [hg]; exact Tn rfl (he.get h1)
      cases ht:Qy o.op with
      | true =>
        rw [ht,KY] at h
        unfold ZcA at h
        split at h
        · rename_i hb
          exact run (fun v e' hp' ef' hk=>⟨v,rfl,fun a=>a,hk⟩) h (hw.trans hb)
        · rename_i hb
          exact skip (.cln .undef) rfl rfl h (hw.trans hb)
        · cases h
      | false =>
        rw [ht,UA] at h
        unfold Kq at h
        split at h
        · rename_i hb
          have h':=Zar (k := fun v e' hp' ef'=>k (e'.put o.dst v) hp' ef') ▸ h
          rw [← Za3 ht (k := fun v e' hp' ef'=>k (e'.put o.dst (.raw v.val)) hp' ef')] at h'
          exact run (fun v e' hp' ef' hk=>⟨.raw v.val,rfl,fun _=>rfl,hk⟩) h' (hw.trans hb)
        · rename_i hb
          exact skip (.raw .undef) rfl rfl h (hw.trans hb)
        · cases h
theorem UZ {call:FuncId→List AV→List Zi→KR}:∀ (a b:List Yb) (s:Zc),ZH G call (a ++ b) s=(ZH G call a s).bind (ZH G call b)
  | [],b,s=>rfl
  | o :: l,b,s=>by
    simp only [List.cons_append,ZH]
    cases Zv G call o s with
    | none=>rfl
    | some s'=>exact UZ l b s'
theorem Px {call:FuncId→List AV→List Zi→KR}{t:Nat}{want:Bool}{P:List Nat}:∀ (ops:List Yb) (ds:List Nat) (sl:List AV) (hp:List Zi) (ef:Eff),sl[t]? = some (.bool (!want))→(∀ d ∈ ds,sl[d]? = some .undef)→sl.length=N →
    ∃ sl',ZH G call (ops.take (WQ N t want P ds ops)) ⟨sl,hp,ef,bs⟩=some ⟨sl',hp,ef,bs⟩∧sl'.length=sl.length∧∀ j,j ∉ P→sl'[j]? = sl[j]?
  | [],ds,sl,hp,ef,_,_,_=>⟨sl,rfl,rfl,fun _ _=>rfl⟩
  | o :: l,ds,sl,hp,ef,h1,h2,h3=>by
    have stay:WQ N t want P ds (o :: l)=0→∃ sl',ZH G call ((o :: l).take (WQ N t want P ds (o :: l))) ⟨sl,hp,ef,bs⟩=some ⟨sl',hp,ef,bs⟩∧sl'.length=sl.length∧∀ j,j ∉ P→sl'[j]? = sl[j]?:=by
      intro h0
      rw [h0]
      exact ⟨sl,rfl,rfl,fun _ _=>rfl⟩
    cases hg:o.guard with
    | none=>exact stay (by simp only [WQ,hg])
    | some uw =>
      obtain ⟨u,w⟩:=uw
      cases hd:o.dst with
      | none=>exact stay (by simp only [WQ,hg,hd])
      | some d =>
        cases hb:(((Nat.beq u t && (w == want)) || !Xl ds u) && !Nat.beq d t && !Xl P d && !Qy o.op && Nat.blt d N) with
        | false=>exact stay (by simp only [WQ,hg,hd,hb])
        | true =>
          have hl:WQ N t want P ds (o :: l)=WQ N t want P (d :: ds) l + 1:=by simp only [WQ,hg,hd,hb]
          rw [hl,List.take_succ_cons]
          simp only [Bool.and_eq_true,Bool.or_eq_true,Bool.not_eq_true'] at hb
          obtain ⟨⟨⟨⟨b1,b2⟩,b3⟩,b4⟩,b5⟩:=hb
          have hdt:d≠t:=fun e=>by subst e; rw [Nat.beq_refl] at b2; cases b2
          have hdP:d ∈ P:=Classical.byContradiction fun hn=>by rw [Vq.2 hn] at b3; cases b3
          have hw:YP ⟨sl,hp,ef,bs⟩ (some (u,w))=some false:=by
            rcases b1 with ⟨c1,c2⟩ | c1
            · have:=Nat.eq_of_beq_eq_true c1
              have hw:w=want:=by simpa using c2
              subst this; subst hw
              simp [YP,h1]
            · have:u ∈ ds:=Classical.byContradiction fun hn=>by rw [Vq.2 hn] at c1; cases c1
              simp [YP,h2 u this]
          obtain ⟨sl',a1,a2,a3⟩:=Px l (d :: ds) (sl.set d .undef) hp ef (by rw [List.getElem?_set,if_neg hdt]; exact h1)
            (fun x hx=>by
              rw [List.getElem?_set]
              by_cases e:d=x
              · subst e; simp [h3,show d < N from Nat.le_of_ble_eq_true b5]
              · rw [if_neg e]
                rcases List.mem_cons.1 hx with e' | hx
                · exact absurd e'.symm e
                · exact h2 x hx)
            (by rw [List.length_set]; exact h3)
          refine ⟨sl',?_,by rw [a2,List.length_set],fun j hj=>?_⟩
          · simp only [ZH,Zv,hg,hw,hd]
            exact a1
          · rw [a3 j hj,List.getElem?_set,if_neg (fun (e:d=j)=>hj (e ▸ hdP))]
theorem LY {t:Nat}{want:Bool}{P:List Nat}:∀ (ops:List Yb) (ds:List Nat),∀ o ∈ ops.take (WQ N t want P ds ops),Qy o.op=false∧o.dst≠some t∧∀ d,o.dst=some d→d ∈ P
  | [],ds,o,ho=>by cases ho
  | o :: l,ds,o',ho=>by
    cases hg:o.guard with
    | none=>rw [show WQ N t want P ds (o :: l)=0 by simp only [WQ,hg]] at ho; cases ho
    | some uw =>
      obtain ⟨u,w⟩:=uw
      cases hd:o.dst with
      | none=>rw [show WQ N t want P ds (o :: l)=0 by simp only [WQ,hg,hd]] at ho; cases ho
      | some d =>
        cases hb:(((Nat.beq u t && (w == want)) || !Xl ds u) && !Nat.beq d t && !Xl P d && !Qy o.op && Nat.blt d N) with
        | false=>rw [show WQ N t want P ds (o :: l)=0 by simp only [WQ,hg,hd,hb]] at ho; cases ho
        | true =>
          rw [show WQ N t want P ds (o :: l)=WQ N t want P (d :: ds) l + 1 by simp only [WQ,hg,hd,hb],List.take_succ_cons] at ho
          simp only [Bool.and_eq_true,Bool.or_eq_true,Bool.not_eq_true'] at hb
          obtain ⟨⟨⟨⟨b1,b2⟩,b3⟩,b4⟩,b5⟩:=hb
          rcases List.mem_cons.1 ho with e | ho
          · subst e
            refine ⟨b4,fun e=>?_,fun x hx=>?_⟩
            · rw [hd] at e; cases e; rw [Nat.beq_refl] at b2; cases b2
            · rw [hd] at hx; cases hx
              exact Classical.byContradiction fun hn=>by rw [Vq.2 hn] at b3; cases b3
          · exact LY l (d :: ds) o' ho
theorem Sj {call:FuncId→List AV→List Zi→KR}{P:List Nat}:∀ (ops:List Yb) (s s':Zc),(∀ o ∈ ops,Qy o.op=false∧∀ d,o.dst=some d→d ∈ P)→ZH G call ops s=some s'→s'.sl.length=s.sl.length∧∀ j,j ∉ P→s'.sl[j]? = s.sl[j]?
  | [],s,s',_,h=>by cases h; exact ⟨rfl,fun _ _=>rfl⟩
  | o :: l,s,s',hc,h=>by
    simp only [ZH] at h
    split at h
    · rename_i s1 h1
      obtain ⟨a1,a2⟩:=Sj l s1 s' (fun o ho=>hc o (.tail _ ho)) h
      have one:s1.sl.length=s.sl.length∧∀ j,j ∉ P→s1.sl[j]? = s.sl[j]?:=by
        obtain ⟨c1,c2⟩:=hc o (.head _)
        have putOff:∀ (s2:Zc) (v:AV),s2.sl=s.sl→(s2.put o.dst v).sl.length=s.sl.length∧∀ j,j ∉ P→(s2.put o.dst v).sl[j]? = s.sl[j]?:=by
          intro s2 v h2
          cases hd:o.dst with
          | none=>exact ⟨congrArg _ h2,fun _ _=>by show s2.sl[_]? = _; rw [h2]⟩
          | some d=>exact ⟨by show (s2.sl.set d v).length=_; rw [List.length_set,h2],fun j hj=>by show (s2.sl.set d v)[j]? = _; rw [List.getElem?_set,if_neg (fun (e:d=j)=>hj (e ▸ c2 d hd)),h2]⟩
        unfold Zv at h1
        split at h1
        · split at h1
          · rename_i hev
            have e1:=Pi c1 hev
            cases h1
            exact putOff _ _ e1
          · cases h1
        · cases h1
          exact putOff s _ rfl
        · cases h1
      exact ⟨a1.trans one.1,fun j hj=>(a2 j hj).trans (one.2 j hj)⟩
    · cases h
theorem Zbw {A:List (Nat×Bool)}{P:List Nat}{ops:List Yb}{t:Nat}{want:Bool}{m:Nat}{d:Option Nat}{a b:Yv}{rest:List Yb}(h:CB N A P ops=some (t,want,m,d,a,b,rest)) :
    m=WQ N t want P [] ops∧t < N∧t ∉ P∧∃ g,ops.drop m=⟨d,.pick (.tmp t) a b,g⟩ :: rest∧(g=none∨∃ p ∈ A,g=some p):=by
  unfold CB at h
  split at h
  · cases h
  · rename_i o l
    split at h
    · cases h
    · rename_i t' want' hg
      cases hi:inA t' want' A with
      | true=>rw [hi,KY] at h; cases h
      | false =>
        rw [hi,UA] at h
        split at h
        · rename_i d' u a' b' rest' hd
          obtain ⟨h1,h2⟩:=Xc h
          simp only [Bool.and_eq_true] at h1
          obtain ⟨⟨⟨c1,c2⟩,c3⟩,c4⟩:=h1
          cases h2
          have:=Nat.eq_of_beq_eq_true c1
          subst this
          exact ⟨rfl,Nat.le_of_ble_eq_true c2,Vq.1 c3,none,hd,.inl rfl⟩
        · rename_i d' u a' b' gt gw rest' hd
          obtain ⟨h1,h2⟩:=Xc h
          simp only [Bool.and_eq_true] at h1
          obtain ⟨⟨⟨⟨c0,c1⟩,c2⟩,c3⟩,c4⟩:=h1
          cases h2
          have:=Nat.eq_of_beq_eq_true c1
          subst this
          exact ⟨rfl,Nat.le_of_ble_eq_true c2,Vq.1 c3,some (gt,gw),hd,.inr ⟨_,NR c0,rfl⟩⟩
        · cases h
theorem ZcY:∀ (c w:Bool),(c == w)=false→c=!w:=by decide
theorem BR:∀ (n:Nat) {A:List (Nat×Bool)} {P:List Nat} {ops:List Yb} {e:Env} {sl:List AV} (_:YV N P e sl) (_:Held A sl) (_:Calm A ops) {hp:List Zi} {ef:Eff} {k:XD} {r:AV×List Zi×Eff},EC G N bs K n A P ops k e hp ef=some r →
    ∃ (e':Env) (sl':List AV) (hp':List Zi) (ef':Eff),ZH G K ops ⟨sl,hp,ef,bs⟩=some ⟨sl',hp',ef',bs⟩∧YV N (FY N n A P ops) e' sl'∧Held A sl'∧k e' hp' ef'=some r
  | 0,A,P,[],e,sl,he,hA,_,hp,ef,k,r,h=>⟨e,sl,hp,ef,rfl,he,hA,by simpa [EC] using h⟩
  | n + 1,A,P,[],e,sl,he,hA,_,hp,ef,k,r,h=>⟨e,sl,hp,ef,rfl,he,hA,by simpa [EC] using h⟩
  | 0,A,P,o :: l,e,sl,he,hA,_,hp,ef,k,r,h=>by simp [EC] at h
  | n + 1,A,P,o :: l,e,sl,he,hA,hc,hp,ef,k,r,h=>by
    cases hg:CB N A P (o :: l) with
    | some gg =>
      obtain ⟨t,want,m,d,a,b,rest⟩:=gg
      simp only [EC,hg] at h
      simp only [FY,hg]
      obtain ⟨hm,htN,htP,g,hdrop,hgd⟩:=Zbw hg
      have hsplit:o :: l=(o :: l).take m ++ ⟨d,.pick (.tmp t) a b,g⟩ :: rest:=by rw [← hdrop,List.take_append_drop]
      have hcalm:∀ o' ∈ (o :: l).take m,Qy o'.op=false∧o'.dst≠some t∧∀ x,o'.dst=some x→x ∈ P:=by rw [hm]; exact LY _ _
      have hcA:A≠[]→∀ p ∈ A,d≠some p.1:=fun hne p hp=>(hc hne ⟨d,.pick (.tmp t) a b,g⟩ (by rw [hsplit]; exact List.mem_append_right _ (.head _))).2 p hp
      have ht:sl[t]? = some (e t).val:=he.val t htN htP
      have behind:∀ (sl1:List AV) (hp1:List Zi) (ef1:Eff) (c:Bool) (v:AV),ZH G K ((o :: l).take m) ⟨sl,hp,ef,bs⟩=some ⟨sl1,hp1,ef1,bs⟩→sl1.length=sl.length→(∀ j,j ∉ P→sl1[j]? = sl[j]?)→Held A sl1→sl1[t]? = some (.bool c) →
          opnd G sl1 (if c then a else b)=some v→EC G N bs K n A (rmO d P) rest k (e.put d (.raw v)) hp1 ef1=some r →
          ∃ (e':Env) (sl':List AV) (hp':List Zi) (ef':Eff),ZH G K (o :: l) ⟨sl,hp,ef,bs⟩=some ⟨sl',hp',ef',bs⟩∧YV N (FY N n A (rmO d P) rest) e' sl'∧Held A sl'∧k e' hp' ef'=some r:=by
        intro sl1 hp1 ef1 c v h1 hlen hoff hA1 hc1 hv hk
        have he1:YV N P e sl1:=⟨hlen.trans he.len,fun j hj hn=>(hoff j hn).trans (he.val j hj hn),he.ok⟩
        have hput:=he1.put d (v := .raw v) (Uy v) (hp := hp1) (ef := ef1) (bs := bs)
        have hA2:Held A (Zc.put ⟨sl1,hp1,ef1,bs⟩ d v).sl:=by
          by_cases hne:A=[]
          · subst hne; intro p hp; cases hp
          · exact hA1.put (hcA hne) v
        obtain ⟨e',sl',hp',ef',b1,b2,b3,b4⟩:=BR n hput hA2 (fun hne o' ho'=>hc hne o' (by rw [hsplit]; exact List.mem_append_right _ (.tail _ ho'))) hk
        refine ⟨e',sl',hp',ef',?_,b2,b3,b4⟩
        rw [hsplit,UZ,h1]
        show ZH G K (⟨d,.pick (.tmp t) a b,g⟩ :: rest) ⟨sl1,hp1,ef1,bs⟩=_
        have hw:YP ⟨sl1,hp1,ef1,bs⟩ g=some true:=by
          rcases hgd with e0 | ⟨p,hp,e0⟩
          · subst e0; rfl
          · subst e0
            obtain ⟨p1,p2⟩:=p
            rw [Tn rfl (hA1 _ hp)]
            simp [Ko]
        have hop:Zd G K ⟨sl1,hp1,ef1,bs⟩ (.pick (.tmp t) a b)=some (v,⟨sl1,hp1,ef1,bs⟩):=by
          have:opnd G sl1 (.tmp t)=some (.bool c):=by simp only [Abs.opnd,hc1,Option.map_some]; rfl
          cases c with
          | true=>simp only [if_true] at hv; simp only [Zd,this,hv,Option.map_some]
          | false=>simp only [Bool.false_eq_true,if_false] at hv; simp only [Zd,this,hv,Option.map_some]
        simp only [ZH,Zv,hw,hop]
        rw [put_eq]
        exact b1
      unfold Ql at h
      split at h
      · rename_i c hcv
        rw [hcv] at ht
        split at h
        · rename_i hcw
          have hcw:c=want:=by simpa using hcw
          subst hcw
          obtain ⟨v,hp1,ef1,h1,h2⟩:=U2 h
          have hA':Held ((t,c) :: A) sl:=by
            intro p hp
            rcases List.mem_cons.1 hp with e0 | hp
            · subst e0; exact ht
            · exact hA p hp
          have hc':Calm ((t,c) :: A) ((o :: l).take m):=by
            intro _ o' ho'
            obtain ⟨q1,q2,q3⟩:=hcalm o' ho'
            refine ⟨q1,fun p hp=>?_⟩
            rcases List.mem_cons.1 hp with e0 | hp
            · subst e0; exact q2
            · exact (hc (by intro h0; subst h0; cases hp) o' (by rw [hsplit]; exact List.mem_append_left _ ho')).2 p hp
          obtain ⟨e1,sl1,hp2,ef2,b1,b2,b3,b4⟩:=BR n he hA' hc' h1
          obtain ⟨v',g1,g2⟩:=Zp b4
          cases g2
          obtain ⟨o1,o2⟩:=Sj (P := P) _ _ _ (fun o' ho'=>⟨(hcalm o' ho').1,(hcalm o' ho').2.2⟩) b1
          refine behind sl1 _ _ c _ b1 o1 o2 (fun p hp=>b3 p (.tail _ hp)) (b3 _ (.head _)) ?_ h2
          have:=b2.opnd g1
          cases c <;> exact this
        · rename_i hcw
          have hcw:c=!want:=ZcY _ _ hcw
          subst hcw
          obtain ⟨v,h1,h2⟩:=ZW h
          obtain ⟨sl1,b1,b2,b3⟩:=Px (G := G) (N := N) (bs := bs) (call := K) (P := P) (t := t) (want := want) (o :: l) [] sl hp ef ht (fun _ hx=>by cases hx) he.len
          rw [← hm] at b1
          have he1:YV N P e sl1:=⟨b2.trans he.len,fun j hj hn=>(b3 j hn).trans (he.val j hj hn),he.ok⟩
          have hA1:Held A sl1:=by
            by_cases hne:A=[]
            · subst hne; intro p hp; cases hp
            · have hall:∀ o' ∈ (o :: l).take m,∀ p ∈ A,o'.dst≠some p.1:=fun o' ho' p hp=>(hc hne o' (by rw [hsplit]; exact List.mem_append_left _ ho')).2 p hp
              intro p hp
              have:=Sj (G := G) (call := K) (P := ((o :: l).take m).filterMap (·.dst)) _ _ _ (fun o' ho'=>⟨(hcalm o' ho').1,fun x hx=>List.mem_filterMap.2 ⟨o',ho',hx⟩⟩) b1
              rw [this.2 p.1 (fun hmem=>by obtain ⟨o',ho',hx⟩:=List.mem_filterMap.1 hmem; exact hall o' ho' p hp hx)]
              exact hA p hp
          refine behind sl1 _ _ (!want) _ b1 b2 b3 hA1 (by rw [b3 t htP]; exact ht) ?_ h2
          have:=he1.opnd h1
          cases want <;> exact this
      · cases h
    | none =>
      simp only [EC,hg] at h
      simp only [FY,hg]
      obtain ⟨e1,sl1,hp1,ef1,h1,h2,h3,h4⟩:=ZbL he hA (fun hne o' ho'=>hc hne o' (by rcases List.mem_cons.1 ho' with e0 | e0; (subst e0; exact .head _); cases e0)) h
      obtain ⟨e2,sl2,hp2,ef2,g1,g2,g3,g4⟩:=BR n h2 h3 (fun hne o' ho'=>hc hne o' (.tail _ ho')) h4
      exact ⟨e2,sl2,hp2,ef2,by simp only [ZH,h1,g1],g2,g3,g4⟩
theorem Zaf {P:List Nat}{d:Option Nat}{t:Nat}(h:t ∈ rmO d P):t ∈ P:=by
  cases d with
  | none=>exact h
  | some d=>exact (Ey.1 h).1
theorem BL:∀ (n:Nat) {A:List (Nat×Bool)} {P:List Nat} {ops:List Yb} {t:Nat},t ∈ FY N n A P ops→t ∈ P
  | 0,A,P,ops,t,h=>by simpa [FY] using h
  | n + 1,A,P,[],t,h=>by simpa [FY] using h
  | n + 1,A,P,o :: l,t,h=>by
    unfold FY at h
    split at h
    · exact Zaf (BL n h)
    · exact Zaf (BL n h)
theorem BQ {P:List Nat}{ops:List Yb}{e:Env}{sl:List AV}(he:YV N P e sl){hp:List Zi}{ef:Eff}{k:XD}{r:AV×List Zi×Eff}(h:EC G N bs K ops.length [] P ops k e hp ef=some r) :
    ZaU N bs P (ZH G K ops ⟨sl,hp,ef,bs⟩) k r:=by
  obtain ⟨e',sl',hp',ef',h1,h2,_,h4⟩:=BR ops.length he (fun p hp=>by cases hp) (fun hne=>absurd rfl hne) h
  exact ⟨e',sl',hp',ef',h1,h2.mono fun t ht=>BL _ ht,h4⟩
def Goes (N bs:Nat)(P:List Nat)(x:Option (Kw×Zc))(n rt:XD)(xs:List (Nat×XD))(r:AV×List Zi×Eff):Prop :=
  ∃ (ex:Kw) (e':Env) (sl':List AV) (hp':List Zi) (ef':Eff),x=some (ex,⟨sl',hp',ef',bs⟩)∧YV N P e' sl'∧match ex with
    | .normal=>n e' hp' ef'=some r
    | .ret=>rt e' hp' ef'=some r
    | .exit i=>Zb7 i xs e' hp' ef'=some r
variable {L:Nat}
theorem Wh (a b:ZA)(n r:XD)(xs:List (Nat×XD)):ZF G N bs K P L (.seq a b) n r xs=ZF G N bs K P L a (ZF G N bs K P L b n r xs) r xs:=rfl
theorem Yq (id:Nat)(c:ZA)(n r:XD)(xs:List (Nat×XD)):ZF G N bs K P L (.block id c) n r xs=ZF G N bs K P L c n r ((id,n) :: xs):=rfl
theorem Yr (c:ZA)(n r:XD)(xs:List (Nat×XD)):ZF G N bs K P L (.scope c) n r xs=ZF G N bs K P L c n r xs:=rfl
theorem Y8 (c:Yv)(a b:ZA)(n r:XD)(xs:List (Nat×XD)):ZF G N bs K P L (.cond c a b) n r xs=fun e hp ef=>rdK (YS G N P e c) fun v=>ifK v (ZF G N bs K P L a n r xs e hp ef) (ZF G N bs K P L b n r xs e hp ef):=rfl
theorem XN:∀ (c:ZA) {n rt:XD} {xs:List (Nat×XD)} {e:Env} {sl:List AV} (_:YV N P e sl) {hp:List Zi} {ef:Eff} {r:AV×List Zi×Eff},ZF G N bs K P L c n rt xs e hp ef=some r →
    Goes N bs P (Z4 G K L c ⟨sl,hp,ef,bs⟩) n rt xs r
  | .skip,n,rt,xs,e,sl,he,hp,ef,r,h=>⟨.normal,e,sl,hp,ef,rfl,he,h⟩
  | .region false ops,n,rt,xs,e,sl,he,hp,ef,r,h=>by
    obtain ⟨e',sl',hp',ef',h1,h2,h3⟩:=BQ he h
    exact ⟨.normal,e',sl',hp',ef',by simp only [Z4,h1,Option.map_some],h2,h3⟩
  | .region true ops,n,rt,xs,e,sl,he,hp,ef,r,h=>by
    obtain ⟨e',sl',hp',ef',h1,h2,h3⟩:=BQ he h
    exact ⟨.normal,e',sl',hp',ef',by simp only [Z4,h1,Option.map_some],h2,h3⟩
  | .regionB ops,n,rt,xs,e,sl,he,hp,ef,r,h=>by
    obtain ⟨e',sl',hp',ef',h1,h2,h3⟩:=BQ he h
    exact ⟨.normal,e',sl',hp',ef',by simp only [Z4,h1,Option.map_some],h2,h3⟩
  | .seq a b,n,rt,xs,e,sl,he,hp,ef,r,h=>by
    obtain ⟨ex,e',sl',hp',ef',h1,h2,h3⟩:=XN a he h
    cases ex with
    | normal =>
      obtain ⟨ex,e2,sl2,hp2,ef2,g1,g2,g3⟩:=XN b h2 h3
      exact ⟨ex,e2,sl2,hp2,ef2,by simp only [Z4,h1,g1],g2,g3⟩
    | ret=>exact ⟨.ret,e',sl',hp',ef',by simp only [Z4,h1],h2,h3⟩
    | exit i=>exact ⟨.exit i,e',sl',hp',ef',by simp only [Z4,h1],h2,h3⟩
  | .cond c a b,n,rt,xs,e,sl,he,hp,ef,r,h=>by
    obtain ⟨v,h1,h2⟩:=Zp (show rdK (YS G N P e c) (fun v=>ifK v (ZF G N bs K P L a n rt xs e hp ef) (ZF G N bs K P L b n rt xs e hp ef))=some r from h)
    unfold ifK at h2
    split at h2
    · obtain ⟨ex,e',sl',hp',ef',g1,g2,g3⟩:=XN a he h2
      exact ⟨ex,e',sl',hp',ef',by simp only [Z4,he.opnd h1,g1],g2,g3⟩
    · obtain ⟨ex,e',sl',hp',ef',g1,g2,g3⟩:=XN b he h2
      exact ⟨ex,e',sl',hp',ef',by simp only [Z4,he.opnd h1,g1],g2,g3⟩
    · cases h2
  | .block id c,n,rt,xs,e,sl,he,hp,ef,r,h=>by
    obtain ⟨ex,e',sl',hp',ef',h1,h2,h3⟩:=XN c he h
    cases ex with
    | normal=>exact ⟨.normal,e',sl',hp',ef',by simp only [Z4,h1],h2,h3⟩
    | ret=>exact ⟨.ret,e',sl',hp',ef',by simp only [Z4,h1],h2,h3⟩
    | exit i =>
      simp only [Zb7] at h3
      by_cases hi:i=id
      · subst hi
        rw [Nat.beq_refl,KY] at h3
        exact ⟨.normal,e',sl',hp',ef',by simp only [Z4,h1,if_true],h2,h3⟩
      · have:Nat.beq id i=false:=by cases hb:Nat.beq id i with | false=>rfl | true=>exact absurd (Nat.eq_of_beq_eq_true hb).symm hi
        rw [this,UA] at h3
        exact ⟨.exit i,e',sl',hp',ef',by simp only [Z4,h1,if_neg hi],h2,h3⟩
  | .loop c,n,rt,xs,e,sl,he,hp,ef,r,h=>by
    have go:∀ (m:Nat) {e:Env} {sl:List AV} (_:YV N P e sl) {hp:List Zi} {ef:Eff},QH (fun n'=>ZF G N bs K P L c n' rt xs) m e hp ef=some r →
        Goes N bs P (iter (Z4 G K L c) m ⟨sl,hp,ef,bs⟩) n rt xs r:=by
      intro m
      induction m with
      | zero=>intro e sl he hp ef h; cases h
      | succ m ih =>
        intro e sl he hp ef h
        obtain ⟨ex,e',sl',hp',ef',h1,h2,h3⟩:=XN c he (show ZF G N bs K P L c (QH (fun n'=>ZF G N bs K P L c n' rt xs) m) rt xs e hp ef=some r from h)
        cases ex with
        | normal =>
          obtain ⟨ex,e2,sl2,hp2,ef2,g1,g2,g3⟩:=ih h2 h3
          exact ⟨ex,e2,sl2,hp2,ef2,by simp only [iter,h1,g1],g2,g3⟩
        | ret=>exact ⟨.ret,e',sl',hp',ef',by simp only [iter,h1],h2,h3⟩
        | exit i=>exact ⟨.exit i,e',sl',hp',ef',by simp only [iter,h1],h2,h3⟩
    exact go L he h
  | .scope c,n,rt,xs,e,sl,he,hp,ef,r,h=>XN c he h
  | .exit id,n,rt,xs,e,sl,he,hp,ef,r,h=>⟨.exit id,e,sl,hp,ef,rfl,he,h⟩
  | .ret,n,rt,xs,e,sl,he,hp,ef,r,h=>⟨.ret,e,sl,hp,ef,rfl,he,h⟩
  | .bad,n,rt,xs,e,sl,he,hp,ef,r,h=>by cases h
end
theorem Za5 {e:Env}{N:Nat}{P:List Nat}{sl:List AV}(he:YV N P e sl){hp:List Zi}{ef:Eff}{bs:Nat}{r:Np}{v:AV}(h:Zes e N P hp r=some v):II ⟨sl,hp,ef,bs⟩ r=some v:=by
  cases r <;> simp only [Zes] at h <;> obtain ⟨h1,h2⟩:=Xc h
  · cases h2; exact he.get h1
  · simp only [II,he.get h1,h2]
  · simp only [II,he.get h1,h2]
theorem EF {e:Env}{N:Nat}{P:List Nat}{sl:List AV}(he:YV N P e sl){hp:List Zi}{ef:Eff}{bs:Nat}:∀ {rs:List Np} {k:List AV→KR} {q:AV×List Zi×Eff},Zcc e N P hp rs k=some q→∃ vs,U7 ⟨sl,hp,ef,bs⟩ rs=some vs∧k vs=some q
  | [],k,q,h=>⟨[],rfl,h⟩
  | r :: l,k,q,h=>by
    simp only [Zcc] at h
    obtain ⟨v,hv,h⟩:=Zp h
    obtain ⟨vs,hvs,h⟩:=EF (ef := ef) (bs := bs) he h
    exact ⟨v.nm :: vs,by simp only [U7,Za5 he hv,hvs],h⟩
theorem AL {e:Env}{N:Nat}{P:List Nat}{sl:List AV}(he:YV N P e sl){hp:List Zi}{ef:Eff}{bs:Nat}{rs:List Np}{k:AV→KR}{q:AV×List Zi×Eff}(h:S9 e N P hp rs k=some q):∃ v,VC ⟨sl,hp,ef,bs⟩ rs=some v∧k v=some q:=by
  unfold S9 at h
  split at h
  · obtain ⟨v,hv,h⟩:=Zp h
    exact ⟨v,Za5 he hv,h⟩
  · rename_i hne
    obtain ⟨vs,hvs,h⟩:=EF (ef := ef) (bs := bs) he h
    refine ⟨_,?_,h⟩
    unfold VC
    split
    · exact absurd rfl (hne _)
    · rw [hvs]; rfl
theorem Ba:∀ (args:List AV) (t:Nat),RZ args t=.raw (args.getD t .undef)
  | [],t=>by simp [RZ]
  | v :: l,0=>rfl
  | v :: l,t + 1=>by
    show RZ l t=_
    rw [Ba l t]
    rfl
theorem Fj {args:List AV}{N:Nat}{P:List Nat}(h:args.length≤N):YV N P (RZ args) (args ++ List.replicate (N - args.length) .undef):=by
  refine ⟨by simp; omega,fun t ht _=>?_,fun t=>by rw [Ba]; rfl⟩
  rw [Ba,List.getD_eq_getElem?_getD]
  by_cases h1:t < args.length
  · rw [List.getElem?_append_left h1]; simp [h1,KV.val]
  · rw [List.getElem?_append_right (by omega),List.getElem?_replicate]
    simp [show t - args.length < N - args.length by omega,show args[t]? = none from List.getElem?_eq_none (by omega),KV.val]
theorem YQ {C:Cfg}{P:List Nat}{f:FuncId}{fn:AFn}(hT:C.T f=some fn){n:Nat}{args:List AV}{hp:List Zi}{r:AV×List Zi×Eff}(hl:args.length≤fn.ntmps)(h:fnK C.G (Za C n) P C.L fn args hp=some r) :
    Za C (n + 1) f args hp=some r:=by
  obtain ⟨ex,e',sl',hp',ef',h1,h2,h3⟩:=XN fn.code (Fj hl) h
  have hret:∀ (_:YU P fn hp e' hp' ef'=some r),∃ v,VC ⟨sl',hp',ef',hp.length⟩ fn.results=some v∧(if fn.keep then (v.nm,hp',ef') else finish v ⟨sl',hp',ef',hp.length⟩ hp)=r:=by
    intro h
    obtain ⟨v,a1,a2⟩:=AL h2 h
    refine ⟨v,a1,?_⟩
    cases a2
    unfold Y6
    cases fn.keep <;> rfl
  rw [Za]
  simp only [hT,h1]
  cases ex with
  | normal =>
    obtain ⟨v,a1,a2⟩:=hret h3
    simp only [a1,a2]
  | ret =>
    obtain ⟨v,a1,a2⟩:=hret h3
    simp only [a1,a2]
  | exit i=>cases h3
end Go.Proofs.YtdchnngpjjcchaaDoor.Abs
end
section
namespace Go.Proofs.YtdchnngpjjcchaaDoor.Abs
open Go
theorem Zfy {α:Type}(v:α)(k:α→KR):Ze (some v) k=k v:=rfl
theorem Zfw {α β:Type}(a:α)(b:β)(k:α→β→KR):XR (some (a,b)) k=k a b:=rfl
theorem Zfx {α β γ:Type}(a:α)(b:β)(c:γ)(k:α→β→γ→KR):Y1 (some (a,b,c)) k=k a b c:=rfl
theorem Zgv (b:Bool)(x y:KR):ifK (.bool b) x y=if b=true then x else y:=by cases b <;> rfl
theorem Zby (x:KR)(hp:List Zi)(ef:Eff)(k:AV→List Zi→Eff→KR):Kq (some true) x hp ef k=Y1 x k:=rfl
theorem Zbx (x:KR)(hp:List Zi)(ef:Eff)(k:AV→List Zi→Eff→KR):Kq (some false) x hp ef k=k .undef hp ef:=rfl
theorem CG (b:Bool):Ko true (.bool b)=some b:=by cases b <;> rfl
theorem CE (b:Bool):Ko false (.bool b)=some (!b):=by cases b <;> rfl
theorem ZdT (a b:AV):Lj (.bool true) a b=some a:=rfl
theorem ZdS (a b:AV):Lj (.bool false) a b=some b:=rfl
theorem ZeT {α:Type}(x:α)(k:α→KR):MM x k=k x:=rfl
theorem ZdX (b:Bool):AV.ro (.bool b)=.bool b:=rfl
theorem ZfB (k:IntKind)(n:Int):AV.ro (.int k n)=.int k n:=rfl
theorem ZfM (s:List UInt8):AV.ro (.str s)=.str s:=rfl
theorem ZfF (k:Nat)(r:List (List AV)):AV.ro (.lst k r)=.lst k r:=rfl
theorem ZfJ (k:Nat)(r:List (List AV)):AV.ro (.own k r)=.lst k r:=rfl
theorem Zf7 (c:List AV):AV.ro (.agg c)=.agg c:=rfl
theorem ZfN (c:List AV):AV.ro (.tup c)=.tup c:=rfl
theorem ZfK (g o:Nat):AV.ro (.ptr g o)=.ptr g o:=rfl
theorem ZfG (g:Nat):AV.ro (.map g)=.map g:=rfl
theorem ZfL (c:List AV):AV.ro (.ref c)=.ref c:=rfl
theorem ZgE (f:FuncId)(a c:List AV):AV.ro (.fn f a c)=.fn f a c:=rfl
theorem Zch:AV.ro .undef=.undef:=rfl
theorem Zd3 (b:Bool):AV.nm (.bool b)=.bool b:=rfl
theorem Zfb (k:IntKind)(n:Int):AV.nm (.int k n)=.int k n:=rfl
theorem Zfg (s:List UInt8):AV.nm (.str s)=.str s:=rfl
theorem Zfc (k:Nat)(r:List (List AV)):AV.nm (.lst k r)=.lst k r:=rfl
theorem Zfe (k:Nat)(r:List (List AV)):AV.nm (.own k r)=.lst k r:=rfl
theorem Zfa (c:List AV):AV.nm (.agg c)=.agg (c.map AV.ro):=rfl
theorem Zff (g o:Nat):AV.nm (.ptr g o)=.ptr g o:=rfl
theorem Zfd (g:Nat):AV.nm (.map g)=.map g:=rfl
theorem Zg2 (f:FuncId)(a c:List AV):AV.nm (.fn f a c)=.fn f a c:=rfl
theorem OB (c:List AV):AV.cells (.agg c)=c:=rfl
theorem Zaq (k:IntKind)(n:Int):AV.one (.int k n)=true:=rfl
theorem Ze0 (op:BinOp)(a b:List UInt8):Zb op .prim (.str a) (.str b)=Nb op a b:=rfl
theorem Zge (k:IntKind)(a b:Int):Zb .add .prim (.int k a) (.int k b)=some (.int k (k.wrap (a + b))):=by simp [Zb,WT,QR]
theorem Zgl (k:IntKind)(a b:Int):Zb .sub .prim (.int k a) (.int k b)=some (.int k (k.wrap (a - b))):=by simp [Zb,WT,QR]
theorem Zgh (k:IntKind)(a b:Int):Zb .mul .prim (.int k a) (.int k b)=some (.int k (k.wrap (a * b))):=by simp [Zb,WT,QR]
theorem ZgW (k:IntKind)(a b:Int):Zb .eql .prim (.int k a) (.int k b)=some (.bool (decide (a=b))):=by
  simp only [Zb,WT,QR,Bool.false_eq_true,if_false,if_true]; congr 2
theorem Zhb (k:IntKind)(a b:Int):Zb .neq .prim (.int k a) (.int k b)=some (.bool (decide (a≠b))):=by
  simp only [Zb,WT,QR,Bool.false_eq_true,if_false,if_true]
  by_cases h:a=b <;> simp [h]
theorem Zha (k:IntKind)(a b:Int):Zb .lss .prim (.int k a) (.int k b)=some (.bool (decide (a < b))):=by simp [Zb,WT,QR]
theorem ZgZ (k:IntKind)(a b:Int):Zb .leq .prim (.int k a) (.int k b)=some (.bool (decide (a≤b))):=by simp [Zb,WT,QR]
theorem ZgY (k:IntKind)(a b:Int):Zb .gtr .prim (.int k a) (.int k b)=some (.bool (decide (b < a))):=by simp [Zb,WT,QR]
theorem ZgX (k:IntKind)(a b:Int):Zb .geq .prim (.int k a) (.int k b)=some (.bool (decide (b≤a))):=by simp [Zb,WT,QR]
theorem Zhf (a b:List UInt8):Zb .eql .prim (.str a) (.str b)=some (.bool (decide (a=b))):=by
  rw [Ze0,Nb]; congr 2
  by_cases h:a=b <;> simp [h]
theorem Zhg (a b:List UInt8):Zb .neq .prim (.str a) (.str b)=some (.bool (decide (a≠b))):=by
  rw [Ze0,Nb]; congr 2
  by_cases h:a=b <;> simp [h]
theorem ZgM (b:Bool):XH .not (.bool b)=some (.bool (!b)):=rfl
theorem ZgL (k:IntKind)(n:Int):XH .neg (.int k n)=some (.int k (k.wrap (0 - n))):=rfl
theorem Zgy (hp:List Zi)(s:List UInt8):ZR hp .str (.str s)=some (.int .i64 s.length):=rfl
theorem Zgx (hp:List Zi)(k:Nat)(r:List (List AV)):ZR hp .slice (.lst k r)=some (.int .i64 r.length):=rfl
theorem Zgw (hp:List Zi)(g o l k:Nat):ZR hp .slice (.arr g o l k)=some (.int .i64 l):=rfl
theorem Zgo (hp:List Zi)(k k':IntKind)(n:Int):ZM hp (.int k) (.int k' n)=some (.int k (k.wrap n)):=rfl
theorem ZgN (l:List AV)(i:Nat):Zm (.tup l) i=(l[i]?).map AV.ro:=rfl
theorem ES (bs:Nat)(ef:Eff):Zf bs ef none=ef:=rfl
theorem Zbq (hp0:List Zi)(b:Bool)(hp:List Zi):Y6 false hp0 (.bool b) hp none=(.bool b,hp0,none):=rfl
theorem Zdm (hp0:List Zi)(k:IntKind)(n:Int)(hp:List Zi):Y6 false hp0 (.int k n) hp none=(.int k n,hp0,none):=rfl
theorem Zdq (hp0:List Zi)(s:List UInt8)(hp:List Zi):Y6 false hp0 (.str s) hp none=(.str s,hp0,none):=rfl
theorem Zdn (hp0:List Zi)(k:Nat)(r:List (List AV))(hp:List Zi):Y6 false hp0 (.lst k r) hp none=(.lst k r,hp0,none):=rfl
theorem Zdp (hp0:List Zi)(k:Nat)(r:List (List AV))(hp:List Zi):Y6 false hp0 (.own k r) hp none=(.own k r,hp0,none):=rfl
theorem Zdl {hp0:List Zi}{v v':AV}{hp:List Zi}(h:frz hp0.length hp v=some v'):Y6 false hp0 v hp none=(v',hp0,none):=by
  show finish v ⟨[],hp,none,hp0.length⟩ hp0=_
  simp only [finish,h]
theorem Cj (bs:Nat)(hp:List Zi)(l:List AV):frz bs hp (.tup l)=(l.mapM (Ii bs hp)).map .tup:=by rw [frz]
theorem Eo (bs:Nat)(hp:List Zi)(k:IntKind)(n:Int):Ii bs hp (.int k n)=some (.int k n):=rfl
theorem Zbv (bs:Nat)(hp:List Zi)(s:List UInt8):Ii bs hp (.str s)=some (.str s):=rfl
theorem Cf (bs:Nat)(hp:List Zi)(b:Bool):Ii bs hp (.bool b)=some (.bool b):=rfl
theorem Zbu (bs:Nat)(hp:List Zi)(k:Nat)(r:List (List AV)):Ii bs hp (.lst k r)=some (.lst k r):=rfl
theorem Cc (hp0:List Zi)(l:List AV)(hp:List Zi):Y6 false hp0 (.tup l) hp none=match l.mapM (Ii hp0.length hp) with
    | some l'=>(.tup l',hp0,none)
    | none=>(.tup l,hp,none):=by
  show finish (.tup l) ⟨[],hp,none,hp0.length⟩ hp0=_
  simp only [finish,Cj]
  cases l.mapM (Ii hp0.length hp) <;> rfl
theorem WA (h:List Zi)(x:Zi):(h ++ [x])[h.length]? = some x:=by simp
theorem BH (h:List Zi)(x y:Zi):(h ++ [x]).set h.length y=h ++ [y]:=by simp
theorem ZgA (ks:List CK)(k:IntKind)(x y:Int)(l m:List AV):Yd (.int :: ks) (.int k x :: l) (.int k y :: m)=if x=y then Yd ks l m else some false:=by
  by_cases h:x=y
  · subst h; simp [Yd,W9]
  · have:(x == y)=false:=by simpa using h
    simp [Yd,W9,h,this]
theorem ZgC (ks:List CK)(x y:List UInt8)(l m:List AV):Yd (.str :: ks) (.str x :: l) (.str y :: m)=if x=y then Yd ks l m else some false:=by
  by_cases h:x=y
  · subst h; simp [Yd,W9]
  · have:(x == y)=false:=by simpa using h
    simp [Yd,W9,h,this]
theorem Zf4 (ks:List CK)(x y:Bool)(l m:List AV):Yd (.bool :: ks) (.bool x :: l) (.bool y :: m)=if x=y then Yd ks l m else some false:=by
  cases x <;> cases y <;> simp [Yd,W9]
theorem ZgB:Yd [] [] []=some true:=rfl
theorem Zhe (p:Prop)[Decidable p](b:Bool):(if p then some b else some false)=some (decide p && b):=by by_cases h:p <;> simp [h]
theorem Zgg (ks:List CK)(a b:List AV):Zb .eql (.struct ks) (.agg a) (.agg b)=(Yd ks a b).map .bool:=rfl
theorem Zgj (ks:List CK)(a b:List AV):Zb .neq (.struct ks) (.agg a) (.agg b)=(Yd ks a b).map fun b=>.bool (!b):=rfl
theorem Zgf (a b:Bool):Zb .eql .bool (.bool a) (.bool b)=some (.bool (a == b)):=rfl
theorem Zgi (a b:Bool):Zb .neq .bool (.bool a) (.bool b)=some (.bool (!(a == b))):=rfl
def gif (b:Bool)(v:AV):AV:=if b=true then v else .undef
theorem Zgu (v:AV):gif true v=v:=rfl
theorem NQ (b:Bool)(v:AV)(hp:List Zi)(ef:Eff)(k:AV→List Zi→Eff→KR):Kq (some b) (some (v,hp,ef)) hp ef k=k (gif b v) hp ef:=by cases b <;> rfl
theorem Zf9 (b:Bool)(v:AV):AV.ro (gif b v)=gif b (AV.ro v):=by cases b <;> rfl
theorem ZbV (b c:Bool):Lj (.bool b) (gif b (.bool c)) (.bool false)=some (.bool (b && c)):=by cases b <;> rfl
theorem ZbW (b c:Bool):Lj (.bool b) (.bool true) (gif (!b) (.bool c))=some (.bool (b || c)):=by cases b <;> rfl
theorem Zdt (b c:Bool)(hp:List Zi)(ef:Eff)(k:AV→List Zi→Eff→KR):Ql (.bool b) true (some (.bool c,hp,ef)) (some (.bool false)) hp ef k=k (.bool (b && c)) hp ef:=by cases b <;> rfl
theorem ZeM (b c:Bool)(hp:List Zi)(ef:Eff)(k:AV→List Zi→Eff→KR):Ql (.bool b) false (some (.bool c,hp,ef)) (some (.bool true)) hp ef k=k (.bool (b || c)) hp ef:=by cases b <;> rfl
theorem ZeO (x:KR)(o:Option AV)(hp:List Zi)(ef:Eff)(k:AV→List Zi→Eff→KR):Ql (.bool true) true x o hp ef k=Y1 x k:=rfl
theorem ZeL (x:KR)(v:AV)(hp:List Zi)(ef:Eff)(k:AV→List Zi→Eff→KR):Ql (.bool false) true x (some v) hp ef k=k v hp ef:=rfl
theorem ZeN (x:KR)(v:AV)(hp:List Zi)(ef:Eff)(k:AV→List Zi→Eff→KR):Ql (.bool true) false x (some v) hp ef k=k v hp ef:=rfl
theorem ZeK (x:KR)(o:Option AV)(hp:List Zi)(ef:Eff)(k:AV→List Zi→Eff→KR):Ql (.bool false) false x o hp ef k=Y1 x k:=rfl
@[congr] theorem Zel {c c':AV}{w:Bool}{x x':KR}{o:Option AV}{hp:List Zi}{ef:Eff}{k:AV→List Zi→Eff→KR}(hc:c=c')(hx:x=x'):Ql c w x o hp ef k=Ql c' w x' o hp ef k:=by rw [hc,hx]
@[congr] theorem Zc9 {b b':Bool}{x x':KR}{hp:List Zi}{ef:Eff}{k:AV→List Zi→Eff→KR}(hb:b=b')(hx:b'=true→x=x'):Kq (some b) x hp ef k=Kq (some b') x' hp ef k:=by
  subst hb
  cases b with
  | false=>rfl
  | true=>rw [hx rfl]
@[congr] theorem Zer {α:Type}{x x':Option α}{k:α→KR}(h:x=x'):Ze x k=Ze x' k:=by rw [h]
@[congr] theorem Zep {α β:Type}{x x':Option (α×β)}{k:α→β→KR}(h:x=x'):XR x k=XR x' k:=by rw [h]
@[congr] theorem Zeq {α β γ:Type}{x x':Option (α×β×γ)}{k:α→β→γ→KR}(h:x=x'):Y1 x k=Y1 x' k:=by rw [h]
@[congr] theorem Zem {α:Type}{x x':α}{k:α→KR}(h:x=x'):MM x k=MM x' k:=by rw [h]
@[congr] theorem ZeP {x x':AV}{a b:KR}(h:x=x'):ifK x a b=ifK x' a b:=by rw [h]
theorem Zcl (bs n:Nat)(h:List Zi)(cs:List AV)(t:TypeId)(o:Nat)(v:AV)(ef:Eff)(h1:v.cells.length=n)(h2:o + n≤cs.length)(h3:v.laid=true)(h4:bs≤h.length) :
    stV bs n (.ptr h.length o) v (h ++ [.cells cs t]) ef=some (h ++ [.cells (splice cs o v.cells) t],ef):=by
  simp only [stV,WA,h1,h2,h3,and_self,if_true,BH,XQ]
  rw [if_neg (by omega)]
theorem BJ (h:List Zi)(cs:List AV)(t:TypeId)(o:Nat):Zt (h ++ [.cells cs t]) (.ptr h.length o)=(cs[o]?).map AV.ro:=by
  simp only [Zt,WA]
theorem BI {hp:List Zi}{g:Nat}{cs:List AV}{t:TypeId}(h:hp[g]? = some (.cells cs t))(o:Nat):Zt hp (.ptr g o)=(cs[o]?).map AV.ro:=by
  simp only [Zt,h]
theorem CY {hp:List Zi}{g:Nat}{cs:List AV}{t:TypeId}(h:hp[g]? = some (.cells cs t))(n o:Nat)(h1:o + n≤cs.length):ZV hp n (.ptr g o)=some (.agg (((cs.drop o).take n).map AV.ro)):=by
  simp only [ZV,h,h1,if_true]
theorem i64_in {x:Int}(h1:-9223372036854775808≤x)(h2:x≤9223372036854775807):IntKind.i64.wrap x=x:=IntWalk.i64_in x ⟨h1,h2⟩
theorem EP (n:Nat)(h:n < 4611686018427387904):IntKind.i64.wrap ((n:Int) + 1)=((n + 1:Nat):Int):=by rw [i64_in (by omega) (by omega)]; omega
theorem IA (k:Nat)(r:List (List AV))(i:Nat):ZZ (.slice k) (.lst k r) (.int .i64 i)=(r[i]?).map .ref:=by simp [ZZ]
theorem Tv (hp:List Zi)(n:Nat)(c:List AV)(h:n≤c.length):ZV hp n (.ref c)=some (.agg ((c.take n).map AV.ro)):=by simp [ZV,h]
theorem Zdz (hp:List Zi)(c:AV)(l:List AV):Zt hp (.ref (c :: l))=some c.ro:=rfl
theorem Zc7 (o:Nat)(c:List AV):Yh o (.ref c)=some (.ref (c.drop o)):=rfl
theorem Zc6 (o g p:Nat):Yh o (.ptr g p)=some (.ptr g (p + o)):=rfl
theorem Zda (n:Nat)(c:List AV)(h:c.length=n):SX n (.agg c)=some c:=by simp [SX,AV.cells,AV.laid,h]
end Go.Proofs.YtdchnngpjjcchaaDoor.Abs
end
end
