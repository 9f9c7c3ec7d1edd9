import Derived.Test.YtgjcjbhhhlelnaaGreatDoorHWa1
set_option linter.all false
section
section
namespace Go.Proofs.YtgjcjbhhhlelnaaGreatDoor.Abs
open Go Go.RowKit
section
variable {G:Nat→Option (List AV)}{call:FuncId→List AV→List Zm→Option (AV×List Zm×Eff)}
theorem Rk:∀ f args hp v hp' e,Yp call f args hp=some (v,hp',e)→hp'=hp∧e=none:=by
 intro f args hp v hp' e h
 unfold Yp at h
 split at h <;> first | (cases h; done) | skip
 split at h <;> first | (cases h; done) | skip
 split at h <;> first | (cases h; done) | skip
 cases h
 exact ⟨rfl,rfl⟩
theorem ZqG {f:FuncId}{args:List AV}{hp:List Zm}{v:AV}{hp':List Zm}{e:Eff}(h:Yp call f args hp=some (v,hp',e))(h2:List Zm):Yp call f args h2=some (v,h2,none):=by
 unfold Yp at h ⊢
 split at h <;> first | (cases h; done) | skip
 rename_i hb
 rw [if_pos hb]
 split at h <;> first | (cases h; done) | skip
 rename_i hc
 split at h <;> first | (cases h; done) | skip
 cases h
 rfl
def Pfx (h h':List Zm):Prop:=∀ (g:Nat) (o:Zm),h[g]? = some o→h'[g]? = some o
theorem Pfx.take (n:Nat)(h:List Zm):Pfx (h.take n) h:=fun g o hg=>by
 rw [List.getElem?_take] at hg
 split at hg
 ·exact hg
 ·cases hg
theorem Pfx.look {h h':List Zm}(p:Pfx h h'):X4 h h':=.of_get fun g cs t hg=>⟨cs,t,p g _ hg,rfl⟩
theorem Pfx.rows {h h':List Zm}(p:Pfx h h'){x:AV}{r:Nat×List (List AV)}(hx:rowsOf h x=some r):rowsOf h' x=some r:=by
 unfold rowsOf at hx ⊢
 split at hx <;> first | exact hx | (cases hx; done) | skip
 split at hx <;> first | (cases hx; done) | skip
 rename_i hg
 rw [p _ _ hg]
 exact hx
theorem Pfx.len {h h':List Zm}(p:Pfx h h'){sh:ZiN}{x v:AV}(hx:Xf h sh x=some v):Xf h' sh x=some v:=by
 unfold Xf at hx ⊢
 split at hx <;> first | exact hx | (cases hx; done) | skip
 split at hx <;> first | (cases hx; done) | skip
 rename_i hg
 rw [p _ _ hg]
 exact hx
theorem Pfx.conv {h h':List Zm}(p:Pfx h h'){c:Conv}{x v:AV}(hx:XD h c x=some v):XD h' c x=some v:=by
 unfold XD at hx ⊢
 split at hx <;> first | exact hx | (cases hx; done) | skip
 split at hx <;> first | (cases hx; done) | skip
 rename_i hg
 rw [p.rows hg]
 exact hx
theorem Zxu {ao:AOp}{k:HK}{s:Zb}{v:AV}{s':Zb}(hk:hkind ao=some k)(hk':k=.free∨k=.look∨k=.read)(h:Ze G (Yp call) s ao=some (v,s')){h2:List Zm}(p:Pfx s.hp h2) :
  s'.hp=s.hp∧s'.ef=s.ef∧s'.bs=s.bs∧Ze G (Yp call) { s with hp:=h2 } ao=some (v,{ s' with hp:=h2 }):=by
 have S:=Zp0 Rk hk h
 have hst:s'.hp=s.hp∧s'.ef=s.ef:=S.still (by rcases hk' with rfl | rfl | rfl <;> trivial)
 refine ⟨hst.1,hst.2,S.bs,?_⟩
 have fin:Ze G (Yp call) { s with hp:=h2 } ao=some (v,⟨tkF ao s.sl,h2,s.ef,s.bs⟩)→Ze G (Yp call) { s with hp:=h2 } ao=some (v,{ s' with hp:=h2 }):=fun e=>by
  rw [e,← S.sl,← hst.2,← S.bs]
 refine fin ?_
 rcases hk' with rfl | rfl | rfl
 ·exact S.free rfl { s with hp:=h2 } (fun _ _=>rfl)
 ·exact S.look rfl { s with hp:=h2 } (fun _ _=>rfl) p.look
 ·cases ao <;> first | (simp only [hkind,Option.some.injEq,reduceCtorEq] at hk; done) | skip
  case lit e k parts=>cases parts <;> simp [hkind] at hk
  case len sh x =>
   simp only [Ze] at h ⊢
   split at h <;> first | (cases h; done) | skip
   rename_i y hy
   obtain ⟨h1,rfl⟩:=Qr h
   simp only [hy,p.len h1,Option.map_some]
   rfl
  case app k b t x =>
   simp only [Ze] at h ⊢
   split at h <;> first | (cases h; done) | skip
   rename_i k' r y h1 h2
   split at h <;> first | (cases h; done) | skip
   rename_i k2 r2 h3
   split at h <;> first | (cases h; done) | skip
   rename_i hc
   cases h
   simp only [h1,h2,p.rows h3]
   rw [if_pos hc]
   rfl
  case appn k b x =>
   simp only [Ze] at h ⊢
   split at h <;> first | (cases h; done) | skip
   rename_i y h2
   split at h <;> first | (cases h; done) | skip
   rename_i k2 r2 h3
   split at h <;> first | (cases h; done) | skip
   rename_i hc
   cases h
   simp only [h2,p.rows h3]
   rw [if_pos hc]
   rfl
  case conv c x =>
   simp only [Ze] at h ⊢
   split at h <;> first | (cases h; done) | skip
   rename_i y hy
   obtain ⟨h1,rfl⟩:=Qr h
   simp only [hy,p.conv h1,Option.map_some]
   rfl
  case call f args =>
   simp only [Ze] at h ⊢
   split at h <;> first | (cases h; done) | skip
   rename_i g first caps vs sl hf hv
   split at h <;> first | (cases h; done) | skip
   rename_i u hp' e hc
   obtain ⟨rfl,rfl⟩:=Rk _ _ _ _ _ _ hc
   cases h
   have hsl:=S.sl
   simp only at hsl
   simp only [hf,hv,ZqG hc h2,Zb.after]
   rw [hsl]
variable (G call)(base:Nat)(al:List Nat)
def AY (o:ZQ)(s:Zb):Option Zb :=
 match Z8 G (Yp call) o { s with hp:=s.hp.take base } with
 | some s'=>some { s' with hp:=s.hp }
 | none=>none
def ZoP:Option Zm→Bool
 | some .dead=>true
 | _=>false
def XV (r:Nat)(o:ZQ)(s:Zb):Option Zb :=
 if ZoP s.hp[base + r]? = true∧s.bs≤base then
  match o.op with
  | .mk t cells=>some (({ s with hp:=s.hp.set (base + r) (.cells cells t) }:Zb).put o.dst (.ptr (base + r) 0))
  | .box t n x=>match opnd G s.sl x with
   | some v=>if v.cells.length=n∧v.laid=true then some (({ s with hp:=s.hp.set (base + r) (.cells v.cells t) }:Zb).put o.dst (.ptr (base + r) 0)) else none
   | none=>none
  | _=>none
 else none
def IK (r:Nat)(o:ZQ)(s:Zb):Option Zb :=
 match setSlot o with
 | some t=>match s.sl[t]? with
  | some (.ptr g 0)=>if g=base + r∧s.bs≤base then Z8 G (Yp call) o s else none
  | _=>none
 | none=>none
def KC (o:ZQ)(s:Zb):Option Zb :=
 match Zd1 al o with
 | .pre=>AY G call base o s
 | .at r=>match Jh o with
  | true=>XV G base r o s
  | false=>IK G call base r o s
 | .any=>Z8 G (Yp call) o s
def G7:List ZQ→Zb→Option Zb
 | [],s=>some s
 | o :: l,s=>match KC G call base al o s with
  | some s'=>G7 l s'
  | none=>none
variable {G call base al}
structure Zy6 (G:Nat→Option (List AV))(call:FuncId→List AV→List Zm→Option (AV×List Zm×Eff))(base:Nat)(al:List Nat)(o:ZQ)(s s':Zb)(f:List AV→List AV):Prop where
 loc:Ap (Xt o) f
 sl:s'.sl=f s.sl
 bs:s'.bs=s.bs
 ef:s'.ef=s.ef
 pre:Zd1 al o=.pre→s'.hp=s.hp∧∀ t:Zb,Agree (Qq o) s.sl t.sl→t.hp.take base=s.hp.take base→KC G call base al o t=some ⟨f t.sl,t.hp,t.ef,t.bs⟩
 at_:∀ r,Zd1 al o=.at r→∃ x,s'.hp=s.hp.set (base + r) x∧∀ t:Zb,Agree (Qq o) s.sl t.sl→t.hp[base + r]? = s.hp[base + r]?→t.bs=s.bs→KC G call base al o t=some ⟨f t.sl,t.hp.set (base + r) x,t.ef,t.bs⟩
theorem Fb {o:ZQ}(h:Zf9 o=true):∃ k,hkind o.op=some k∧(k=.free∨k=.look∨k=.read):=by
 unfold Zf9 at h
 split at h <;> first | (cases h; done) | skip
 ·exact ⟨_,by assumption,.inl rfl⟩
 ·exact ⟨_,by assumption,.inr (.inl rfl)⟩
 ·exact ⟨_,by assumption,.inr (.inr rfl)⟩
theorem Zgm {o:ZQ}(h:Zd1 al o=.pre):Zf9 o=true:=by
 unfold Zd1 at h
 split at h
 ·split at h
  ·split at h <;> cases h
  ·cases h
 ·split at h
  ·split at h <;> cases h
  ·split at h
   ·assumption
   ·cases h
theorem Zvl {o:ZQ}{r:Nat}(h:Zd1 al o=.at r):(Jh o=true∧∃ d,o.dst=some d∧idx d al=some r)∨(Jh o=false∧∃ t,setSlot o=some t∧idx t al=some r):=by
 unfold Zd1 at h
 split at h
 ·rename_i h1
  split at h
  ·split at h <;> cases h
   exact .inl ⟨h1,_,by assumption,by assumption⟩
  ·cases h
 ·rename_i h1
  split at h
  ·split at h <;> cases h
   exact .inr ⟨h1,_,by assumption,by assumption⟩
  ·split at h <;> cases h
theorem Zmb {o:ZQ}{s s':Zb}(hc:Zd1 al o≠.any)(h:KC G call base al o s=some s'):∃ f,Zy6 G call base al o s s' f:=by
 cases hr:Zd1 al o with
 | any=>exact absurd hr hc
 | pre =>
  obtain ⟨k,hk,hk'⟩:=Fb (Zgm hr)
  have hev:∀ t,KC G call base al o t=AY G call base o t:=fun t=>by unfold KC; rw [hr]
  rw [hev] at h
  unfold AY at h
  split at h <;> first | (cases h; done) | skip
  rename_i s1 h1
  obtain rfl:=Option.some.inj h
  obtain ⟨f,S⟩:=Zdc Rk hk h1
  have k1:=S.still (by rcases hk' with rfl | rfl | rfl <;> trivial)
  have k2:=S.read (by rcases hk' with rfl | rfl | rfl <;> trivial)
  refine ⟨f,S.loc,S.sl,S.bs,k1.2,fun _=>⟨rfl,fun t ht he=>?_⟩,fun r e=>by rw [hr] at e; cases e⟩
  rw [hev]
  unfold AY
  rw [k2 { t with hp:=t.hp.take base } ht he]
 | «at» r =>
  have hev:∀ t,KC G call base al o t=(match Jh o with | true=>XV G base r o t | false=>IK G call base r o t):=fun t=>by unfold KC; rw [hr]
  rw [hev] at h
  cases hal:Jh o with
  | true =>
   rw [hal] at h
   replace h:XV G base r o s=some s':=h
   have hg:o.guard=none:=by
    unfold Jh at hal
    split at hal <;> first | (cases hal; done) | assumption
   unfold XV at h
   split at h <;> first | (cases h; done) | skip
   rename_i hd
   split at h <;> first | (cases h; done) | skip
   ·rename_i t cells hop
    obtain rfl:=Option.some.inj h
    refine ⟨Zc8 o.dst (.ptr (base + r) 0),⟨?_,by rw [Y5],by rw [Y5],by rw [Y5],fun e=>(by rw [hr] at e; cases e),fun q e=>?_⟩⟩
    ·have:=(Ap.id (JL o.op)).comp (BU o.dst (.ptr (base + r) 0))
     exact this
    ·rw [hr] at e
     cases e
     refine ⟨.cells cells t,by rw [Y5],fun t' ht he hb=>?_⟩
     rw [hev,hal]
     show XV G base r o t'=_
     unfold XV
     rw [he,hb,if_pos hd,hop]
     simp only [Y5,hb]
   ·rename_i t n x hop
    split at h <;> first | (cases h; done) | skip
    rename_i v hv
    split at h <;> first | (cases h; done) | skip
    rename_i hn
    obtain rfl:=Option.some.inj h
    refine ⟨Zc8 o.dst (.ptr (base + r) 0),⟨?_,by rw [Y5],by rw [Y5],by rw [Y5],fun e=>(by rw [hr] at e; cases e),fun q e=>?_⟩⟩
    ·have:=(Ap.id (JL o.op)).comp (BU o.dst (.ptr (base + r) 0))
     exact this
    ·rw [hr] at e
     cases e
     refine ⟨.cells v.cells t,by rw [Y5],fun t' ht he hb=>?_⟩
     have hx:opnd G t'.sl x=some v:=by
      rw [← hv]
      refine (Z7 (G := G) (x := x) ?_).symm
      exact fun i hi=>ht i (List.mem_append_right _ (by rw [hop]; exact hi))
     rw [hev,hal]
     show XV G base r o t'=_
     unfold XV
     rw [he,hb,if_pos hd,hop]
     simp only [hx,Y5,hb]
     rw [if_pos hn]
  | false =>
   rw [hal] at h
   replace h:IK G call base r o s=some s':=h
   have hev':∀ t,KC G call base al o t=IK G call base r o t:=fun t=>by rw [hev,hal]
   unfold IK at h
   split at h <;> first | (cases h; done) | skip
   rename_i q hq
   split at h <;> first | (cases h; done) | skip
   rename_i g hs
   split at h <;> first | (cases h; done) | skip
   rename_i hg
   obtain ⟨rfl,hbs⟩:=hg
   have hgd:o.guard=none:=by
    unfold setSlot at hq
    split at hq <;> first | (cases hq; done) | assumption
   have hw:∀ t,Yl t o.guard=some true:=fun t=>by rw [hgd]; rfl
   simp only [Z8,hw] at h
   split at h <;> first | (cases h; done) | skip
   rename_i v s1 he
   obtain rfl:=Option.some.inj h
   have hpt:∀ t:Zb,t.sl[q]? = s.sl[q]?→opnd G t.sl (.tmp q)=some (.ptr (base + r) 0):=fun t e=>by simp only [opnd,e,hs]; rfl
   have hnote:∀ t:Zb,t.bs=s.bs→t.note (base + r) 0=t.ef:=fun t e=>by
    unfold Zb.note
    rw [if_neg (by omega)]
   unfold setSlot at hq
   split at hq <;> first | (cases hq; done) | skip
   ·rename_i n q' x hop _
    obtain rfl:=Option.some.inj hq
    rw [hop] at he
    simp only [Ze,hpt s rfl] at he
    split at he <;> first | (cases he; done) | skip
    rename_i g0 o0 u h1 h2
    cases h1
    split at he <;> first | (cases he; done) | skip
    rename_i cs ty hcs
    split at he <;> first | (cases he; done) | skip
    rename_i hn
    cases he
    refine ⟨Zc8 o.dst .undef,⟨?_,by rw [Y5],by rw [Y5],by rw [Y5]; exact hnote s rfl,fun e=>(by rw [hr] at e; cases e),fun q2 e=>?_⟩⟩
    ·have:=(Ap.id (JL o.op)).comp (BU o.dst .undef)
     exact this
    ·rw [hr] at e
     cases e
     refine ⟨.cells (splice cs 0 u.cells) ty,by rw [Y5],fun t' ht he hb=>?_⟩
     have a0:Agree (oR (.tmp q') ++ oR x) s.sl t'.sl:=fun i hi=>ht i (List.mem_append_right _ (by rw [hop]; exact hi))
     have e1:=a0.left q' (.head _)
     rw [hev']
     unfold IK setSlot
     rw [hop,hgd]
     simp only
     rw [← e1,hs]
     simp only
     rw [if_pos ⟨trivial,by omega⟩]
     simp only [Z8,hw]
     rw [hop]
     simp only [Ze,hpt t' e1.symm,← Z7 (G := G) (x := x) a0.right,h2,he,hcs]
     rw [if_pos hn]
     simp only [Y5,hnote t' hb]
   ·rename_i q' x hop _
    obtain rfl:=Option.some.inj hq
    rw [hop] at he
    simp only [Ze,hpt s rfl] at he
    split at he <;> first | (cases he; done) | skip
    rename_i g0 o0 u h1 h2
    cases h1
    split at he <;> first | (cases he; done) | skip
    rename_i cs ty hcs
    split at he <;> first | (cases he; done) | skip
    rename_i hn
    cases he
    have hto:JL o.op=[x]:=by rw [hop]; rfl
    refine ⟨fun l=>Zc8 o.dst .undef (l.modify x AV.ro),⟨?_,by rw [Y5]; rfl,by rw [Y5]; rfl,by rw [Y5]; exact hnote s rfl,fun e=>(by rw [hr] at e; cases e),fun q2 e=>?_⟩⟩
    ·have:=(Ap.mod x).comp (BU o.dst .undef)
     unfold Xt
     rw [hto]
     exact this
    ·rw [hr] at e
     cases e
     refine ⟨.cells (cs.set 0 u) ty,by rw [Y5],fun t' ht he hb=>?_⟩
     have a0:Agree (x :: oR (.tmp q')) s.sl t'.sl:=fun i hi=>ht i (List.mem_append_right _ (by rw [hop]; exact hi))
     have e1:=a0 q' (.tail _ (.head _))
     have e2:=a0 x (.head _)
     rw [hev']
     unfold IK setSlot
     rw [hop,hgd]
     simp only
     rw [← e1,hs]
     simp only
     rw [if_pos ⟨trivial,by omega⟩]
     simp only [Z8,hw]
     rw [hop]
     simp only [Ze,hpt t' e1.symm,← e2,h2,he,hcs]
     rw [if_pos hn]
     simp only [Y5,hnote t' hb]
     rfl
theorem ZzM {o1 o2:ZQ}{s s1 s2:Zb}(hc:Zm4 al o1 o2=true)(h1:KC G call base al o1 s=some s1)(h2:KC G call base al o2 s1=some s2) :
  ∃ u,KC G call base al o2 s=some u∧KC G call base al o1 u=some s2:=by
 simp only [Zm4,ZeX,Bool.and_eq_true] at hc
 obtain ⟨hk,⟨ha,hb⟩,hd⟩:=hc
 have n1:Zd1 al o1≠.any:=fun e=>by rw [e] at hk; cases hk
 have n2:Zd1 al o2≠.any:=fun e=>by rw [e] at hk; cases h:Zd1 al o1 <;> rw [h] at hk <;> cases hk
 obtain ⟨f1,S1⟩:=Zmb n1 h1
 obtain ⟨f2,S2⟩:=Zmb n2 h2
 have A2:Agree (Qq o2) s1.sl s.sl:=by rw [S1.sl]; exact (Agree.of_loc S1.loc ha s.sl).symm
 have A1:∀ u:Zb,u.sl=f2 s.sl→Agree (Qq o1) s.sl u.sl:=fun u hu=>by rw [hu]; exact Agree.of_loc S2.loc hd s.sl
 have fin:∀ (u:Zb) (hp:List Zm),u.sl=f2 s.sl→u.bs=s.bs→u.ef=s.ef→hp=s2.hp→KC G call base al o1 u=some ⟨f1 u.sl,hp,u.ef,u.bs⟩→KC G call base al o1 u=some s2:=fun u hp e1 e2 e3 e4 h=>by
  rw [h]
  have q1:f1 u.sl=s2.sl:=by rw [e1,S2.sl,S1.sl]; exact S1.loc.swap S2.loc hb s.sl
  have q2:u.bs=s2.bs:=by rw [e2,S2.bs,S1.bs]
  have q3:u.ef=s2.ef:=by rw [e3,S2.ef,S1.ef]
  rw [q1,q2,q3,e4]
 have tk:∀ (h:List Zm) (r:Nat) (x:Zm),(h.set (base + r) x).take base=h.take base:=fun h r x=>by
  rw [List.take_set_of_le (by omega)]
 cases r1:Zd1 al o1 with
 | any=>exact absurd r1 n1
 | pre =>
  obtain ⟨p1,p2⟩:=S1.pre r1
  cases r2:Zd1 al o2 with
  | any=>exact absurd r2 n2
  | pre =>
   obtain ⟨p3,p4⟩:=S2.pre r2
   exact ⟨_,p4 s A2 (by rw [p1]),fin _ _ rfl rfl rfl (by rw [p3,p1]) (p2 _ (A1 _ rfl) rfl)⟩
  | «at» r =>
   obtain ⟨x,p3,p4⟩:=S2.at_ r r2
   exact ⟨_,p4 s A2 (by rw [p1]) S1.bs.symm,fin _ _ rfl rfl rfl (by rw [p3,p1]) (p2 _ (A1 _ rfl) (tk _ _ _))⟩
 | «at» r =>
  obtain ⟨x,p1,p2⟩:=S1.at_ r r1
  cases r2:Zd1 al o2 with
  | any=>exact absurd r2 n2
  | pre =>
   obtain ⟨p3,p4⟩:=S2.pre r2
   exact ⟨_,p4 s A2 (by rw [p1,tk]),fin _ _ rfl rfl rfl (by rw [p3,p1]) (p2 _ (A1 _ rfl) rfl rfl)⟩
  | «at» q =>
   rw [r1,r2] at hk
   have hne:r≠q:=by simpa using hk
   obtain ⟨y,p3,p4⟩:=S2.at_ q r2
   have o1':∀ (h:List Zm) (z:Zm),(h.set (base + r) z)[base + q]? = h[base + q]?:=fun h z=>List.getElem?_set_ne (by omega)
   have o2':∀ (h:List Zm) (z:Zm),(h.set (base + q) z)[base + r]? = h[base + r]?:=fun h z=>List.getElem?_set_ne (by omega)
   exact ⟨_,p4 s A2 (by rw [p1,o1']) S1.bs.symm,fin _ _ rfl rfl rfl (by rw [p3,p1]; exact List.set_comm _ _ (by omega)) (p2 _ (A1 _ rfl) (o2' _ _) rfl)⟩
theorem ZnV {o:ZQ}{l2:List ZQ}{sF:Zb}:∀ {l1:List ZQ} {s:Zb},(∀ x ∈ l1,Zm4 al x o=true)→G7 G call base al (l1 ++ o :: l2) s=some sF →
  ∃ u,KC G call base al o s=some u∧G7 G call base al (l1 ++ l2) u=some sF
 | [],s,_,h=>by
  simp only [List.nil_append,G7] at h
  split at h <;> first | (cases h; done) | skip
  rename_i u hu
  exact ⟨u,hu,h⟩
 | x :: l1,s,hx,h=>by
  simp only [List.cons_append,G7] at h
  split at h <;> first | (cases h; done) | skip
  rename_i s1 h1
  obtain ⟨u1,h2,h3⟩:=ZnV (fun y hy=>hx y (List.mem_cons_of_mem _ hy)) h
  obtain ⟨u,h4,h5⟩:=ZzM (hx x (List.mem_cons_self ..)) h1 h2
  refine ⟨u,h4,?_⟩
  simp only [List.cons_append,G7,h5]
  exact h3
end
section
variable {G:Nat→Option (List AV)}{call:FuncId→List AV→List Zm→Option (AV×List Zm×Eff)}{base:Nat}{al:List Nat}
theorem Zf4:∀ {l:List Nat} {k t:Nat},nodupB l=true→l[k]? = some t→idx t l=some k
 | [],k,t,_,h=>by simp at h
 | u :: l,k,t,hn,h=>by
  simp only [nodupB,Bool.and_eq_true,Bool.not_eq_true'] at hn
  unfold idx
  cases k with
  | zero=>simp only [List.getElem?_cons_zero,Option.some.injEq] at h; rw [if_pos h]
  | succ k =>
   simp only [List.getElem?_cons_succ] at h
   have:u≠t:=fun e=>by
    subst e
    have:=List.mem_of_getElem? h
    simp [this] at hn
   rw [if_neg this,Zf4 hn.2 h]
   rfl
theorem ZoD:∀ {l:List Nat} {k t:Nat},idx t l=some k→l[k]? = some t
 | [],k,t,h=>by cases h
 | u :: l,k,t,h=>by
  unfold idx at h
  split at h
  ·rename_i e
   cases h
   simp [e]
  ·obtain ⟨q,hq,rfl⟩:=Option.map_eq_some_iff.1 h
   simpa using ZoD hq
def Jg (n:Nat):List Zm:=List.replicate n .dead
theorem ZnL {l m:List Nat}(h:apartB l m=true){t:Nat}(ht:t ∈ m):t ∉ l:=fun hl=>by
 have:=List.all_eq_true.1 h t hl
 simp [ht] at this
theorem ZuK {call:FuncId→List AV→List Zm→Option (AV×List Zm×Eff)}(hq:∀ f args hp v hp' e,call f args hp=some (v,hp',e)→hp'=hp∧e=none){o:ZQ}{k:HK}{s s':Zb}(hk:hkind o.op=some k)(h:Z8 G call o s=some s'):s'.bs=s.bs∧∀ t,t ∉ Xt o→s'.sl[t]? = s.sl[t]?:=by
 obtain ⟨f,S⟩:=Zdc hq hk h
 exact ⟨S.bs,fun t ht=>by rw [S.sl,S.loc.out _ _ ht]⟩
theorem Zvs {call:FuncId→List AV→List Zm→Option (AV×List Zm×Eff)}{o:ZQ}{s s':Zb}(hk:hkind o.op=some .set)(h:Z8 G call o s=some s'):s'.hp.length=s.hp.length:=by
 simp only [Z8] at h
 split at h <;> first | (cases h; done) | skip
 ·split at h <;> first | (cases h; done) | skip
  rename_i v s1 he
  obtain rfl:=Option.some.inj h
  rw [Y5]
  show s1.hp.length=_
  cases hop:o.op <;> rw [hop] at hk he <;> first | (simp only [hkind,Option.some.injEq,reduceCtorEq] at hk; done) | skip
  case lit e k parts=>cases parts <;> simp [hkind] at hk
  case call f args=>simp only [hkind] at hk; split at hk <;> simp at hk
  all_goals
   simp only [Ze] at he
   repeat' split at he
   all_goals first
    | (cases he; done)
    | (cases he; simp [Zb.let_])
 ·obtain rfl:=Option.some.inj h
  rw [Y5]
theorem sim (hnd:nodupB al=true):∀ {l:List ZQ} {k:Nat} {s sF:Zb},ZeG al k l=true→k≤al.length→ZJ G (Yp call) l s=some sF→s.bs≤base→s.hp.length=base + k→(∀ (r t:Nat) (v:AV),r < k→al[r]? = some t→s.sl[t]? = some v→v=.ptr (base + r) 0) →
  G7 G call base al l { s with hp:=s.hp ++ Jg (al.length - k) } = some sF
 | [],k,s,sF,ho,hk,h,hbs,hl,hs=>by
  simp only [ZeG,beq_iff_eq] at ho
  obtain rfl:=Option.some.inj h
  subst ho
  simp only [G7,Nat.sub_self,Jg,List.replicate_zero,List.append_nil]
 | o :: l,k,s,sF,ho,hk,h,hbs,hl,hs=>by
  simp only [ZJ] at h
  split at h <;> first | (cases h; done) | skip
  rename_i s1 h1
  simp only [ZeG] at ho
  cases hal:Jh o with
  | true =>
   rw [hal] at ho
   simp only [Bool.and_eq_true,beq_iff_eq] at ho
   obtain ⟨hd,ho⟩:=ho
   have hg:o.guard=none:=by
    unfold Jh at hal
    split at hal <;> first | (cases hal; done) | assumption
   obtain ⟨t,ht⟩:∃ t,o.dst=some t:=by
    unfold Jh at hal
    split at hal <;> first | (cases hal; done) | exact ⟨_,by assumption⟩
   rw [ht] at hd
   have hkl:k < al.length:=(List.getElem?_eq_some_iff.1 hd.symm).1
   have hcls:Zd1 al o=.at k:=by
    unfold Zd1
    rw [hal,ht]
    simp only
    rw [Zf4 hnd hd.symm]
   have hdead:({ s with hp:=s.hp ++ Jg (al.length - k) }:Zb).hp[base + k]? = some .dead:=by
    show (s.hp ++ Jg (al.length - k))[base + k]? = _
    rw [List.getElem?_append_right (by omega),hl,Nat.sub_self]
    unfold Jg
    rw [List.getElem?_replicate,if_pos (by omega)]
   have hset:∀ x:Zm,(s.hp ++ Jg (al.length - k)).set (base + k) x=(s.hp ++ [x]) ++ Jg (al.length - (k + 1)):=fun x=>by
    rw [List.set_append_right _ _ (by omega),hl,Nat.sub_self]
    obtain ⟨m,hm⟩:∃ m,al.length - k=m + 1:=⟨al.length - k - 1,by omega⟩
    have:al.length - (k + 1)=m:=by omega
    rw [hm,this]
    simp [Jg,List.replicate_succ]
   have key:∀ x:Zm,s1=({ s with hp:=s.hp ++ [x] }:Zb).put o.dst (.ptr s.hp.length 0)→KC G call base al o { s with hp:=s.hp ++ Jg (al.length - k) } = some (({ s with hp:=(s.hp ++ Jg (al.length - k)).set (base + k) x }:Zb).put o.dst (.ptr (base + k) 0)) →
     G7 G call base al (o :: l) { s with hp:=s.hp ++ Jg (al.length - k) } = some sF:=fun x e1 e2=>by
    simp only [G7]
    rw [e2]
    have:=sim hnd (l := l) (k := k + 1) (s := s1) ho hkl h (by rw [e1,ht]; exact hbs) (by rw [e1,ht]; simp [Zb.put,hl]; omega) (fun r q v hr hq hv=>by
     rw [e1,ht] at hv
     simp only [Zb.put] at hv
     by_cases e:r=k
     ·subst e
      rw [← hd] at hq
      cases hq
      rw [List.getElem?_set] at hv
      split at hv
      ·split at hv
       ·rw [← Option.some.inj hv,hl]
       ·cases hv
      ·rename_i ne; exact absurd rfl ne
     ·refine hs r q v (by omega) hq ?_
      rw [List.getElem?_set_ne] at hv
      ·exact hv
      ·intro e'
       subst e'
       have i1:=Zf4 hnd hq
       rw [Zf4 hnd hd.symm] at i1
       cases i1
       exact e rfl)
    rw [← this,e1,ht]
    simp only [Zb.put,hset,hl]
   simp only [Z8,hg,Yl] at h1
   split at h1 <;> first | (cases h1; done) | skip
   rename_i v s2 hev
   obtain rfl:=Option.some.inj h1
   have hR:KC G call base al o { s with hp:=s.hp ++ Jg (al.length - k) } = XV G base k o { s with hp:=s.hp ++ Jg (al.length - k) }:=by
    unfold KC
    rw [hcls,hal]
   have hif:ZoP ({ s with hp:=s.hp ++ Jg (al.length - k) }:Zb).hp[base + k]? = true∧({ s with hp:=s.hp ++ Jg (al.length - k) }:Zb).bs≤base:=⟨by rw [hdead]; rfl,hbs⟩
   cases hop:o.op with
   | mk t' cells =>
    rw [hop] at hev
    cases hev
    refine key _ rfl ?_
    rw [hR]
    unfold XV
    rw [if_pos hif,hop]
   | box t' n x =>
    rw [hop] at hev
    simp only [Ze] at hev
    split at hev <;> first | (cases hev; done) | skip
    rename_i u hu
    split at hev <;> first | (cases hev; done) | skip
    rename_i hn
    cases hev
    refine key _ rfl ?_
    rw [hR]
    unfold XV
    rw [if_pos hif,hop]
    simp only [hu]
    rw [if_pos hn]
   | _=>unfold Jh at hal; rw [hop] at hal; simp at hal
  | false =>
   rw [hal] at ho
   simp only [Bool.and_eq_true,Bool.or_eq_true] at ho
   obtain ⟨⟨ho1,ho2⟩,ho3⟩:=ho
   have go:∀ q:HK,hkind o.op=some q→s1.hp.length=s.hp.length→KC G call base al o { s with hp:=s.hp ++ Jg (al.length - k) } = some { s1 with hp:=s1.hp ++ Jg (al.length - k) }→G7 G call base al (o :: l) { s with hp:=s.hp ++ Jg (al.length - k) } = some sF:=fun q hq hlen e=>by
    obtain ⟨b1,b2⟩:=ZuK Rk hq h1
    simp only [G7]
    rw [e]
    refine sim hnd ho3 hk h (by rw [b1]; exact hbs) (by rw [hlen]; exact hl) fun r t v hr ht hv=>hs r t v hr ht ?_
    rw [← b2 t (ZnL ho2 (List.mem_of_getElem? ht))]
    exact hv
   have pre:∀ q:HK,hkind o.op=some q→(q=.free∨q=.look∨q=.read)→setSlot o=none→(q=.free∨k=0)→G7 G call base al (o :: l) { s with hp:=s.hp ++ Jg (al.length - k) } = some sF:=fun q hq hq' hns hk0=>by
    obtain ⟨f,S⟩:=Zdc Rk hq h1
    have st:=S.still (by rcases hq' with rfl | rfl | rfl <;> trivial)
    have hcls:Zd1 al o=.pre:=by
     unfold Zd1
     rw [hal]
     simp only
     rw [hns]
     have:Zf9 o=true:=by unfold Zf9; rw [hq]; rcases hq' with rfl | rfl | rfl <;> rfl
     simp [this]
    refine go q hq (by rw [st.1]) ?_
    unfold KC
    rw [hcls]
    simp only
    unfold AY
    have hrun:Z8 G (Yp call) o { s with hp:=(s.hp ++ Jg (al.length - k)).take base } = some ⟨f s.sl,(s.hp ++ Jg (al.length - k)).take base,s.ef,s.bs⟩:=by
     rcases hk0 with rfl | rfl
     ·exact S.free rfl { s with hp:=(s.hp ++ Jg (al.length - k)).take base } (fun _ _=>rfl)
     ·have:(s.hp ++ Jg (al.length - 0)).take base=s.hp:=by
       rw [List.take_append_of_le_length (by omega),List.take_of_length_le (by omega)]
      rw [this]
      exact S.read (by rcases hq' with rfl | rfl | rfl <;> trivial) s (fun _ _=>rfl) rfl
    have e0:Z8 G (Yp call) o { ({ s with hp:=s.hp ++ Jg (al.length - k) }:Zb) with hp:=({ s with hp:=s.hp ++ Jg (al.length - k) }:Zb).hp.take base } = some ⟨f s.sl,(s.hp ++ Jg (al.length - k)).take base,s.ef,s.bs⟩:=hrun
    rw [e0]
    simp only
    rw [st.1,← S.sl,← st.2,← S.bs]
   rcases ho1 with (ho1 | ho1) | ho1
   ·have hq:hkind o.op=some .free:=by
     unfold ZsV at ho1
     split at ho1
     ·assumption
     ·cases ho1
    refine pre .free hq (.inl rfl) ?_ (.inl rfl)
    unfold setSlot
    split <;> first | rfl | (rename_i hop _; rw [hop] at hq; cases hq)
   ·simp only [beq_iff_eq] at ho1
    obtain ⟨q,hq,hq'⟩:=Fb ho1.1
    refine pre q hq hq' ?_ (.inr ho1.2)
    unfold setSlot
    split <;> first | rfl | (rename_i hop _; rw [hop] at hq; cases hq; rcases hq' with h | h | h <;> cases h)
   ·simp only [beq_iff_eq] at ho1
    obtain ⟨ho1,rfl⟩:=ho1
    have hq:hkind o.op=some .set:=by
     unfold ZwD at ho1
     split at ho1
     ·assumption
     ·cases ho1
    have hnp:Zf9 o=false:=by unfold Zf9; rw [hq]
    refine go .set hq (Zvs hq h1) ?_
    have e0:∀ x:Zb,({ x with hp:=x.hp ++ Jg (al.length - al.length) }:Zb)=x:=fun x=>by simp [Jg]
    rw [e0 s,e0 s1]
    unfold KC
    cases hc:Zd1 al o with
    | any=>exact h1
    | pre=>have:=Zgm hc; rw [hnp] at this; cases this
    | «at» r =>
     simp only
     rw [hal]
     rcases Zvl hc with ⟨e,_⟩ | ⟨_,t,ht,hr⟩
     ·rw [hal] at e; cases e
     ·have hget:=ZoD hr
      have hrl:r < al.length:=(List.getElem?_eq_some_iff.1 hget).1
      obtain ⟨v,hv⟩:∃ v,s.sl[t]? = some v:=by
       cases hv:s.sl[t]? with
       | some v=>exact ⟨v,rfl⟩
       | none =>
        exfalso
        have hnone:opnd G s.sl (.tmp t)=none:=by simp only [opnd,hv]; rfl
        simp only [Z8] at h1
        unfold setSlot at ht
        split at ht <;> first | (cases ht; done) | skip
        all_goals
         rename_i hop hgd
         obtain rfl:=Option.some.inj ht
         rw [hgd] at h1
         simp only [Yl] at h1
         rw [hop] at h1
         simp only [Ze,hnone] at h1
         cases h1
      have hp:=hs r t v hrl hget hv
      subst hp
      show IK G call base r o s=some s1
      unfold IK
      rw [ht]
      simp only
      rw [hv]
      simp only
      rw [if_pos ⟨trivial,hbs⟩]
      exact h1
end
section
variable {P:Program}{G:Nat→Option (List AV)}{call:FuncId→List AV→List Zm→Option (AV×List Zm×Eff)}{E:Entry}{s s':Zb}{Γ:ZF}{a:Act}{w:World}{hand:Nat→Bool}{draw:Bool}{o:Oper}{base:Nat}{al:List Nat}
theorem Zh6 {ao:AOp}(h:(cOp P hand draw o).getD .bad=ao)(hb:ao≠.bad):cOp P hand draw o=some ao:=by
 cases hc:cOp P hand draw o with
 | none=>rw [hc] at h; exact absurd h.symm hb
 | some x=>rw [hc] at h; exact congrArg some h
theorem Zwd {t:TypeId}{cells:List AV}(h:cOp P hand draw o=some (.mk t cells)):∃ z,o.op=.alloc t∧ZiJ P t=some z∧z.cells.all AV.one=true∧cells=z.cells:=by
 unfold cOp at h
 repeat' split at h
 all_goals first
  | (cases h; done)
  | (obtain ⟨_,_,e⟩:=Option.map_eq_some_iff.1 h; cases e; done)
  | (cases h; exact ⟨_,by assumption,by assumption,by assumption,rfl⟩)
theorem ZtC {t:TypeId}{n:Nat}{x:Yt}(h:cOp P hand draw o=some (.box t n x)):∃ x',o.op=.box t x'∧Yg P t x'=some x:=by
 unfold cOp at h
 repeat' split at h
 all_goals first
  | (cases h; done)
  | (obtain ⟨_,h1,e⟩:=Option.map_eq_some_iff.1 h; cases e; exact ⟨_,by assumption,h1⟩)
  | (obtain ⟨_,h1,e⟩:=Option.map_eq_some_iff.1 h; cases e; done)
theorem Zlo (hI:Inv E s Γ a w){e:TypeId}{v:AV}{cv:Value}{n:Nat}(hd:s.hp[n]? = some .dead)(hb:s.bs≤n)(hr:Rep Γ w v cv)(hl:v.laid=true)(hn:∀ k r,v=.own k r→r=[]∧cv=.slice none 0 0) :
  Inv E { s with hp:=s.hp.set n (.cells v.cells e) } (Zd2 Γ w.heap.size (.own n)) a (w.alloc (.cells cv.cells e))∧Rep (Zd2 Γ w.heap.size (.own n)) (w.alloc (.cells cv.cells e)) (.ptr n 0) (.pointer (some ⟨w.heap.size,0,none⟩)):=by
 obtain ⟨a1,a2⟩:=hr.cellsRep hl hn
 have st:=VS hI.rw.fresh (.cells cv.cells e) (.own n)
 refine ⟨hI.fill _ _ hd hb ⟨w.heap.size,cv.cells,Qv _ _ _,heap_alloc_new w _,a1,fun i c hc=>?_⟩,.ptr _ _ _ (Qv _ _ _)⟩
 obtain ⟨b1,b2,b3⟩:=a2 i c hc
 exact ⟨b1,b2.mono st.fix st.own,.nil b3⟩
theorem Zus (hG:GOk G E.W0)(hI:Inv E s Γ a w){g:Option (Nat×Bool)}{r:Nat}{u:Zb}(he:XV G base r ⟨o.dst,(cOp P hand draw o).getD .bad,g⟩ s=some u){K:Act→World→Prop}{Q:Exit→Act→World→Prop}(hK:∀ Γ a w,Inv E u Γ a w→K a w) :
  o.wp P a w K Q:=by
 unfold XV at he
 split at he <;> first | (cases he; done) | skip
 rename_i hd
 obtain ⟨hd,hbs⟩:=hd
 have hd':s.hp[base + r]? = some .dead:=by
  unfold ZoP at hd
  split at hd
  ·assumption
  ·cases hd
 split at he <;> first | (cases he; done) | skip
 ·rename_i t cells hop
  obtain rfl:=Option.some.inj he
  obtain ⟨z,h1,h2,h3,rfl⟩:=Zwd (Zh6 hop (by nofun))
  obtain ⟨i,zv,hi,hzv,hrep⟩:=Zdw h2
  obtain ⟨k1,k2⟩:=hrep Γ w
  obtain ⟨i1,i2⟩:=Zlo hI (e := t) hd' (by omega) k1 (Nc h3) k2
  have hrun:(execOp a.eval o).run P w=.ok (.value (.pointer (some ⟨w.heap.size,0,none⟩))) (w.alloc (.cells zv.cells t)):=by
   simp only [execOp,h1]
   simp [Instr.alloc,zeroValue,typeInfo,hi,hzv,newVar,newRow]
  unfold Oper.wp
  rw [hrun]
  obtain ⟨Γ2,j2⟩:=i1.put o.dst i2 (.of_ne (by simp))
  exact hK _ _ _ j2
 ·rename_i t n x hop
  split at he <;> first | (cases he; done) | skip
  rename_i v hv
  split at he <;> first | (cases he; done) | skip
  rename_i hl
  obtain rfl:=Option.some.inj he
  obtain ⟨x',h1,h2⟩:=ZtC (Zh6 hop (by nofun))
  obtain ⟨k1,k2⟩:=Z4 hG hI h2 hv
  obtain ⟨i1,i2⟩:=Zlo hI (e := t) hd' (by omega) k1 hl.2 k2
  have hrun:(execOp a.eval o).run P w=.ok (.value (.pointer (some ⟨w.heap.size,0,none⟩))) (w.alloc (.cells (a.eval x').cells t)):=by
   simp only [execOp,h1]
   simp [Instr.box,newVar,newRow]
  unfold Oper.wp
  rw [hrun]
  obtain ⟨Γ2,j2⟩:=i1.put o.dst i2 (.of_ne (by simp))
  exact hK _ _ _ j2
theorem ZfV (hG:GOk G E.W0)(hS:Y8 P E.W0 call){ops:Array Oper}{g:Option (Nat×Bool)}{u:Zb}{K:Act→World→Prop}{Q:Exit→Act→World→Prop}(h2:Ed ops o.guard=some g)
  (he:Z8 G call ⟨o.dst,(cOp P hand draw o).getD .bad,g⟩ s=some u) (hI:Inv E s Γ a w) (hK:∀ Γ a w,Inv E u Γ a w→K a w) :
  if Region.wanted o (yielded ops a.tmps)=true then o.wp P a w K Q∨(o.asks P a w∧LetsOut Q) else K (a.put o.dst Go.undef) w:=by
 simp only [Z8] at he
 split at he <;> first | (cases he; done) | skip
 ·rename_i hw
  rw [XM hI h2 hw]
  split at he <;> first | (cases he; done) | skip
  rename_i v s2 hev
  obtain rfl:=Option.some.inj he
  simp only [if_true]
  refine .inl (ZrQ hG hS hI (VP hev) hev fun Γ' cv w' i1 r1 o1=>?_)
  obtain ⟨Γ2,i2⟩:=i1.put o.dst r1 o1
  exact hK _ _ _ i2
 ·rename_i hw
  rw [XM hI h2 hw]
  obtain rfl:=Option.some.inj he
  simp only [Bool.false_eq_true,if_false]
  obtain ⟨Γ2,i2⟩:=hI.put o.dst (v := .undef) (cv := Go.undef) .undef (.of_ne (by simp))
  exact hK _ _ _ i2
theorem ZrS (hG:GOk G E.W0)(hS:Y8 P E.W0 (Yp call)){ops:Array Oper}{g:Option (Nat×Bool)}{u:Zb}{K:Act→World→Prop}{Q:Exit→Act→World→Prop}(h2:Ed ops o.guard=some g)
  (he:KC G call base al ⟨o.dst,(cOp P hand draw o).getD .bad,g⟩ s=some u) (hI:Inv E s Γ a w) (hK:∀ Γ a w,Inv E u Γ a w→K a w) :
  if Region.wanted o (yielded ops a.tmps)=true then o.wp P a w K Q∨(o.asks P a w∧LetsOut Q) else K (a.put o.dst Go.undef) w:=by
 unfold KC at he
 split at he
 ·
  rename_i hc
  obtain ⟨k,hk,hk'⟩:=Fb (Zgm hc)
  refine ZfV (hand := hand) (draw := draw) hG hS h2 ?_ hI hK
  unfold AY at he
  split at he <;> first | (cases he; done) | skip
  rename_i s1 h1
  obtain rfl:=Option.some.inj he
  show Z8 G (Yp call) ⟨o.dst,(cOp P hand draw o).getD .bad,g⟩ s=_
  simp only [Z8] at h1 ⊢
  have wg:∀ h,Yl { s with hp:=h } g=Yl s g:=fun h=>by cases g <;> rfl
  rw [wg] at h1
  split at h1 <;> first | (cases h1; done) | skip
  ·rename_i hw
   split at h1 <;> first | (cases h1; done) | skip
   rename_i v s2 hev
   obtain rfl:=Option.some.inj h1
   obtain ⟨e1,e2,e3,e4⟩:=Zxu hk hk' hev (Pfx.take base s.hp)
   have e4':Ze G (Yp call) s ((cOp P hand draw o).getD .bad)=some (v,{ s2 with hp:=s.hp }):=e4
   rw [e4']
   simp only [Y5]
  ·rename_i hw
   obtain rfl:=Option.some.inj h1
   simp only [Y5]
 ·
  split at he
  ·rename_i hal
   have hg:g=none:=by
    unfold Jh at hal
    split at hal <;> first | (cases hal; done) | assumption
   subst hg
   have hw:Region.wanted o (yielded ops a.tmps)=true:=XM hI h2 (b := true) rfl
   rw [hw]
   simp only [if_true]
   exact .inl (Zus hG hI he hK)
  ·unfold IK at he
   split at he <;> first | (cases he; done) | skip
   split at he <;> first | (cases he; done) | skip
   split at he <;> first | (cases he; done) | skip
   exact ZfV hG hS h2 he hI hK
 ·exact ZfV hG hS h2 he hI hK
theorem ZrU (hG:GOk G E.W0)(hS:Y8 P E.W0 (Yp call)){ops:Array Oper}{bops:List ZQ}{Q:Exit→Act→World→Prop}{sF:Zb}(hc:Us P hand draw ops ops.toList=some bops)
  (hord:∀ i,i < ops.size→(match ops[i]? with | some o=>o.after.all fun e=>!Region.binds .any e || decide (e.on < i) | none=>false)=true)
  (hpair:∀ i,i < ops.size→∀ j,j < i→(Za7 ops i j || (match bops[j]?,bops[i]? with | some x,some y=>Zm4 al x y | _,_=>false))=true) (hQ:∀ Γ a w,Inv E sF Γ a w→Q .normal a w) :
  ∀ (fuel:Nat) {listed:Array Bool} {s:Zb} {Γ:ZF} {a:Act} {w:World},listed.size=ops.size→UF ops listed→(Xa ops.size listed).length=fuel→G7 G call base al ((Xa ops.size listed).map fun i=>bops.getD i ⟨none,.bad,none⟩) s=some sF→Inv E s Γ a w→wpAny P .any ops Q fuel listed a w:=by
 obtain ⟨hlen,hget⟩:=JC hc
 intro fuel
 induction fuel with
 | zero =>
  intro listed s Γ a w hsz hcl hl h hI
  have hn:=List.eq_nil_of_length_eq_zero hl
  rw [hn] at h
  obtain rfl:=Option.some.inj (by simpa [G7] using h:some s=some sF)
  refine ⟨List.eq_nil_iff_forall_not_mem.2 fun i hi=>?_,hQ _ _ _ hI⟩
  obtain ⟨h1,o,h2,_⟩:=mem_ready.1 hi
  have:i ∈ Xa ops.size listed:=WL.2 ⟨(Array.getElem?_eq_some_iff.1 h2).1,h1⟩
  rw [hn] at this
  cases this
 | succ fuel ih =>
  intro listed s Γ a w hsz hcl hl h hI
  have hlisted:∀ j,j < ops.size→listed.getD j true≠false→listed.getD j false=true:=fun j hj h=>by
   have hj':j < listed.size:=by omega
   simp [hj'] at h ⊢; exact h
  refine ⟨fun hr=>?_,fun i hi=>?_⟩
  ·obtain ⟨i,r,hir⟩:∃ i r,Xa ops.size listed=i :: r:=by
    cases hx:Xa ops.size listed with
    | nil=>rw [hx] at hl; cases hl
    | cons i r=>exact ⟨i,r,rfl⟩
   have him:=WL.1 (show i ∈ Xa ops.size listed by rw [hir]; exact List.mem_cons_self ..)
   have hoi:ops[i]? = some ops[i]:=Array.getElem?_eq_getElem him.1
   have hready:i ∈ Region.ready .any ops listed:=by
    refine mem_ready.2 ⟨him.2,_,hoi,fun e he hb=>?_⟩
    have:=hord i him.1
    rw [hoi] at this
    have hlt:=Array.all_eq_true'.1 this e he
    rw [hb] at hlt
    simp only [Bool.not_true,Bool.false_or,decide_eq_true_eq] at hlt
    refine hlisted e.on (by omega) fun hun=>?_
    have hm:=WL.2 ⟨show e.on < ops.size by omega,hun⟩
    rw [hir] at hm
    have hs:=VO ops.size listed
    rw [hir] at hs
    rcases List.mem_cons.1 hm with he | hm
    ·omega
    ·have:=(List.pairwise_cons.1 hs).1 _ hm
     omega
   rw [hr] at hready
   cases hready
  ·obtain ⟨hun,o,ho,hdeps⟩:=mem_ready.1 hi
   have hin:=(Array.getElem?_eq_some_iff.1 ho).1
   obtain ⟨l1,l2,hsplit⟩:=List.append_of_mem (WL.2 ⟨hin,hun⟩)
   have hs:=VO ops.size listed
   rw [hsplit] at hs
   obtain ⟨g,hg1,hg2⟩:=hget i o (by simpa using ho)
   have hbi:bops.getD i ⟨none,.bad,none⟩=⟨o.dst,(cOp P hand draw o).getD .bad,g⟩:=by rw [List.getD_eq_getElem?_getD,hg2]; rfl
   have hcomm:∀ x ∈ l1.map (fun i=>bops.getD i ⟨none,.bad,none⟩),Zm4 al x ⟨o.dst,(cOp P hand draw o).getD .bad,g⟩=true:=fun x hx=>by
    obtain ⟨j,hj,rfl⟩:=List.mem_map.1 hx
    have hji:j < i:=(List.pairwise_append.1 hs).2.2 j hj i (List.mem_cons_self ..)
    have hjm:=WL.1 (show j ∈ Xa ops.size listed by rw [hsplit]; exact List.mem_append_left _ hj)
    have:=hpair i hin j hji
    rw [Bool.or_eq_true] at this
    rcases this with h1 | h1
    ·exfalso
     have h2:=hcl.ready ho hdeps (Zbm h1)
     rw [BO hjm.2] at h2
     cases h2
    ·rw [hg2] at h1
     split at h1
     ·rename_i x y hx hy
      cases hy
      rw [List.getD_eq_getElem?_getD,hx]
      exact h1
     ·cases h1
   rw [hsplit,List.map_append,List.map_cons,hbi] at h
   obtain ⟨u,hu1,hu2⟩:=ZnV hcomm h
   rw [← List.map_append,← Ox hsplit (by omega)] at hu2
   have hlen2:(Xa ops.size (listed.setIfInBounds i true)).length=fuel:=by
    rw [Ox hsplit (by omega)]
    rw [hsplit] at hl
    simp at hl ⊢
    omega
   unfold wpOp
   simp only [ho]
   exact ZrS hG hS hg1 hu1 hI fun Γ' a' w' hI'=>ih (by simp [hsz]) (hcl.list ho hdeps) hlen2 hu2 hI'
theorem Inv.keepFree (h:Inv E s Γ a w)(n:Nat):Inv E { s with hp:=s.hp ++ Jg n } Γ a w:=by
 refine ⟨h.defers,h.slots,⟨fun g o hg=>?_,h.rw.inj,h.rw.fresh,fun b g hb=>?_,h.rw.old,h.rw.oldImm,fun g hg b hb=>?_⟩,h.fr,h.base,h.base2,?_,h.back⟩
 ·rw [List.getElem?_append] at hg
  split at hg
  ·exact h.rw.objs g o hg
  ·have:=List.eq_of_mem_replicate (List.mem_of_getElem? hg)
   subst this
   trivial
 ·have:=h.rw.lt b g hb
  simp only [List.length_append]
  omega
 ·have:=h.rw.lt b g hb
  rw [List.getElem?_append_left this] at hg
  exact h.rw.dead g hg b hb
 ·have:=h.le
  simp only [List.length_append]
  omega
theorem ZlC (hG:GOk G E.W0)(hS:Y8 P E.W0 (Yp call)){ops:Array Oper}{bops:List ZQ}{Q:Exit→Act→World→Prop}{sF:Zb}(hc:Us P hand draw ops ops.toList=some bops)(hd:Zfu ops bops=true)(hQ:∀ Γ a w,Inv E sF Γ a w→Q .normal a w)
  (h:ZJ G (Yp call) bops s=some sF) (hI:Inv E s Γ a w):wpAny P .any ops Q ops.size (Array.replicate ops.size false) a w:=by
 simp only [Zfu,Bool.and_eq_true,List.all_eq_true,List.mem_range] at hd
 obtain ⟨⟨⟨⟨hord,_⟩,hok⟩,hnd⟩,hpair⟩:=hd
 have hr:Xa ops.size (Array.replicate ops.size false)=List.range ops.size:=by
  unfold Xa
  refine List.filter_eq_self.2 fun i hi=>?_
  simp only [List.mem_range] at hi
  simp [hi]
 have hmap:(List.range ops.size).map (fun i=>bops.getD i ⟨none,.bad,none⟩)=bops:=by
  have hl:ops.size=bops.length:=by simpa using (JC hc).1
  rw [hl]
  refine List.ext_getElem? fun i=>?_
  rw [List.getElem?_map]
  by_cases hi:i < bops.length
  ·rw [List.getElem?_range hi,Option.map_some,List.getD_eq_getElem?_getD,List.getElem?_eq_getElem hi]; rfl
  ·rw [List.getElem?_eq_none (by simpa using hi),List.getElem?_eq_none (by omega)]; rfl
 have hs:=sim (base := s.hp.length) hnd hok (Nat.zero_le _) h hI.le rfl (fun r t v hr=>absurd hr (Nat.not_lt_zero _))
 exact ZrU hG hS hc hord hpair hQ ops.size (by simp) (.start ops _) (by rw [hr]; simp) (by rw [hr,hmap]; exact hs) (hI.keepFree _)
end
end Go.Proofs.YtgjcjbhhhlelnaaGreatDoor.Abs
end
section
namespace Go.Proofs.YtgjcjbhhhlelnaaGreatDoor.Abs
open Go Go.RowKit
section
variable {P:Program}{G:Nat→Option (List AV)}{call:FuncId→List AV→List Zm→Option (AV×List Zm×Eff)}{E:Entry}{s s':Zb}{Γ:ZF}{a:Act}{w:World}{hand:Nat→Bool}{draw:Bool}
def Ends (E:Entry)(r:Ls×Zb)(e:Exit)(a:Act)(w:World):Prop :=
 (match r.1,e with
  | .normal,.normal=>True
  | .exit i,.exit j=>i=j
  | .ret,.ret=>True
  | _,_=>False)∧∃ Γ,Inv E r.2 Γ a w
theorem Ends.normal {s:Zb}{Γ:ZF}{a:Act}{w:World}(h:Inv E s Γ a w):Ends E (.normal,s) .normal a w:=⟨trivial,Γ,h⟩
theorem ZoS {c:Code}{f:Zb→Option (Ls×Zb)}(ih:∀ {s:Zb} {r:Ls×Zb} {Γ:ZF} {a:Act} {w:World},f s=some r→Inv E s Γ a w→c.wp P (Ends E r) a w) :
  ∀ (n:Nat) {s:Zb} {r:Ls×Zb} {Γ:ZF} {a:Act} {w:World},iter f n s=some r→Inv E s Γ a w→Code.rounds P c (Ends E r) n a w
 | 0,_,_,_,_,_,h,_=>by cases h
 | n + 1,s,r,Γ,a,w,h,hI=>by
  rw [rounds_succ]
  simp only [iter] at h
  split at h
  ·rename_i s1 h1
   refine Go.wp_mono (ih h1 hI) fun e a' w' he=>?_
   obtain ⟨k1,Γ',i1⟩:=he
   cases e <;> first | exact k1.elim | skip
   exact ZoS ih n h i1
  ·rename_i hne
   refine Go.wp_mono (ih h hI) fun e a' w' he=>?_
   cases e <;> first | exact he | skip
   obtain ⟨k1,_⟩:=he
   obtain ⟨x,s1⟩:=r
   cases x <;> first | exact k1.elim | skip
   exact absurd h (hne s1)
theorem ZtL (hm:P.follows .mixedOrders=true)(hG:GOk G E.W0)(hS:Y8 P E.W0 call)(hB:Y8 P E.W0 (Yp call)){takes:FuncId→List Nat}{res:List Nat}(L:Nat):∀ {c:Code} {ac:WP} {s:Zb} {r:Ls×Zb} {Γ:ZF} {a:Act} {w:World},
  Dv P takes res c=some ac→Zz G call L ac s=some r→Inv E s Γ a w→c.wp P (Ends E r) a w:=by
 intro c
 induction c with
 | skip =>
  intro ac s r Γ a w hc h hI
  cases hc; cases h
  exact Go.wp_skip (.normal hI)
 | region id ops draw =>
  intro ac s r Γ a w hc h hI
  cases draw with
  | false =>
   simp only [Dv] at hc
   obtain ⟨aops,h1,rfl⟩:=Option.map_eq_some_iff.1 hc
   simp only [Zz] at h
   obtain ⟨s1,h2,rfl⟩:=Option.map_eq_some_iff.1 h
   refine wp_region ?_
   rw [List.range_eq_range']
   have:=Zp2 hG hS (Q := Ends E (.normal,s1)) 0 (l := ops.toList) (by simp) h1 h2 hI fun Γ a w h=>.normal h
   simpa using this
  | true =>
   simp only [Dv] at hc
   split at hc <;> first | (cases hc; done) | skip
   rename_i aops bops h1 h1'
   split at hc
   ·rename_i hq
    simp only [Bool.and_eq_true] at hq
    cases hc
    generalize Nw ops ops.size=n at *
    simp only [Zz] at h
    have hl:ops.size=bops.length:=by simpa using (JC h1').1
    have hnle:n≤ops.size:=by
     have:=hq.2
     simp only [Zsk,Bool.and_eq_true,decide_eq_true_eq] at this
     exact this.1.1.2
    cases h2:ZJ G (Wj call) (bops.take n) s with
    | none=>rw [h2] at h; simp at h
    | some s1 =>
     rw [h2] at h
     simp only [Option.map_some] at h
     obtain ⟨s2,h3,rfl⟩:=Option.map_eq_some_iff.1 h
     refine wp_region_any hm ?_
     have hb:Behind w { w with drawn:=w.drawn + 1 }:=⟨rfl,rfl,rfl,Nat.le_refl _,fun _ _=>rfl⟩
     have hrep:∀ i,i < ops.size→(Array.replicate ops.size false).getD i true=false:=fun i hi=>by simp [hi]
     have hr:Xa n (Array.replicate ops.size false)=List.range n:=by
      unfold Xa
      refine List.filter_eq_self.2 fun i hi=>?_
      simp only [List.mem_range] at hi
      rw [hrep i (by omega)]; rfl
     have hr2:Oy n ops.size (Array.replicate ops.size false)=(List.range ops.size).drop n:=by
      unfold Oy
      rw [show (List.range ops.size)=List.range n ++ (List.range ops.size).drop n from by
       rw [show List.range n=(List.range ops.size).take n from by rw [List.take_range,Nat.min_eq_left hnle],List.take_append_drop]]
      rw [List.filter_append,List.filter_eq_nil_iff.2 (fun i hi=>by
       simp only [List.mem_range] at hi
       have:¬ n≤i:=by omega
       simp [this]),List.nil_append]
      rw [List.drop_append_of_le_length (by simp),show (List.range n).drop n=[] from by simp,List.nil_append]
      refine List.filter_eq_self.2 fun i hi=>?_
      obtain ⟨k,hk⟩:=List.mem_iff_getElem?.1 hi
      rw [List.getElem?_drop] at hk
      have hlt:=(List.getElem?_eq_some_iff.1 hk).1
      rw [List.getElem?_range (by simpa using hlt)] at hk
      cases hk
      simp only [List.length_range] at hlt
      rw [hrep _ hlt]; simp
     have hmap:(List.range ops.size).map (fun i=>bops.getD i ⟨none,.bad,none⟩)=bops:=by
      rw [hl]
      refine List.ext_getElem? fun i=>?_
      rw [List.getElem?_map]
      by_cases hi:i < bops.length
      ·rw [List.getElem?_range hi,Option.map_some,List.getD_eq_getElem?_getD,List.getElem?_eq_getElem hi]; rfl
      ·rw [List.getElem?_eq_none (by simpa using hi),List.getElem?_eq_none (by omega)]; rfl
     refine ZuM hG hS (n := n) (Q := Ends E (.normal,s2)) h1' hq.2 (fun Γ a w h=>.normal h) ops.size (s1 := s1) (by simp) (.start ops _) (by rw [hr,hr2]; simp; omega) ?_ ?_ (hb.inv hI)
     ·rw [hr,show List.range n=(List.range ops.size).take n from by rw [List.take_range,Nat.min_eq_left hnle],List.map_take,hmap]; exact h2
     ·rw [hr2,List.map_drop,hmap]; exact h3
   split at hc
   ·rename_i hd
    rw [Bool.and_eq_true] at hd
    cases hc
    simp only [Zz] at h
    obtain ⟨s1,h2,rfl⟩:=Option.map_eq_some_iff.1 h
    refine wp_region_any hm ?_
    have hb:Behind w { w with drawn:=w.drawn + 1 }:=⟨rfl,rfl,rfl,Nat.le_refl _,fun _ _=>rfl⟩
    exact ZlC hG hB (Q := Ends E (.normal,s1)) h1' hd.2 (fun Γ a w h=>.normal h) h2 (hb.inv hI)
   split at hc
   ·rename_i hq
    simp only [Bool.and_eq_true] at hq
    cases hc
    simp only [Zz] at h
    obtain ⟨s1,h2,rfl⟩:=Option.map_eq_some_iff.1 h
    refine wp_region_quiet (C := Behind w) hm hq.1 ⟨rfl,rfl,rfl,Nat.le_refl _,fun _ _=>rfl⟩ ?_
    exact Zc3 hG hS h1 hq.2 h2 hI fun Γ a w h=>.normal h
   ·split at hc
    ·rename_i hd
     cases hc
     simp only [Zz] at h
     obtain ⟨s1,h2,rfl⟩:=Option.map_eq_some_iff.1 h
     refine wp_region_any hm ?_
     have hb:Behind w { w with drawn:=w.drawn + 1 }:=⟨rfl,rfl,rfl,Nat.le_refl _,fun _ _=>rfl⟩
     have hr:Xa ops.size (Array.replicate ops.size false)=List.range ops.size:=by
      unfold Xa
      refine List.filter_eq_self.2 fun i hi=>?_
      simp only [List.mem_range] at hi
      simp [hi]
     have hmap:(List.range ops.size).map (fun i=>bops.getD i ⟨none,.bad,none⟩)=bops:=by
      have hl:ops.size=bops.length:=by simpa using (JC h1').1
      rw [hl]
      refine List.ext_getElem? fun i=>?_
      rw [List.getElem?_map]
      by_cases hi:i < bops.length
      ·rw [List.getElem?_range hi,Option.map_some,List.getD_eq_getElem?_getD,List.getElem?_eq_getElem hi]; rfl
      ·rw [List.getElem?_eq_none (by simpa using hi),List.getElem?_eq_none (by omega)]; rfl
     exact ZuL hG hS (Q := Ends E (.normal,s1)) h1' hd (fun Γ a w h=>.normal h) ops.size (by simp) (.start ops _) (by rw [hr]; simp) (by rw [hr,hmap]; exact h2) (hb.inv hI)
    ·split at hc
     ·rename_i hd
      cases hc
      simp only [Zz] at h
      obtain ⟨s1,h2,rfl⟩:=Option.map_eq_some_iff.1 h
      refine wp_region_any hm ?_
      have hb:Behind w { w with drawn:=w.drawn + 1 }:=⟨rfl,rfl,rfl,Nat.le_refl _,fun _ _=>rfl⟩
      exact ZlC hG hB (Q := Ends E (.normal,s1)) h1' hd (fun Γ a w h=>.normal h) h2 (hb.inv hI)
     ·cases hc; cases h
 | seq x y ihx ihy =>
  intro ac s r Γ a w hc h hI
  simp only [Dv] at hc
  split at hc <;> first | (cases hc; done) | skip
  rename_i ax ay hx hy
  obtain rfl:=Option.some.inj hc
  simp only [Zz] at h
  refine Go.wp_seq ?_
  split at h
  ·rename_i s1 h1
   refine Go.wp_mono (ihx hx h1 hI) fun e a' w' he=>?_
   obtain ⟨k1,Γ',i1⟩:=he
   cases e <;> first | exact k1.elim | skip
   exact ihy hy h i1
  ·rename_i hne
   refine Go.wp_mono (ihx hx h hI) fun e a' w' he=>?_
   cases e <;> first | exact he | skip
   obtain ⟨k1,_⟩:=he
   obtain ⟨q,s1⟩:=r
   cases q <;> first | exact k1.elim | skip
   exact absurd h (hne s1)
 | cond c x y ihx ihy =>
  intro ac s r Γ a w hc h hI
  simp only [Dv] at hc
  split at hc <;> first | (cases hc; done) | skip
  rename_i c' ax ay hcc hx hy
  obtain rfl:=Option.some.inj hc
  simp only [Zz] at h
  split at h <;> first | (cases h; done) | skip
  ·rename_i hb
   have k:=(Z4 hG hI hcc hb).1
   generalize hq:a.eval c=q at k
   cases k
   exact Go.wp_cond_true hq (ihx hx h hI)
  ·rename_i hb
   have k:=(Z4 hG hI hcc hb).1
   generalize hq:a.eval c=q at k
   cases k
   exact Go.wp_cond_false hq (ihy hy h hI)
 | block id c ih =>
  intro ac s r Γ a w hc h hI
  simp only [Dv] at hc
  obtain ⟨ax,hx,rfl⟩:=Option.map_eq_some_iff.1 hc
  simp only [Zz] at h
  refine Go.wp_block ?_
  split at h
  ·rename_i i s1 h1
   split at h
   ·rename_i hi
    obtain rfl:=Option.some.inj h
    refine Go.wp_mono (ih hx h1 hI) fun e a' w' he=>?_
    obtain ⟨k1,Γ',i1⟩:=he
    cases e <;> first | exact k1.elim | skip
    rename_i j
    simp only [Exit.inBlock]
    rw [if_pos (by rw [← hi]; exact (show i=j from k1).symm)]
    exact .normal i1
   ·rename_i hi
    obtain rfl:=Option.some.inj h
    refine Go.wp_mono (ih hx h1 hI) fun e a' w' he=>?_
    obtain ⟨k1,Γ',i1⟩:=he
    cases e <;> first | exact k1.elim | skip
    rename_i j
    simp only [Exit.inBlock]
    rw [if_neg (by rw [← (show i=j from k1)]; exact hi)]
    exact ⟨k1,Γ',i1⟩
  ·rename_i hne
   refine Go.wp_mono (ih hx h hI) fun e a' w' he=>?_
   cases e <;> first | exact he | skip
   obtain ⟨k1,_⟩:=he
   obtain ⟨q,s1⟩:=r
   cases q <;> first | exact k1.elim | skip
   exact absurd h (hne _ s1)
 | loop c ih =>
  intro ac s r Γ a w hc h hI
  simp only [Dv] at hc
  obtain ⟨ax,hx,rfl⟩:=Option.map_eq_some_iff.1 hc
  simp only [Zz] at h
  exact wp_loop_rounds L (ZoS (fun h1 h2=>ih hx h1 h2) L h hI)
 | scope c ih =>
  intro ac s r Γ a w hc h hI
  simp only [Dv] at hc
  obtain ⟨ax,hx,rfl⟩:=Option.map_eq_some_iff.1 hc
  simp only [Zz] at h
  refine Go.wp_scope_straight (Go.wp_mono (ih hx h hI) fun e a' w' he=>?_)
  cases e <;> first | exact he | skip
  obtain ⟨k1,_⟩:=he
  obtain ⟨q,s1⟩:=r
  cases q <;> exact k1.elim
 | exit id =>
  intro ac s r Γ a w hc h hI
  cases hc; cases h
  exact Go.wp_exit ⟨rfl,Γ,hI⟩
 | ret =>
  intro ac s r Γ a w hc h hI
  cases hc; cases h
  exact Go.wp_ret ⟨trivial,Γ,hI⟩
 | label l =>
  intro ac s r Γ a w hc h hI
  cases hc; cases h
  exact Go.wp_label (.normal hI)
 | _ =>
  intro ac s r Γ a w hc h
  cases hc; cases h
end
end Go.Proofs.YtgjcjbhhhlelnaaGreatDoor.Abs
end
section
namespace Go.Proofs.YtgjcjbhhhlelnaaGreatDoor.Abs
open Go Go.RowKit
section
variable {P:Program}{G:Nat→Option (List AV)}{E:Entry}{s:Zb}{Γ:ZF}{a:Act}{w:World}
def ZcK (tmps:Array Value):ResultVar→Sem Value
 | .tmp t=>pure (tmps.getD t Go.undef)
 | .cell x t=>do loadVar t (← asAddr (tmps.getD x Go.undef))
def packed:List Value→Value
 | [v]=>v
 | vs=>.tuple vs.toArray
theorem ZcL {fn:Func}{tmps:Array Value}{vs:List Value}(h:(fn.results.toList.mapM (ZcK tmps)).run P w=.ok vs w):(results fn tmps).run P w=.ok (packed vs) w:=by
 have e0:results fn tmps=(do let vs ← fn.results.mapM (ZcK tmps); pure (if h:vs.size=1 then vs[0] else .tuple vs)):=by
  unfold results
  congr 1
 rw [e0]
 obtain ⟨l,hl⟩:∃ l,fn.results=⟨l⟩:=⟨fn.results.toList,rfl⟩
 rw [hl] at h ⊢
 have e:((⟨l⟩:Array ResultVar).mapM (ZcK tmps)).run P w=.ok vs.toArray w:=by
  rw [List.mapM_toArray,map_eq_pure_bind,Sem.run_bind,h]
  rfl
 rw [Sem.run_bind,e]
 simp only [Result.andThen_ok,Sem.run_pure]
 cases vs with
 | nil=>rfl
 | cons v vs=>cases vs <;> rfl
theorem res_one (hI:Inv E s Γ a w){r:ResultVar}{ar:Zdy}{v:AV}(hc:ZyH P r=some ar)(h:MX s ar=some v) :
  ∃ cv,(ZcK a.tmps r).run P w=.ok cv w∧Rep Γ w v cv∧((∃ t,cv=a.tmps.getD t Go.undef∧s.sl[t]? = some v)∨∀ k r,v≠.own k r):=by
 cases r with
 | tmp t =>
  obtain rfl:=Option.some.inj hc
  exact ⟨a.tmps.getD t Go.undef,rfl,hI.slots.rep t v h,.inl ⟨t,rfl,h⟩⟩
 | cell t ty =>
  simp only [ZyH] at hc
  split at hc
  ·rename_i hag
   obtain rfl:=Option.some.inj hc
   simp only [MX] at h
   split at h <;> first | (cases h; done) | skip
   rename_i x hx
   obtain ⟨b,off,cv,e,hl,hcell,hr,hn⟩:=Zpb hI (hI.slots.rep t x hx) h
   have hu:=Zcl hag
   obtain ⟨i,hi⟩:=info_of_underlying hu
   have hld:=run_loadCells_list (P := P) w ⟨b,off,none⟩ cv (fun j y hj=>by rw [add_lit]; exact hcell j y hj)
   rw [hl] at hld
   refine ⟨_,?_,hr,.inr hn⟩
   simp only [ZcK,e]
   simp [asAddr,loadVar,Rt hag hu,Yw hi,hld]
  ·rename_i hag
   split at hc <;> first | (cases hc; done) | skip
   rename_i hu
   obtain rfl:=Option.some.inj hc
   simp only [MX] at h
   split at h <;> first | (cases h; done) | skip
   rename_i x hx
   obtain ⟨b,off,cv,e,hcell,hr,hn⟩:=Zpd hI (hI.slots.rep t x hx) h
   refine ⟨cv,?_,hr,.inr hn⟩
   simp only [ZcK,e]
   simp [asAddr,loadVar,Rt (by simpa using hag) hu,hcell]
theorem Zqa (hI:Inv E s Γ a w):∀ {rs:List ResultVar} {ars:List Zdy} {vs:List AV},ZiY P rs=some ars→UJ s ars=some vs →
  ∃ cvs:List Value,(rs.mapM (ZcK a.tmps)).run P w=.ok cvs w∧cvs.length=vs.length∧ars.length=rs.length∧∀ (j:Nat) (x:AV),vs[j]? = some x→∃ u,cvs[j]? = some u∧Rep Γ w x u
 | [],ars,vs,hc,h=>by
  cases hc; cases h
  exact ⟨[],rfl,rfl,rfl,fun j x hx=>by simp at hx⟩
 | r :: rs,ars,vs,hc,h=>by
  simp only [ZiY] at hc
  split at hc <;> first | (cases hc; done) | skip
  rename_i ar l h1 h2
  obtain rfl:=Option.some.inj hc
  simp only [UJ] at h
  split at h <;> first | (cases h; done) | skip
  rename_i v vs' h3 h4
  obtain rfl:=Option.some.inj h
  obtain ⟨cv,e1,r1,_⟩:=res_one hI h1 h3
  obtain ⟨cvs,e2,e3,e4,e5⟩:=Zqa hI h2 h4
  refine ⟨cv :: cvs,?_,by simp [e3],by simp [e4],fun j x hx=>?_⟩
  ·rw [List.mapM_cons]
   simp only [Sem.run_bind,e1,Result.andThen_ok,e2]
   rfl
  ·cases j with
   | zero=>obtain rfl:=Option.some.inj hx; exact ⟨cv,rfl,r1.nm⟩
   | succ j =>
    obtain ⟨u,hu,hr⟩:=e5 j x (by simpa using hx)
    exact ⟨u,by simpa using hu,hr⟩
theorem ZxL (hI:Inv E s Γ a w){fn:Func}{rs:List Zdy}{v:AV}(hc:ZiY P fn.results.toList=some rs)(h:Xw s rs=some v) :
  ∃ cv Γ',(results fn a.tmps).run P w=.ok cv w∧RW E.W0 Γ' w s.hp∧Frame E.Γ0 E.w0 Γ' w s.ef∧Rep Γ' w v cv∧OwnAt Γ' w .res v cv∧∀ b g,Γ' b=.own g→g < s.bs→E.Γ0 b=.own g:=by
 have many:∀ vs,UJ s rs=some vs→v=.tup vs→rs.length≠1→∃ cv Γ',(results fn a.tmps).run P w=.ok cv w∧RW E.W0 Γ' w s.hp∧Frame E.Γ0 E.w0 Γ' w s.ef∧Rep Γ' w v cv∧OwnAt Γ' w .res v cv∧∀ b g,Γ' b=.own g→g < s.bs→E.Γ0 b=.own g:=by
  intro vs hvs hv hne
  obtain ⟨cvs,e2,e3,e4,e5⟩:=Zqa hI hc hvs
  have hr:=ZcL e2
  have hvl:vs.length=rs.length:=by
   clear hc e2 e3 e4 e5 hr hv hne h
   induction rs generalizing vs with
   | nil=>cases hvs; rfl
   | cons r rs ih =>
    simp only [UJ] at hvs
    split at hvs <;> first | (cases hvs; done) | skip
    rename_i h1 h2
    obtain rfl:=Option.some.inj hvs
    simp [ih _ h2]
  subst hv
  refine ⟨.tuple cvs.toArray,Γ,?_,hI.rw,hI.fr,.tup vs _ (by simpa using e3) (fun j x hx=>?_),.of_ne (by simp),hI.back⟩
  ·rw [hr]
   cases cvs with
   | nil=>rfl
   | cons u cvs =>
    cases cvs with
    | nil=>simp at e3; omega
    | cons _ _=>rfl
  ·obtain ⟨u,hu,hr⟩:=e5 j x hx
   rw [Array.getD_eq_getD_getElem?,List.getElem?_toArray,hu]
   exact hr
 cases rs with
 | nil =>
  simp only [Xw] at h
  obtain ⟨vs,hvs,e⟩:=Option.map_eq_some_iff.1 h
  exact many vs hvs e.symm (by simp)
 | cons r rs =>
  cases rs with
  | cons r' rs =>
   simp only [Xw] at h
   obtain ⟨vs,hvs,e⟩:=Option.map_eq_some_iff.1 h
   exact many vs hvs e.symm (by simp)
  | nil =>
   simp only [Xw] at h
   cases hl:fn.results.toList with
   | nil=>rw [hl] at hc; cases hc
   | cons q qs =>
    rw [hl] at hc
    simp only [ZiY] at hc
    split at hc <;> first | (cases hc; done) | skip
    rename_i ar l h1 h2
    obtain ⟨rfl,rfl⟩:=List.cons.inj (Option.some.inj hc)
    have hqs:qs=[]:=by
     cases qs with
     | nil=>rfl
     | cons _ _ =>
      simp only [ZiY] at h2
      split at h2 <;> simp at h2
    subst hqs
    obtain ⟨cv,e1,r1,hown⟩:=res_one hI h1 h
    have hrun:=ZcL (fn := fn) (tmps := a.tmps) (P := P) (w := w) (vs := [cv]) (by
     rw [hl,List.mapM_cons]
     simp only [Sem.run_bind,e1,Result.andThen_ok]
     rfl)
    rcases hown with ⟨t,rfl,ht⟩ | hn
    ·obtain ⟨Γ',i1,r1,o1⟩:=hI.take t ht
     exact ⟨_,Γ',hrun,i1.rw,i1.fr,r1,o1,i1.back⟩
    ·exact ⟨_,Γ,hrun,hI.rw,hI.fr,r1,.of_ne hn,hI.back⟩
end
end Go.Proofs.YtgjcjbhhhlelnaaGreatDoor.Abs
end
section
namespace Go.Proofs.YtgjcjbhhhlelnaaGreatDoor.Abs
open Go Go.RowKit
def Xe (bs:Nat):Kind→Kind
 | .own g=>if g < bs then .own g else .imm
 | .list n (.cell g i)=>if g < bs then .list n (.cell g i) else .imm
 | k=>k
theorem Ef {bs o:Nat}{k:Kind}(h:QO o k):QO o (Xe bs k):=by
 cases k with
 | imm=>trivial
 | own g=>exact h.elim
 | list m l =>
  cases l <;> simp only [Xe] <;> first | exact h | skip
  split
  ·exact h
  ·trivial
theorem XE {bs g:Nat}{k:Kind}(h:Xe bs k=.own g):k=.own g∧g < bs:=by
 cases k with
 | imm=>cases h
 | own g' =>
  simp only [Xe] at h
  split at h
  ·rename_i hl; cases h; exact ⟨rfl,hl⟩
  ·cases h
 | list m l =>
  cases l <;> simp only [Xe] at h <;> first | (cases h; done) | skip
  split at h <;> cases h
theorem ZaZ {α β:Type}{f:α→Option β}:∀ {l:List α} {r:List β},l.mapM f=some r→r.length=l.length∧∀ (j:Nat) (y:β),r[j]? = some y→∃ x,l[j]? = some x∧f x=some y
 | [],r,h=>by
  simp only [List.mapM_nil] at h
  obtain rfl:=Option.some.inj h
  exact ⟨rfl,fun j y hy=>by simp at hy⟩
 | x :: l,r,h=>by
  rw [List.mapM_cons] at h
  cases hx:f x with
  | none=>rw [hx] at h; cases h
  | some y =>
   cases hl:l.mapM f with
   | none=>rw [hx,hl] at h; cases h
   | some ys =>
    rw [hx,hl] at h
    obtain rfl:=Option.some.inj h
    obtain ⟨e1,e2⟩:=ZaZ hl
    refine ⟨by simp [e1],fun j z hz=>?_⟩
    cases j with
    | zero=>obtain rfl:=Option.some.inj hz; exact ⟨x,rfl,hx⟩
    | succ j =>
     obtain ⟨x',h1,h2⟩:=e2 j z (by simpa using hz)
     exact ⟨x',by simpa using h1,h2⟩
section
variable {W0 w:World}{Γ Γ':ZF}{hp:List Zm}{bs:Nat}
theorem Nk {x:AV}{v:Value}(hf:Yu Γ w Γ' w)(h:Rep Γ w x v)(hn:x.noId1=true):Rep Γ' w x.ro v:=(h.noId hf hn).ro
theorem OwnAt.fix {w':World}{l l':Loc}{x:AV}{v:Value}(hf:Yu Γ w Γ' w')(hb:∀ b n,Γ b=.list n l→Γ' b=.list n l'∧w'.heap[b]? = w.heap[b]?)(h:OwnAt Γ w l x v):OwnAt Γ' w' l' x v:=by
 intro k rows e
 rcases h k rows e with h | ⟨b,cap,e,cur,hv,hg,hh,h1,h2,h3,h4,h5⟩
 ·exact .inl h
 ·obtain ⟨g1,g2⟩:=hb b _ hg
  exact .inr ⟨b,cap,e,cur,hv,g1,g2.trans hh,h1,h2,h3,h4,fun i j r c a1 a2=>⟨(h5 i j r c a1 a2).1,(h5 i j r c a1 a2).2.noId hf (h5 i j r c a1 a2).1⟩⟩
theorem Zf0 (hr:RW W0 Γ w hp):∀ (d:Nat) {v v':AV} {cv:Value},ZaX bs hp d v=some v'→Rep Γ w v cv→Rep (fun b=>Xe bs (Γ b)) w v' cv∧(∀ k r,v'≠.own k r)∧(v.one=true→v'.one=true):=by
 have hf:Yu Γ w (fun b=>Xe bs (Γ b)) w:=fun _ _ _ h1 h2=>⟨Ef h1,h2⟩
 have hown:∀ b g,Γ b=.own g→g < bs→Xe bs (Γ b)=.own g:=fun b g h hg=>by simp [h,Xe,hg]
 intro d
 induction d with
 | zero =>
  intro v v' cv h hv
  cases v <;> simp only [ZaX] at h
  case arr g off len k =>
   split at h <;> first | (cases h; done) | skip
   rename_i hg
   obtain rfl:=Option.some.inj h
   cases hv with
   | arr _ _ _ _ cap b hb hc=>exact ⟨.arr _ _ _ _ cap b (hown b g hb hg) hc,by simp,fun h=>h⟩
  case ptr g o =>
   split at h <;> first | (cases h; done) | skip
   rename_i hg
   obtain rfl:=Option.some.inj h
   cases hv with
   | ptr _ _ b hb=>exact ⟨.ptr _ _ b (hown b g hb hg),by simp,fun h=>h⟩
  case map g =>
   split at h <;> first | (cases h; done) | skip
   rename_i hg
   obtain rfl:=Option.some.inj h
   cases hv with
   | map _ b hb=>exact ⟨.map _ b (hown b g hb hg),by simp,fun h=>h⟩
  case agg=>cases h
  case tup=>cases h
  case fn f a cs =>
   split at h <;> first | (cases h; done) | skip
   rename_i hg
   obtain rfl:=Option.some.inj h
   refine ⟨?_,by simp,fun h=>h⟩
   have:=hv.noId hf (by simpa [AV.noId1] using hg)
   obtain ⟨rfl,rfl⟩:a=[]∧cs=[]:=by simpa using hg
   exact this
  case undef=>cases h; cases hv; exact ⟨.undef,by simp [AV.ro],fun h=>h⟩
  all_goals
   obtain rfl:=Option.some.inj h
   exact ⟨Nk hf hv rfl,fun _ _=>Jn,fun h=>by rw [Ey]; exact h⟩
 | succ d ih =>
  intro v v' cv h hv
  cases v <;> simp only [ZaX] at h
  case arr g off len k =>
   split at h
   ·rename_i hg
    obtain rfl:=Option.some.inj h
    cases hv with
    | arr _ _ _ _ cap b hb hc=>exact ⟨.arr _ _ _ _ cap b (hown b g hb hg) hc,by simp,fun h=>h⟩
   ·rename_i hg
    split at h <;> first | (cases h; done) | skip
    rename_i cs t hobj
    split at h <;> first | (cases h; done) | skip
    rename_i hfit
    obtain ⟨cs',h1,h2⟩:=Option.bind_eq_some_iff.1 h
    split at h2 <;> first | (cases h2; done) | skip
    rename_i hid
    obtain rfl:=Option.some.inj h2
    obtain ⟨m1,m2⟩:=ZaZ h1
    cases hv with
    | arr _ _ _ _ cap b hb hc =>
     obtain ⟨b',C,o1,o2,o3,o4⟩:=hr.objs g _ hobj
     obtain rfl:=hr.inj b b' g hb o1
     have hlen:cs'.length=len * k:=by rw [m1]; simp; omega
     have hrow:∀ (i:Nat) (r:List AV),(chunk k len cs')[i]? = some r→i < len∧r.length=k∧∀ (j:Nat) (c:AV),r[j]? = some c→j < k∧cs'[i * k + j]? = some c:=by
      intro i r hi
      have hil:=Zx hi
      rw [VM] at hil
      have he:=ZbS k len _ i r hi
      have hle:(i + 1) * k≤len * k:=Nat.mul_le_mul_right k hil
      rw [Nat.add_mul,Nat.one_mul] at hle
      refine ⟨hil,by rw [he]; simp; omega,fun j c hj=>?_⟩
      rw [he,List.getElem?_take] at hj
      split at hj
      ·rename_i hjk
       refine ⟨hjk,?_⟩
       rw [List.getElem?_drop] at hj
       exact hj
      ·cases hj
     have hcell:∀ (p:Nat) (c:AV),cs'[p]? = some c→off + p < C.size∧Rep (fun b=>Xe bs (Γ b)) w c (C.getD (off + p) Go.undef)∧c.noId1=true:=by
      intro p c hp
      obtain ⟨x,x1,x2⟩:=m2 p c hp
      have hpl:=Zx hp
      rw [List.getElem?_take,if_pos (by omega),List.getElem?_drop] at x1
      obtain ⟨_,q2,_⟩:=o4 _ x x1
      exact ⟨by omega,(ih x2 q2).1,List.all_eq_true.1 hid c (List.mem_of_getElem? hp)⟩
     refine ⟨?_,by simp,fun _=>rfl⟩
     have hl:(chunk k len cs').length=len:=VM k len cs'
     have key:=Rep.lst (Γ := fun b=>Xe bs (Γ b)) (w := w) k (chunk k len cs') b off cap (fun i j=>C.getD (off + (i * k + j)) Go.undef) (by rw [hl]; exact hc) (fun r hr=>?_) (fun i j r c hi hj=>?_) (fun i j r c hi hj=>?_)
     ·rw [hl] at key; exact key
     ·obtain ⟨i,hi⟩:=List.mem_iff_getElem?.1 hr
      exact (hrow i r hi).2.1
     ·obtain ⟨_,_,h3⟩:=hrow i r hi
      obtain ⟨_,h4⟩:=h3 j c hj
      obtain ⟨q1,q2,q3⟩:=hcell _ c h4
      refine ⟨?_,?_,q3⟩
      ·rw [cell_of_row w b _ C t (0,0) o2]
       exact WE q1
      ·show QO _ (Xe bs (Γ b))
       rw [hb]
       simp only [Xe,if_neg hg]
       trivial
     ·obtain ⟨_,_,h3⟩:=hrow i r hi
      obtain ⟨_,h4⟩:=h3 j c hj
      exact (hcell _ c h4).2.1
  case ptr g o =>
   split at h <;> first | (cases h; done) | skip
   rename_i hg
   obtain rfl:=Option.some.inj h
   cases hv with
   | ptr _ _ b hb=>exact ⟨.ptr _ _ b (hown b g hb hg),by simp,fun h=>h⟩
  case map g =>
   split at h <;> first | (cases h; done) | skip
   rename_i hg
   obtain rfl:=Option.some.inj h
   cases hv with
   | map _ b hb=>exact ⟨.map _ b (hown b g hb hg),by simp,fun h=>h⟩
  case agg=>cases h
  case tup=>cases h
  case fn f a cs =>
   split at h <;> first | (cases h; done) | skip
   rename_i hg
   obtain rfl:=Option.some.inj h
   refine ⟨?_,by simp,fun h=>h⟩
   have:=hv.noId hf (by simpa [AV.noId1] using hg)
   obtain ⟨rfl,rfl⟩:a=[]∧cs=[]:=by simpa using hg
   exact this
  case undef=>cases h; cases hv; exact ⟨.undef,by simp [AV.ro],fun h=>h⟩
  all_goals
   obtain rfl:=Option.some.inj h
   exact ⟨Nk hf hv rfl,fun _ _=>Jn,fun h=>by rw [Ey]; exact h⟩
theorem Zcg (hr:RW W0 Γ w hp){v v':AV}{cv:Value}(h:Zg8 bs hp v=some v')(hv:Rep Γ w v cv):Rep (fun b=>Xe bs (Γ b)) w v' cv∧∀ k r,v'≠.own k r:=by
 unfold Zg8 at h
 split at h
 ·rename_i cs
  obtain ⟨cs',h1,rfl⟩:=Option.map_eq_some_iff.1 h
  obtain ⟨m1,m2⟩:=ZaZ h1
  cases hv with
  | agg _ u hs k1 kn kr =>
   refine ⟨.agg cs' u (by rw [hs,m1]) (fun j c hc=>?_) (fun j k r hc=>?_) (fun j c hc=>?_),by simp⟩
   ·obtain ⟨x,x1,x2⟩:=m2 j c hc
    exact (Zf0 hr 4 x2 (kr j x x1)).2.2 (k1 j x x1)
   ·obtain ⟨x,x1,x2⟩:=m2 j _ hc
    exact absurd rfl ((Zf0 hr 4 x2 (kr j x x1)).2.1 k r)
   ·obtain ⟨x,x1,x2⟩:=m2 j c hc
    exact (Zf0 hr 4 x2 (kr j x x1)).1
 ·obtain ⟨h1,h2,_⟩:=Zf0 hr 4 h hv
  exact ⟨h1,h2⟩
theorem Zwt (hr:RW W0 Γ w hp){v v':AV}{cv:Value}(h:frz bs hp v=some v')(hv:Rep Γ w v cv)(ho:OwnAt Γ w .res v cv):Rep (fun b=>Xe bs (Γ b)) w v' cv∧OwnAt (fun b=>Xe bs (Γ b)) w .res v' cv:=by
 have hf:Yu Γ w (fun b=>Xe bs (Γ b)) w:=fun _ _ _ h1 h2=>⟨Ef h1,h2⟩
 unfold frz at h
 split at h
 ·rename_i vs
  obtain ⟨vs',h1,rfl⟩:=Option.map_eq_some_iff.1 h
  obtain ⟨m1,m2⟩:=ZaZ h1
  cases hv with
  | tup _ u hs kr =>
   refine ⟨.tup vs' u (by rw [hs,m1]) fun j c hc=>?_,.of_ne (by simp)⟩
   obtain ⟨x,x1,x2⟩:=m2 j c hc
   exact (Zcg hr x2 (kr j x x1)).1
 ·obtain rfl:=Option.some.inj h
  exact ⟨hv.noId hf rfl,ho.fix hf fun b n hb=>⟨by simp [hb,Xe],rfl⟩⟩
 ·obtain ⟨h1,h2⟩:=Zcg hr h hv
  exact ⟨h1,.of_ne h2⟩
theorem Zdo {x:AV}{cv:Value}(hx:x.under1 bs=true)(hv:Rep Γ w x cv):Rep (fun b=>Xe bs (Γ b)) w x cv:=by
 have hf:Yu Γ w (fun b=>Xe bs (Γ b)) w:=fun _ _ _ h1 h2=>⟨Ef h1,h2⟩
 have hown:∀ b g,Γ b=.own g→g < bs→Xe bs (Γ b)=.own g:=fun b g h hg=>by simp [h,Xe,hg]
 unfold AV.under1 at hx
 split at hx
 ·cases hv with
  | arr _ _ _ _ cap b hb hc=>exact .arr _ _ _ _ cap b (hown b _ hb (by simpa using hx)) hc
 ·cases hv with
  | ptr _ _ b hb=>exact .ptr _ _ b (hown b _ hb (by simpa using hx))
 ·cases hv with
  | map _ b hb=>exact .map _ b (hown b _ hb (by simpa using hx))
 ·exact hv.noId hf hx
theorem Zs9 {x:AV}{cv:Value}(hx:x.under bs=true)(hv:Rep Γ w x cv):Rep (fun b=>Xe bs (Γ b)) w x cv:=by
 unfold AV.under at hx
 split at hx
 ·simp only [Bool.and_eq_true,List.all_eq_true] at hx
  cases hv with
  | fn f a cs u v hs1 hr1 hs hr=>exact .fn _ _ _ u v hs1 (fun j c hc=>Zdo (hx.1 c (List.mem_of_getElem? hc)) (hr1 j c hc)) hs (fun j c hc=>Zdo (hx.2 c (List.mem_of_getElem? hc)) (hr j c hc))
 ·exact Zdo hx hv
theorem Zhg {s:Zb}{Γ0:ZF}{w0:World}{hp0:List Zm}{v:AV}{cv:Value}{v':AV}{hp':List Zm}{e':Eff}(h0:RW W0 Γ0 w0 hp0)(hbs:s.bs=hp0.length)(hle:s.bs≤s.hp.length)(base:∀ b n g i,Γ0 b=.list n (.cell g i)→g < s.bs)
  (hr:RW W0 Γ w s.hp) (hfr:Frame Γ0 w0 Γ w s.ef) (hbk:∀ b g,Γ b=.own g→g < s.bs→Γ0 b=.own g) (hv:Rep Γ w v cv) (ho:OwnAt Γ w .res v cv) {keep:Bool} (h:(if keep then (v.nm,s.hp,s.ef) else finish v s hp0)=(v',hp',e')) :
  ∃ Γ',RW W0 Γ' w hp'∧Rep Γ' w v' cv∧OwnAt Γ' w .res v' cv∧Frame Γ0 w0 Γ' w e'∧hp0.length≤hp'.length∧∀ b g,Γ' b=.own g→g < hp0.length→Γ0 b=.own g:=by
 have hf:Yu Γ w (fun b=>Xe s.bs (Γ b)) w:=fun _ _ _ h1 h2=>⟨Ef h1,h2⟩
 have asis:(v.nm,s.hp,s.ef)=(v',hp',e')→∃ Γ',RW W0 Γ' w hp'∧Rep Γ' w v' cv∧OwnAt Γ' w .res v' cv∧Frame Γ0 w0 Γ' w e'∧hp0.length≤hp'.length∧∀ b g,Γ' b=.own g→g < hp0.length→Γ0 b=.own g:=by
  intro e
  cases e
  exact ⟨Γ,hr,hv.nm,.of_ne fun _ _=>Oo,hfr,by omega,fun b g hb hl=>hbk b g hb (by omega)⟩
 have base1:∀ b g,Γ0 b=.own g→g < s.bs:=fun b g hb=>by rw [hbs]; exact h0.lt b g hb
 have same0:∀ b,b < w0.heap.size→Kept s.ef (Γ0 b)→Xe s.bs (Γ b)=Γ0 b∧w.heap[b]? = w0.heap[b]?:=fun b hb hk=>by
  obtain ⟨e1,e2⟩:=hfr.keep b hb hk
  refine ⟨?_,e2⟩
  rw [e1]
  cases hg:Γ0 b with
  | imm=>rfl
  | own g=>simp [Xe,base1 b g hg]
  | list n l =>
   cases l with
   | cell g i=>simp [Xe,base b n g i hg]
   | _=>rfl
 have fr:Frame Γ0 w0 (fun b=>Xe s.bs (Γ b)) w s.ef :=
  ⟨hfr.os,hfr.tape,hfr.output,hfr.size,hfr.fix.trans hf,fun b g hb=>by simp [hfr.own b g hb,Xe,base1 b g hb],same0⟩
 have inj':∀ b b' g,Xe s.bs (Γ b)=.own g→Xe s.bs (Γ b')=.own g→b=b':=fun b b' g h1 h2=>hr.inj b b' g (XE h1).1 (XE h2).1
 have imm':∀ b,Γ b=.imm→Xe s.bs (Γ b)=.imm:=fun b hb=>by rw [hb]; rfl
 split at h
 ·exact asis h
 unfold finish at h
 split at h
 case h_2=>exact asis h
 rename_i u hu
 obtain ⟨r1,r2⟩:=Zwt hr hu hv ho
 split at h
 ·rename_i he
  cases h
  rw [he] at fr
  refine ⟨_,⟨fun g o hg=>?_,inj',fun b hb=>imm' b (hr.fresh b hb),fun b g hb=>by rw [← hbs]; exact (XE hb).2,hr.old,fun b hb=>imm' b (hr.oldImm b hb),fun g hg b hb=>h0.dead g hg b (hbk b g (XE hb).1 (XE hb).2)⟩,r1,r2,fr,Nat.le_refl _,fun b g hb hl=>hbk b g (XE hb).1 (XE hb).2⟩
  refine (h0.objs g o hg).step (X := fun b=>¬ Kept none (Γ0 b)) ⟨fr.os,fr.tape,fr.output,fr.size,fun b hb hx=>fr.keep b hb (Classical.not_not.1 hx),fr.fix,fr.own⟩ h0.fresh (fun b hx e=>hx ?_) (fun b n i hx e=>hx ?_)
  ·rw [e]; exact fun _ _ e=>by cases e
  ·rw [e]; exact fun _ _ e=>by cases e
 ·rename_i e he
  split at h
  ·rename_i hall
   cases h
   rw [he] at fr
   have hlen:(s.hp.take s.bs).length=s.bs:=by simp; omega
   refine ⟨_,⟨fun g o hg=>?_,inj',fun b hb=>imm' b (hr.fresh b hb),fun b g hb=>by rw [hlen]; exact (XE hb).2,hr.old,fun b hb=>imm' b (hr.oldImm b hb),fun g hg b hb=>hr.dead g (by have hgl:=Zx hg; rw [hlen] at hgl; rw [List.getElem?_take,if_pos hgl] at hg; exact hg) b (XE hb).1⟩,r1,r2,fr,by omega,fun b g hb hl=>hbk b g (XE hb).1 (XE hb).2⟩
   have hgl:=Zx hg
   rw [hlen] at hgl
   have hund:=List.all_eq_true.1 hall o (List.mem_of_getElem? hg)
   rw [List.getElem?_take,if_pos hgl] at hg
   have:=hr.objs g o hg
   cases o with
   | dead=>trivial
   | cells cs t =>
    obtain ⟨b,C,h1,h2,h3,h4⟩:=this
    refine ⟨b,C,by simp [h1,Xe,hgl],h2,h3,fun i c hc=>?_⟩
    obtain ⟨a1,a2,a3⟩:=h4 i c hc
    exact ⟨a1,Zs9 (List.all_eq_true.1 hund c (List.mem_of_getElem? hc)) a2,a3.fix hf fun b n hb=>⟨by simp [hb,Xe,hgl],rfl⟩⟩
   | map es =>
    obtain ⟨b,ms,clk,h1,h2,h3,h4⟩:=this
    exact ⟨b,ms,clk,by simp [h1,Xe,hgl],h2,h3,h4⟩
   | iter l pos =>
    obtain ⟨b,h1,h2⟩:=this
    exact ⟨b,by simp [h1,Xe,hgl],h2⟩
   | buf _ _ _ =>
    obtain ⟨b,C,h1,h2,h3⟩:=this
    exact ⟨b,C,by simp [h1,Xe,hgl],h2,h3.mono fun b n i hb=>⟨by simp [hb,Xe,hgl],rfl⟩⟩
  ·exact asis h
end
end Go.Proofs.YtgjcjbhhhlelnaaGreatDoor.Abs
end
section
namespace Go.Proofs.YtgjcjbhhhlelnaaGreatDoor.Abs
open Go Go.RowKit
def ZaW (call:FuncId→List AV→List Zm→Option (AV×List Zm×Eff))(f:FuncId)(args:List AV)(hp:List Zm):Option (AV×List Zm×Eff) :=
 match call f args hp with
 | some (v,hp',none)=>match frz hp.length hp' v with
  | some v'=>some (v',hp,none)
  | none=>none
 | _=>none
theorem Zoi {P:Program}{W0:World}{call:FuncId→List AV→List Zm→Option (AV×List Zm×Eff)}(hS:Y8 P W0 call):Y8 P W0 (ZaW call):=by
 intro f args hp v hp' e h Γ w xs hr ht hs hx
 unfold ZaW at h
 split at h <;> first | (cases h; done) | skip
 rename_i v0 hp0 hc
 split at h <;> first | (cases h; done) | skip
 rename_i v1 hf
 cases h
 refine (hS f args hp v0 hp0 none hc Γ w xs hr ht hs hx).mono fun cv w' ⟨Γ',r1,r2,r3,r4,r5⟩=>?_
 exact Zhg (s := ⟨[],hp0,none,hp.length⟩) hr rfl r5.1 (fun b n g i hb=>ht.cell b n g i hb) r1 r4 r5.2 r2 r3 (keep := false) (by simp only [finish,hf]; rfl)
def Ja:Kind→Kind
 | .own _=>.list 0 .outer
 | .list n (.cell _ _)=>.list n .outer
 | k=>k
def Nj:Kind→Bool
 | .own _=>true
 | .list _ (.cell _ _)=>true
 | _=>false
theorem ZgS {k:Kind}{o:Nat}(h:QO o k):QO o (Ja k):=by
 cases k with
 | imm=>trivial
 | own g=>exact h.elim
 | list n l=>cases l <;> exact h
theorem ZgT {k:Kind}{g:Nat}:Ja k≠.own g:=by
 cases k with
 | imm=>simp [Ja]
 | own g=>simp [Ja]
 | list n l=>cases l <;> simp [Ja]
theorem Zmo {k:Kind}(h:Nj k=false):Ja k=k:=by
 cases k with
 | imm=>rfl
 | own g=>cases h
 | list n l=>cases l <;> first | rfl | cases h
theorem Zmn {k:Kind}(h:Nj k=true):Kept none (Ja k):=by
 cases k with
 | imm=>cases h
 | own g=>trivial
 | list n l=>cases l <;> first | trivial | cases h
theorem ZiV {k:Kind}{o:Nat}(h:Nj k=true)(hf:QO o (Ja k)):QO o k:=by
 cases k with
 | imm=>cases h
 | own g=>exact absurd hf (Nat.not_lt_zero _)
 | list n l=>cases l <;> first | exact hf | cases h
theorem Rep.bare {Γ Γ':ZF}{w:World}{x:AV}{v:Value}(hf:Yu Γ w Γ' w)(h:Rep Γ w x v)(hb:x.bare=true):Rep Γ' w x v:=by
 cases h with
 | agg cells cv hs h1 hn hr =>
  refine .agg cells cv hs h1 hn fun j c hc=>(hr j c hc).noId hf ?_
  exact List.all_eq_true.1 hb c (List.mem_of_getElem? hc)
 | _=>exact Rep.noId hf (by constructor <;> assumption) hb
theorem ZnR {P:Program}{W0:World}{call:FuncId→List AV→List Zm→Option (AV×List Zm×Eff)}(hS:Y8 P W0 call):Y8 P W0 (Yp call):=by
 intro f args hp v hp' e h Γ w xs hr ht hs hx
 have hc:args.all AV.bare=true∧ZaW call f args []=some (v,[],none)∧hp'=hp∧e=none:=by
  unfold Yp at h
  split at h <;> first | (cases h; done) | skip
  rename_i hb
  split at h <;> first | (cases h; done) | skip
  rename_i v0 hp0 hc
  split at h <;> first | (cases h; done) | skip
  rename_i v1 hf
  cases h
  refine ⟨hb,?_,rfl,rfl⟩
  unfold ZaW
  rw [hc]
  simp only [List.length_nil]
  rw [hf]
 obtain ⟨hb,hc,rfl,rfl⟩:=hc
 have f1:Yu Γ w (fun b=>Ja (Γ b)) w:=fun _ _ _ h1 h2=>⟨ZgS h1,h2⟩
 have hr1:RW W0 (fun b=>Ja (Γ b)) w []:=⟨fun g o hg=>by simp at hg,fun b b' g hb=>absurd hb ZgT,fun b hb=>by simp [hr.fresh b hb,Ja],fun b g hb=>absurd hb ZgT,hr.old,fun b hb=>by simp [hr.oldImm b hb,Ja],fun g hg=>by simp at hg⟩
 have ht1:Tidy (fun b=>Ja (Γ b)) 0:=by
  refine ⟨fun b m h=>?_,fun b m j h=>?_,fun b m g i h=>?_⟩
  ·have:=ht.res b m
   cases hg:Γ b with
   | imm=>simp [hg,Ja] at h
   | own g=>simp [hg,Ja] at h
   | list n l=>cases l <;> simp [hg,Ja] at h this <;> omega
  ·have:=ht.arg b m j
   cases hg:Γ b with
   | imm=>simp [hg,Ja] at h
   | own g=>simp [hg,Ja] at h
   | list n l=>cases l <;> simp [hg,Ja] at h this <;> omega
  ·cases hg:Γ b with
   | imm=>simp [hg,Ja] at h
   | own g=>simp [hg,Ja] at h
   | list n l=>cases l <;> simp [hg,Ja] at h
 refine (Zoi hS f args [] v [] none hc (fun b=>Ja (Γ b)) w xs hr1 ht1 hs fun j x hj=>?_).mono fun cv w' ⟨Γ',r1,r2,r3,r4,r5⟩=>?_
 ·obtain ⟨q1,q2⟩:=hx j x hj
  have hbx:=List.all_eq_true.1 hb x (List.mem_of_getElem? hj)
  refine ⟨q1.bare f1 hbx,fun k rows e=>?_⟩
  rcases q2 k rows e with h | ⟨b,cap,e,cur,h1,h2,h3,h4,h5,h6,h7,h8⟩
  ·exact .inl h
  ·exact .inr ⟨b,cap,e,cur,h1,by simp [h2,Ja],h3,h4,h5,h6,h7,fun i j r c hi hj=>⟨(h8 i j r c hi hj).1,(h8 i j r c hi hj).2.noId f1 (h8 i j r c hi hj).1⟩⟩
 ·have lt:∀ b,Γ b≠.imm→b < w.heap.size:=fun b hb=>by
   rcases Nat.lt_or_ge b w.heap.size with h' | h'
   ·exact h'
   ·exact absurd (hr.fresh b h') hb
  have lost:∀ b,Nj (Γ b)=true→Γ' b=Ja (Γ b)∧w'.heap[b]? = w.heap[b]?:=fun b hb=>r4.keep b (lt b fun e=>by rw [e] at hb; cases hb) (Zmn hb)
  let Γ2:ZF:=fun b=>if Nj (Γ b)=true then Γ b else Γ' b
  have g1:∀ b,Nj (Γ b)=true→Γ2 b=Γ b:=fun b hb=>if_pos hb
  have g2:∀ b,¬ Nj (Γ b)=true→Γ2 b=Γ' b:=fun b hb=>if_neg hb
  have fix:Yu Γ w Γ2 w':=fun b o y h1 h2=>by
   obtain ⟨k1,k2⟩:=r4.fix b o y (ZgS h1) h2
   refine ⟨?_,k2⟩
   unfold P8
   by_cases hb:Nj (Γ b)=true
   ·rw [g1 b hb]; exact h1
   ·rw [g2 b hb]; exact k1
  have own:YF Γ Γ2:=fun b g hb=>by rw [g1 b (by rw [hb]; rfl)]; exact hb
  have ownI:∀ b g,Γ2 b=.own g→Γ b=.own g:=fun b g hb=>by
   by_cases hl:Nj (Γ b)=true
   ·rw [g1 b hl] at hb; exact hb
   ·rw [g2 b hl] at hb; exact absurd (r1.lt b g hb) (Nat.not_lt_zero _)
  have fix2:Yu Γ' w' Γ2 w':=fun b o y h1 h2=>by
   refine ⟨?_,h2⟩
   unfold P8 at h1 ⊢
   by_cases hb:Nj (Γ b)=true
   ·rw [g1 b hb]
    rw [(lost b hb).1] at h1
    exact ZiV hb h1
   ·rw [g2 b hb]; exact h1
  have own2:YF Γ' Γ2:=fun b g hb=>absurd (r1.lt b g hb) (Nat.not_lt_zero _)
  have keepL:∀ b,Nj (Γ b)=true→Γ2 b=Γ b∧w'.heap[b]? = w.heap[b]?:=fun b hb=>⟨g1 b hb,(lost b hb).2⟩
  have imm2:∀ b,Γ' b=.imm→Nj (Γ b)=false→Γ2 b=.imm:=fun b h1 h2=>by rw [g2 b (by rw [h2]; simp)]; exact h1
  refine ⟨Γ2,⟨fun g o hg=>?_,fun b b' g h1 h2=>hr.inj b b' g (ownI b g h1) (ownI b' g h2),fun b hb=>?_,fun b g hb=>hr.lt b g (ownI b g hb),r1.old,fun b hb=>?_,fun g hg b hb=>hr.dead g hg b (ownI b g hb)⟩,r2.mono fix2 own2,r3.mono fix2 own2 fun b n hb=>⟨?_,rfl⟩,
   ⟨r4.os,r4.tape,r4.output,r4.size,fix,own,fun b hb hk=>?_⟩,Nat.le_refl _,fun b g hb _=>ownI b g hb⟩
  ·have hold:=hr.objs g o hg
   cases o with
   | dead=>trivial
   | cells cs t =>
    obtain ⟨b,C,h1,h2,h3,h4⟩:=hold
    obtain ⟨k1,k2⟩:=keepL b (by rw [h1]; rfl)
    refine ⟨b,C,k1.trans h1,k2.trans h2,h3,fun i c hc=>?_⟩
    obtain ⟨a1,a2,a3⟩:=h4 i c hc
    refine ⟨a1,a2.mono fix own,a3.mono fix own fun b n hb=>?_⟩
    obtain ⟨k1,k2⟩:=keepL b (by rw [hb]; rfl)
    exact ⟨k1.trans hb,k2⟩
   | map es =>
    obtain ⟨b,ms,clk,h1,h2,h3,h4⟩:=hold
    obtain ⟨k1,k2⟩:=keepL b (by rw [h1]; rfl)
    exact ⟨b,ms,clk,k1.trans h1,k2.trans h2,h3,h4⟩
   | iter l pos =>
    obtain ⟨b,h1,h2⟩:=hold
    obtain ⟨k1,k2⟩:=keepL b (by rw [h1]; rfl)
    exact ⟨b,k1.trans h1,k2.trans h2⟩
   | buf _ _ _ =>
    obtain ⟨b,C,h1,h2,h3⟩:=hold
    obtain ⟨k1,k2⟩:=keepL b (by rw [h1]; rfl)
    refine ⟨b,C,k1.trans h1,k2.trans h2,h3.mono fun b n i hb=>?_⟩
    obtain ⟨k1,k2⟩:=keepL b (by rw [hb]; rfl)
    exact ⟨k1.trans hb,k2⟩
  ·refine imm2 b (r1.fresh b hb) ?_
   rw [hr.fresh b (Nat.le_trans r4.size hb)]; rfl
  ·refine imm2 b (r1.oldImm b hb) ?_
   rw [hr.oldImm b hb]; rfl
  ·by_cases hl:Nj (Γ b)=true
   ·have:=(lost b hl).1
    rw [hb] at this
    cases hg:Γ b with
    | imm=>simp [hg,Ja] at this
    | own g=>simp [hg,Ja] at this
    | list n l=>cases l <;> simp [hg,Ja] at this <;> (rw [hg] at hl; cases hl)
   ·rw [g2 b hl]; exact hb
  ·by_cases hl:Nj (Γ b)=true
   ·exact keepL b hl
   ·have hsame:=Zmo (by simpa using hl:Nj (Γ b)=false)
    obtain ⟨k1,k2⟩:=r4.keep b hb (by show Kept none (Ja (Γ b)); rw [hsame]; exact hk)
    exact ⟨by rw [g2 b hl,k1]; exact hsame,k2⟩
end Go.Proofs.YtgjcjbhhhlelnaaGreatDoor.Abs
end
section
namespace Go.Proofs.YtgjcjbhhhlelnaaGreatDoor.Abs
open Go Go.RowKit
section
variable {G:Nat→Option (List AV)}{call:FuncId→List AV→List Zm→Option (AV×List Zm×Eff)}
theorem Zo2 {s s':Zb}{ao:AOp}{v:AV}(h:Ze G call s ao=some (v,s')):s'.bs=s.bs:=by
 cases ao <;> simp only [Ze] at h <;> (repeat' split at h) <;> first
  | (cases h; done)
  | (obtain ⟨_,rfl⟩:=WV h; rfl)
  | (cases h; rfl)
  | (obtain ⟨x,_,e⟩:=Option.map_eq_some_iff.1 h; cases e; rfl)
theorem Ztk (s:Zb)(d:Option Nat)(v:AV):(s.put d v).bs=s.bs:=by cases d <;> rfl
theorem BN:∀ {l:List ZQ} {s s':Zb},ZJ G call l s=some s'→s'.bs=s.bs
 | [],s,s',h=>by cases h; rfl
 | o :: l,s,s',h=>by
  simp only [ZJ] at h
  split at h <;> first | (cases h; done) | skip
  rename_i s1 h1
  rw [BN h]
  simp only [Z8] at h1
  split at h1 <;> first | (cases h1; done) | skip
  ·split at h1 <;> first | (cases h1; done) | skip
   rename_i v s2 h2
   obtain rfl:=Option.some.inj h1
   rw [Ztk,Zo2 h2]
  ·obtain rfl:=Option.some.inj h1
   rw [Ztk]
theorem ZoR {f:Zb→Option (Ls×Zb)}(hf:∀ {s:Zb} {r:Ls×Zb},f s=some r→r.2.bs=s.bs):∀ (n:Nat) {s:Zb} {r:Ls×Zb},iter f n s=some r→r.2.bs=s.bs
 | 0,_,_,h=>by cases h
 | n + 1,s,r,h=>by
  simp only [iter] at h
  split at h
  ·rename_i s1 h1
   rw [ZoR hf n h]
   exact hf h1
  ·exact hf h
theorem Zjf (L:Nat):∀ {c:WP} {s:Zb} {r:Ls×Zb},Zz G call L c s=some r→r.2.bs=s.bs:=by
 intro c
 induction c with
 | skip=>intro s r h; cases h; rfl
 | region draw ops =>
  intro s r h
  cases draw with
  | false =>
   simp only [Zz] at h
   obtain ⟨s1,h1,rfl⟩:=Option.map_eq_some_iff.1 h
   exact BN h1
  | true =>
   simp only [Zz] at h
   obtain ⟨s1,h1,rfl⟩:=Option.map_eq_some_iff.1 h
   exact BN h1
 | regionB ops =>
  intro s r h
  simp only [Zz] at h
  obtain ⟨s1,h1,rfl⟩:=Option.map_eq_some_iff.1 h
  exact BN h1
 | seq x y ihx ihy =>
  intro s r h
  simp only [Zz] at h
  split at h
  ·rename_i s1 h1
   rw [ihy h]; exact ihx h1
  ·exact ihx h
 | cond c x y ihx ihy =>
  intro s r h
  simp only [Zz] at h
  split at h <;> first | (cases h; done) | skip
  ·exact ihx h
  ·exact ihy h
 | block id c ih =>
  intro s r h
  simp only [Zz] at h
  split at h
  ·rename_i i s1 h1
   have:=ih h1
   split at h <;> (obtain rfl:=Option.some.inj h; exact this)
  ·exact ih h
 | loop c ih =>
  intro s r h
  simp only [Zz] at h
  exact ZoR ih L h
 | scope c ih=>intro s r h; simp only [Zz] at h; exact ih h
 | exit id=>intro s r h; cases h; rfl
 | ret=>intro s r h; cases h; rfl
 | bad=>intro s r h; cases h
end
structure ZgD (P:Program)(W0:World)(C:Cfg):Prop where
 mixed:P.follows .mixedOrders=true
 globals:GOk C.G W0
 table:∀ f af,C.T f=some af→∃ fn takes,P.funcs[f]? = some fn∧(fn.name == "runtime.NumGoroutine")=false∧cFn P takes fn=some af
 oracle:Y8 P W0 C.O
theorem ZbV {P:Program}{f:FuncId}{fn:Func}{c:Code}(hf:P.funcs[f]? = some fn)(hn:(fn.name == "runtime.NumGoroutine")=false)(hb:fn.body=some c)(xs:Array Value)(w:World):(callFunc f xs).run P w=.ok (.enter f xs) w:=by
 have hn':¬ fn.name = "runtime.NumGoroutine" := by simpa using hn
 simp [callFunc,program,hf,hn',hb,Sem.run]
theorem PX {P:Program}{W0:World}{C:Cfg}(h:ZgD P W0 C):∀ n,Y8 P W0 (Zv C n):=by
 intro n
 induction n with
 | zero=>intro f args hp v hp' e hc; cases hc
 | succ n ih =>
  intro f args hp v hp' e hc Γ w xs hr ht hs hx
  simp only [Zv] at hc
  split at hc
  case h_2=>exact h.oracle f args hp v hp' e hc Γ w xs hr ht hs hx
  rename_i af haf
  obtain ⟨fn,takes,hf,hname,hcf⟩:=h.table f af haf
  unfold cFn at hcf
  split at hcf <;> first | (cases hcf; done) | skip
  rename_i c rs hb hrs
  obtain ⟨ac,hac,rfl⟩:=Option.map_eq_some_iff.1 hcf
  split at hc
  ·cases hc
  ·rename_i x s hne hev
   split at hc <;> first | (cases hc; done) | skip
   rename_i u hu
   have hfin:=Option.some.inj hc
   refine ⟨ZbV hf hname hb xs w,?_⟩
   have hbs:s.bs=hp.length:=Zjf C.L hev
   have hI:Inv ⟨W0,Γ,w⟩ ⟨args ++ List.replicate (fn.ntmps - args.length) .undef,hp,none,hp.length⟩ Γ { tmps := xs ++ Array.replicate (fn.ntmps - xs.size) Go.undef,defers := [] } w:=by
    have get:∀ (t:Nat) (y:AV),(args ++ List.replicate (fn.ntmps - args.length) AV.undef)[t]? = some y→(args[t]? = some y∧(xs ++ Array.replicate (fn.ntmps - xs.size) Go.undef).getD t Go.undef=xs.getD t Go.undef)∨(y=.undef∧(xs ++ Array.replicate (fn.ntmps - xs.size) Go.undef).getD t Go.undef=Go.undef):=by
     intro t y hy
     rw [List.getElem?_append] at hy
     split at hy
     ·rename_i hlt
      refine .inl ⟨hy,?_⟩
      rw [Array.getD_eq_getD_getElem?,Array.getD_eq_getD_getElem?,Array.getElem?_append_left (by omega)]
     ·rename_i hge
      have hm:=List.mem_of_getElem? hy
      have:=List.eq_of_mem_replicate hm
      refine .inr ⟨this,?_⟩
      have hlt:=Zx hy
      simp only [List.length_replicate] at hlt
      rw [Array.getD_eq_getD_getElem?,Array.getElem?_append_right (by omega),Array.getElem?_replicate,if_pos (by omega)]
      rfl
    refine ⟨rfl,⟨by simp [hs],fun t y hy=>?_,fun t y hy=>?_⟩,hr,.refl _ _ _,fun b g hb=>hr.lt b g hb,fun b m g i hb=>ht.cell b m g i hb,Nat.le_refl _,fun _ _ hb _=>hb⟩
    ·rcases get t y hy with ⟨h1,h2⟩ | ⟨rfl,h2⟩
     ·rw [h2]; exact (hx t y h1).1
     ·rw [h2]; exact .undef
    ·rcases get t y hy with ⟨h1,h2⟩ | ⟨rfl,h2⟩
     ·rw [h2]; exact (hx t y h1).2
     ·exact .of_ne (by simp)
   have hw:=ZtL h.mixed h.globals ih (ZnR ih) C.L hac hev hI
   refine calls_of_wp hf hb (Go.wp_mono hw fun en a' w' he=>?_)
   obtain ⟨k1,Γ',i1⟩:=he
   have fin:a'.defers=[]∧∃ cv,(results fn a'.tmps).run P w'=.ok cv w'∧∃ v',Ending.returned cv=.returned v'∧∃ Γ',RW W0 Γ' w' hp'∧Rep Γ' w' v v'∧OwnAt Γ' w' .res v v'∧Frame Γ w Γ' w' e∧hp.length≤hp'.length∧∀ b g,Γ' b=.own g→g < hp.length→Γ b=.own g:=by
    obtain ⟨cv,Γ2,q1,q2,q3,q4,q5,q6⟩:=ZxL i1 hrs hu
    obtain ⟨Γ3,p1,p2,p3,p4,p5⟩:=Zhg hr hbs (by rw [hbs]; have:=i1.le; simpa [hbs] using this) (fun b m g i hb=>by rw [hbs]; exact ht.cell b m g i hb) q2 q3 q6 q4 q5 hfin
    exact ⟨i1.defers,cv,q1,cv,rfl,Γ3,p1,p2,p3,p4,p5⟩
   cases x with
   | exit i=>exact (hne i rfl).elim
   | normal=>cases en <;> first | exact k1.elim | exact fin
   | ret=>cases en <;> first | exact k1.elim | exact fin
  ·cases hc
end Go.Proofs.YtgjcjbhhhlelnaaGreatDoor.Abs
end
section
namespace Go.Proofs.YtgjcjbhhhlelnaaGreatDoor.Abs
open Go Go.RowKit
def still:ZF:=fun _=>.imm
theorem ZlZ (W:World):RW W still W [] :=
 ⟨fun g o hg=>by simp at hg,fun b b' g h=>(by cases h),fun _ _=>rfl,fun b g h=>(by cases h),⟨rfl,rfl,rfl,Nat.le_refl _,fun _ _=>rfl⟩,fun _ _=>rfl,fun g hg=>by simp at hg⟩
theorem ZeZ:Tidy still 0:=⟨fun _ _ h=>(by cases h),fun _ _ _ h=>(by cases h),fun _ _ _ _ h=>(by cases h)⟩
theorem ZsW {P:Program}{W:World}{C:Cfg}(h:ZgD P W C){n:Nat}{f:FuncId}{avs:List AV}{hp:List Zm}{e:Eff}(hev:Zv C n f avs []=some (.bool true,hp,e)){args:Array Value}
  (hs:args.size=avs.length) (hr:∀ (j:Nat) (x:AV),avs[j]? = some x→Rep still W x (args.getD j Go.undef)∧∀ k r,x≠.own k r) :
  Calls P f args W fun e W'=>e=.returned (.bool true)∧Below W.heap.size W W':=by
 obtain ⟨_,hw⟩:=PX h n f avs [] _ _ _ hev still W args (ZlZ W) ZeZ hs fun j x hx=>⟨(hr j x hx).1,.of_ne (hr j x hx).2⟩
 refine hw.mono fun en W' ⟨cv,hv,Γ',r1,r2,_,r4,_⟩=>?_
 subst hv
 cases r2
 exact ⟨rfl,r4.os,r4.tape,r4.output,r4.size,fun b hb=>(r4.keep b hb trivial).2⟩
end Go.Proofs.YtgjcjbhhhlelnaaGreatDoor.Abs
end
section
namespace Go.Proofs.YtgjcjbhhhlelnaaGreatDoor.Abs
open Go Go.RowKit
def ZaT (P:Program)(W0:World)(f:FuncId)(args:List AV)(v:AV):Prop :=
 (∀ k r,v≠.own k r)∧∀ (Γ:ZF) (w:World) (xs:Array Value),Below W0.heap.size W0 w→(∀ b,w.heap.size≤b→Γ b=.imm)→xs.size=args.length→(∀ (j:Nat) (x:AV),args[j]? = some x→Rep Γ w x (xs.getD j Go.undef)) →
  Zt0 P f xs w fun cv w'=>Below w.heap.size w w'∧Rep Γ w' v cv
theorem Ha {P:Program}{W0:World}{O:FuncId→List AV→Option AV}(h:∀ f args v,O f args=some v→ZaT P W0 f args v) :
  Y8 P W0 fun f args hp=>(O f args).map fun v=>(v,hp,none):=by
 intro f args hp v hp' e ho Γ w xs hr _ hs hx
 obtain ⟨u,hu,e1⟩:=Option.map_eq_some_iff.1 ho
 cases e1
 obtain ⟨hown,hrun⟩:=h f args v hu
 refine (hrun Γ w xs hr.old hr.fresh hs fun j x hj=>(hx j x hj).1).mono fun cv w' ⟨hb,hv⟩=>?_
 have st:Step Γ w Γ w' fun _=>False:=⟨hb.os,hb.tape,hb.output,hb.size,fun b hbl _=>⟨rfl,hb.block b hbl⟩,fun b o v h1 h2=>⟨h1,(Rn (hb.block b (lt_of_cell h2))).trans h2⟩,.refl _⟩
 obtain ⟨o1,o2⟩:=Oh hr.old hr.oldImm st fun _ hx=>hx.elim
 refine ⟨Γ,⟨fun g o hg=>(hr.objs g o hg).step st hr.fresh (fun _ hx=>hx.elim) (fun _ _ _ hx=>hx.elim),hr.inj,fun b hbl=>hr.fresh b (Nat.le_trans hb.size hbl),hr.lt,o1,o2,hr.dead⟩,hv,.of_ne hown,⟨hb.os,hb.tape,hb.output,hb.size,st.fix,.refl _,fun b hbl _=>⟨rfl,hb.block b hbl⟩⟩,Nat.le_refl _,fun _ _ hb _=>hb⟩
theorem Af {P:Program}{f:FuncId}{fn:Func}{c:Code}{xs:Array Value}{w:World}{R:Value→World→Prop}(hf:P.funcs[f]? = some fn)(hn:(fn.name == "runtime.NumGoroutine")=false)(hb:fn.body=some c)
  (h:Calls P f xs w fun e w'=>∃ v,e=.returned v∧R v w'):Zt0 P f xs w R:=⟨ZbV hf hn hb xs w,h⟩
end Go.Proofs.YtgjcjbhhhlelnaaGreatDoor.Abs
end
section
namespace Go.Proofs.YtgjcjbhhhlelnaaGreatDoor.Abs
open Go
inductive KV where
 | raw (v:AV)
 | cln (v:AV)
def KV.val:KV→AV
 | .raw v=>v
 | .cln v=>v
def KV.rd:KV→AV
 | .raw v=>v.ro
 | .cln v=>v
abbrev Du {α:Type}(b:Bool)(x y:α):α :=
 match b with
 | true=>x
 | false=>y
abbrev Env:=Nat→KV
def Env.set (e:Env)(t:Nat)(v:KV):Env:=fun u=>Du (Nat.beq u t) v (e u)
def Env.put (e:Env)(d:Option Nat)(v:KV):Env :=
 match d with
 | some d=>e.set d v
 | none=>e
abbrev KR:=Option (AV×List Zm×Eff)
abbrev IW:=Env→List Zm→Eff→KR
abbrev rdK {α:Type}(x:Option α)(k:α→KR):KR :=
 match x with
 | some v=>k v
 | none=>none
def YV {α:Type}(x:Option α)(k:α→KR):KR :=
 match x with
 | some v=>k v
 | none=>none
def Zd0 {α β:Type}(x:Option (α×β))(k:α→β→KR):KR :=
 match x with
 | some (a,b)=>k a b
 | none=>none
def Ik {α β γ:Type}(x:Option (α×β×γ))(k:α→β→γ→KR):KR :=
 match x with
 | some (a,b,c)=>k a b c
 | none=>none
def ifK (v:AV)(a b:KR):KR :=
 match v with
 | .bool true=>a
 | .bool false=>b
 | _=>none
def Pm (want:Bool):AV→Option Bool
 | .bool b=>some (b == want)
 | .undef=>some false
 | _=>none
def Pn (g:Option Bool)(x:KR)(hp:List Zm)(ef:Eff)(k:AV→List Zm→Eff→KR):KR :=
 match g with
 | some true=>Ik x k
 | some false=>k .undef hp ef
 | none=>none
def ZsT (g:Option Bool)(a b:KR):KR :=
 match g with
 | some true=>a
 | some false=>b
 | none=>none
def Zf1 (c:AV)(want:Bool)(x:KR)(other:Option AV)(hp:List Zm)(ef:Eff)(k:AV→List Zm→Eff→KR):KR :=
 match c with
 | .bool b=>match b == want with
  | true=>Ik x k
  | false=>YV other fun v=>k v hp ef
 | _=>none
def ZvG {α:Type}(x:α)(k:α→KR):KR:=k x
def Nl (bs:Nat)(ef:Eff)(g v:Nat):Eff:=if g < bs then Eff.or ef (some (g,v)) else ef
def Gy (bs:Nat)(ef:Eff):Eff→Eff
 | some (a,b)=>if a < bs then Eff.or ef (some (a,b)) else ef
 | none=>ef
def ZdK (c a b:AV):Option AV :=
 match c with
 | .bool true=>some a
 | .bool false=>some b
 | _=>none
def ZsJ (n:Nat)(v:AV):Option (List AV):=if v.cells.length=n∧v.laid=true then some v.cells else none
def ZvI (e:TypeId)(k:Nat)(vs:List AV)(hp:List Zm):Option (AV×List Zm) :=
 if vs.all (fun v=>v.cells.length == k && v.cells.all AV.noId1) then some (.own k (vs.map fun v=>v.cells.map AV.ro),hp)
 else if vs.all (fun v=>v.cells.length == k && v.laid) then some (.arr hp.length 0 vs.length k,hp ++ [.cells (vs.map AV.cells).flatten e]) else none
def ZwJ (e:TypeId)(k:Nat)(vs:List AV)(hp:List Zm):Option (AV×List Zm) :=
 if vs.all (fun v=>v.cells.length == k && v.laid) then some (.arr hp.length 0 vs.length k,hp ++ [.cells (vs.map AV.cells).flatten e]) else none
def Z0b (bs:Nat)(p:AV)(hp:List Zm)(ef:Eff):Option (AV×List Zm×Eff) :=
 match p with
 | .ptr g o=>match hp[g]? with
  | some (.cells cs t)=>match cs[o]? with
   | some v=>some (v.up,hp.set g (.cells (cs.set o v.ro) t),Nl bs ef g 0)
   | none=>none
  | _=>none
 | _=>none
def stV (bs n:Nat)(p v:AV)(hp:List Zm)(ef:Eff):Option (List Zm×Eff) :=
 match p with
 | .ptr g o=>match hp[g]? with
  | some (.cells cs t)=>if v.cells.length=n∧o + n≤cs.length∧v.laid=true then some (hp.set g (.cells (splice cs o v.cells) t),Nl bs ef g 0) else none
  | _=>none
 | _=>none
def Zq6 (bs:Nat)(p v:AV)(hp:List Zm)(ef:Eff):Option (List Zm×Eff) :=
 match p with
 | .ptr g o=>match hp[g]? with
  | some (.cells cs t)=>if v.one=true∧o < cs.length then some (hp.set g (.cells (cs.set o v) t),Nl bs ef g 0) else none
  | _=>none
 | _=>none
def ZfH:AV→Option AV
 | .ref c=>some (.ref c)
 | .ptr g o=>some (.ptr g o)
 | .fn f a c=>some (.fn f a c)
 | _=>none
def Zh1 (e:TypeId)(zero:List AV)(n:AV)(hp:List Zm):Option (AV×List Zm) :=
 match n with
 | .int _ n=>if 0≤n∧n≤4294967296 then some (.arr hp.length 0 n.toNat zero.length,hp ++ [.cells (List.flatten (List.replicate n.toNat zero)) e]) else none
 | _=>none
def ZwX (bs:Nat)(sh:KSh)(m k v:AV)(hp:List Zm)(ef:Eff):Option (List Zm×Eff) :=
 match m with
 | .map g=>match hp[g]? with
  | some (.map es)=>if Ij sh k && v.flat1 then match update sh k v es with
    | some es'=>some (hp.set g (.map es'),Nl bs ef g 0)
    | none=>none
   else none
  | _=>none
 | _=>none
def Ztm (x:AV)(hp:List Zm):Option (AV×List Zm) :=
 match x with
 | .str b=>some (.ptr hp.length 0,hp ++ [.iter b 0])
 | _=>none
def ZwY (bs:Nat)(x:AV)(hp:List Zm)(ef:Eff):Option (AV×List Zm×Eff) :=
 match x with
 | .ptr g 0=>match hp[g]? with
  | some (.iter b pos)=>if pos < b.length then
    some (.tup [.bool true,.int .i64 pos,.int .i32 (Utf8.decode ⟨b.toArray⟩ pos).1],hp.set g (.iter b (pos + (Utf8.decode ⟨b.toArray⟩ pos).2)),Nl bs ef g 0)
   else some (.tup [.bool false],hp,ef)
  | _=>none
 | _=>none
def XW (x:AV)(i:Nat):Option AV :=
 match x with
 | .tup vs=>(vs[i]?).map AV.ro
 | _=>none
def ZzZ (k bytes:Nat)(s x:AV)(hp:List Zm):Option AV :=
 match s with
 | .own k' r=>match rowsOf hp x with
  | some (k'',r')=>if k=k'∧k=k''∧r'.all (·.all AV.noId1)∧(r.length + r'.length) * bytes≤140737488355328 then some (.own k (r ++ r')) else none
  | none=>none
 | _=>none
def ZvZ (bytes:Nat)(s x:AV):Option AV :=
 match s,x with
 | .own k r,.str l=>if k=1∧(r.length + l.length) * bytes≤140737488355328 then some (.own 1 (r ++ l.map byteRow)) else none
 | _,_=>none
def ZvY (k bytes:Nat)(x:AV)(hp:List Zm):Option AV :=
 match rowsOf hp x with
 | some (k'',r')=>if k=k''∧r'.all (·.all AV.noId1)∧r'.length * bytes≤140737488355328 then some (.own k r') else none
 | none=>none
def copyV (bs k:Nat)(d x:AV)(hp:List Zm)(ef:Eff):Option (AV×List Zm×Eff) :=
 match d with
 | .arr g off len k''=>match rowsOf hp x,hp[g]? with
  | some (k',r),some (.cells cs t)=>if k=k'∧k=k''∧off + Nat.min r.length len * k≤cs.length∧((r.take (Nat.min r.length len)).flatten.map AV.ro).all AV.one=true then
    some (.int .i64 (Nat.min r.length len:Nat),hp.set g (.cells (splice cs off ((r.take (Nat.min r.length len)).flatten.map AV.ro)) t),Nl bs ef g 0) else none
  | _,_=>none
 | .lst _ []=>match rowsOf hp x with
  | some (k',_)=>if k=k' then some (.int .i64 0,hp,ef) else none
  | none=>none
 | _=>none
def Zuu:List AV→Option AV
 | .int .i64 n :: l=>(minL n l).map fun n=>.int .i64 n
 | _=>none
def Zut:List AV→Option AV
 | .int .i64 n :: l=>(maxL n l).map fun n=>.int .i64 n
 | _=>none
def Zwg (K:FuncId→List AV→List Zm→KR)(f:AV)(vs:List AV)(hp:List Zm):KR :=
 match f with
 | .fn f first caps=>K f (first.map AV.nm ++ vs ++ caps.map AV.nm) hp
 | _=>none
def J7:List Nat→Nat→Bool
 | [],_=>true
 | u :: l,t=>Du (Nat.beq u t) false (J7 l t)
def rm (d:Nat):List Nat→List Nat
 | []=>[]
 | u :: l=>Du (Nat.beq u d) (rm d l) (u :: rm d l)
def rmO (d:Option Nat)(P:List Nat):List Nat :=
 match d with
 | some d=>rm d P
 | none=>P
def XJ:AOp→Bool
 | .take _ | .stt .. | .app .. | .apps .. => true
 | .call _ args=>args.any fun
  | .inl _=>true
  | .inr _=>false
 | _=>false
def QU (N t:Nat)(want:Bool)(P:List Nat):List Nat→List ZQ→Nat
 | _,[]=>0
 | ds,o :: l=>match o.guard,o.dst with
  | some (u,w),some d =>
   Du (((Nat.beq u t && (w == want)) || !J7 ds u) && !Nat.beq d t && !J7 P d && !XJ o.op && Nat.blt d N) (QU N t want P (d :: ds) l + 1) 0
  | _,_=>0
def inA (t:Nat)(w:Bool):List (Nat×Bool)→Bool
 | []=>false
 | (u,v) :: l=>Du (Nat.beq u t && (v == w)) true (inA t w l)
section
variable (G:Nat→Option (List AV))(N bs:Nat)(P:List Nat)
def WM (e:Env):Yt→Option AV
 | .tmp t=>Du ((Nat.blt t N && J7 P t)) (some (e t).rd) (none)
 | .const v=>some v
 | .glob g=>(G g).map .ref
def Pq (e:Env):List Yt→Option (List AV)
 | []=>some []
 | x :: l=>match WM G N P e x with
  | some v=>match Pq e l with
   | some vs=>some (v :: vs)
   | none=>none
  | none=>none
def Zba (e:Env):Option Yt→Option (Option AV)
 | none=>some none
 | some x=>match WM G N P e x with
  | some v=>some (some v)
  | none=>none
def mvK (e:Env)(x:Yt)(k:KV→KR):KR :=
 match x with
 | .tmp t=>Du ((Nat.blt t N && J7 P t)) (k (.cln (e t).rd)) none
 | .const v=>k (.raw v)
 | .glob g=>YV (G g) fun c=>k (.cln (.ref c))
def Zfe:Env→List (Nat ⊕ Yt)→Option (List AV×Env)
 | e,[]=>some ([],e)
 | e,.inl t :: l=>Du ((Nat.blt t N && J7 P t)) (match Zfe (e.set t (.cln (e t).rd)) l with
  | some (vs,e')=>some ((e t).val :: vs,e')
  | none=>none) none
 | e,.inr x :: l=>match WM G N P e x with
  | some v=>match Zfe e l with
   | some (vs,e')=>some (v :: vs,e')
   | none=>none
  | none=>none
variable (K:FuncId→List AV→List Zm→KR)
def opK (e:Env)(hp:List Zm)(ef:Eff)(op:AOp)(k:KV→Env→List Zm→Eff→KR):KR :=
 match op with
 | .bad=>none
 | .mv x=>mvK G N P e x fun v=>k v e hp ef
 | .take t=>Du ((Nat.blt t N && J7 P t)) (k (e t) (e.set t (.cln (e t).rd)) hp ef) none
 | .pick c a b=>rdK (WM G N P e c) fun c=>rdK (WM G N P e a) fun a=>rdK (WM G N P e b) fun b=>YV (ZdK c a b) fun v=>k (.raw v) e hp ef
 | .mk t cells=>k (.cln (.ptr hp.length 0)) e (hp ++ [.cells cells t]) ef
 | .box t n x=>rdK (WM G N P e x) fun v=>YV (ZsJ n v) fun cs=>k (.cln (.ptr hp.length 0)) e (hp ++ [.cells cs t]) ef
 | .build zero parts=>rdK (Pq G N P e (parts.map (·.2.2))) fun vs=>YV (fill zero ((parts.zip vs).map fun (p,v)=>(p.1,p.2.1,v.nm))) fun cs=>k (.cln (.agg cs)) e hp ef
 | .lit t n parts=>rdK (Pq G N P e parts) fun vs=>Zd0 (ZvI t n vs hp) fun v hp'=>k (.raw v) e hp' ef
 | .lita t n parts=>rdK (Pq G N P e parts) fun vs=>Zd0 (ZwJ t n vs hp) fun v hp'=>k (.raw v) e hp' ef
 | .ldc p=>rdK (WM G N P e p) fun p=>YV (Y1 hp p) fun v=>k (.cln v) e hp ef
 | .lda n p=>rdK (WM G N P e p) fun p=>YV (XF hp n p) fun v=>k (.cln v) e hp ef
 | .ldt p=>rdK (WM G N P e p) fun p=>Ik (Z0b bs p hp ef) fun v hp' ef'=>k (.raw v) e hp' ef'
 | .st n p x=>rdK (WM G N P e p) fun p=>rdK (WM G N P e x) fun v=>Zd0 (stV bs n p v hp ef) fun hp' ef'=>k (.cln .undef) e hp' ef'
 | .stt p t=>rdK (WM G N P e p) fun p=>Du ((Nat.blt t N && J7 P t)) (Zd0 (Zq6 bs p (e t).val hp ef) (fun hp' ef'=>k (.cln .undef) (e.set t (.cln (e t).rd)) hp' ef')) none
 | .nilchk x=>rdK (WM G N P e x) fun x=>YV (ZfH x) fun v=>k (.cln v) e hp ef
 | .bin op sh x y=>rdK (WM G N P e x) fun a=>rdK (WM G N P e y) fun b=>YV (ZM op sh a b) fun v=>k (.cln v) e hp ef
 | .un op x=>rdK (WM G N P e x) fun a=>YV (Zdn op a) fun v=>k (.cln v) e hp ef
 | .conv c x=>rdK (WM G N P e x) fun a=>YV (XD hp c a) fun v=>k (.cln v) e hp ef
 | .mkfn f first caps=>rdK (Pq G N P e first) fun us=>rdK (Pq G N P e caps) fun vs=>k (.cln (.fn f us vs)) e hp ef
 | .mkmap=>k (.cln (.map hp.length)) e (hp ++ [.map []]) ef
 | .mksl t zero n=>rdK (WM G N P e n) fun n=>Zd0 (Zh1 t zero n hp) fun v hp'=>k (.cln v) e hp' ef
 | .slice sh x lo hi=>rdK (WM G N P e x) fun x=>rdK (Zba G N P e lo) fun lo=>rdK (Zba G N P e hi) fun hi=>YV (Xy sh x lo hi) fun v=>k (.cln v) e hp ef
 | .slice3 sh x hi mx=>rdK (WM G N P e x) fun x=>rdK (WM G N P e hi) fun hi=>rdK (WM G N P e mx) fun mx=>YV (EO sh x hi mx) fun v=>k (.cln v) e hp ef
 | .fa off x=>rdK (WM G N P e x) fun x=>YV (KD off x) fun v=>k (.cln v) e hp ef
 | .fld off n agg x=>rdK (WM G N P e x) fun x=>YV (CX off n agg x) fun v=>k (.cln v) e hp ef
 | .ia sh x i=>rdK (WM G N P e x) fun x=>rdK (WM G N P e i) fun i=>YV (V8 sh x i) fun v=>k (.cln v) e hp ef
 | .idx x i=>rdK (WM G N P e x) fun x=>rdK (WM G N P e i) fun i=>YV (Zci x i) fun v=>k (.cln v) e hp ef
 | .look sh zero x i ok=>rdK (WM G N P e x) fun x=>rdK (WM G N P e i) fun i=>YV (Zcq hp sh zero x i ok) fun v=>k (.raw v) e hp ef
 | .mupd sh m i v=>rdK (WM G N P e m) fun m=>rdK (WM G N P e i) fun i=>rdK (WM G N P e v) fun v=>Zd0 (ZwX bs sh m i v hp ef) fun hp' ef'=>k (.cln .undef) e hp' ef'
 | .range x=>rdK (WM G N P e x) fun x=>Zd0 (Ztm x hp) fun v hp'=>k (.cln v) e hp' ef
 | .next x=>rdK (WM G N P e x) fun x=>Ik (ZwY bs x hp ef) fun v hp' ef'=>k (.cln v) e hp' ef'
 | .extract x i=>rdK (WM G N P e x) fun x=>YV (XW x i) fun v=>k (.cln v) e hp ef
 | .len sh x=>rdK (WM G N P e x) fun x=>YV (Xf hp sh x) fun v=>k (.cln v) e hp ef
 | .app n bytes t x=>Du ((Nat.blt t N && J7 P t)) (rdK (WM G N P e x) (fun x=>YV (ZzZ n bytes (e t).val x hp) fun v=>k (.raw v) (e.set t (.cln (e t).rd)) hp ef)) none
 | .apps bytes t x=>Du ((Nat.blt t N && J7 P t)) (rdK (WM G N P e x) (fun x=>YV (ZvZ bytes (e t).val x) fun v=>k (.raw v) (e.set t (.cln (e t).rd)) hp ef)) none
 | .appn n bytes x=>rdK (WM G N P e x) fun x=>YV (ZvY n bytes x hp) fun v=>k (.raw v) e hp ef
 | .copy n d x=>rdK (WM G N P e d) fun d=>rdK (WM G N P e x) fun x=>Ik (copyV bs n d x hp ef) fun v hp' ef'=>k (.cln v) e hp' ef'
 | .min xs=>rdK (Pq G N P e xs) fun vs=>YV (Zuu vs) fun v=>k (.cln v) e hp ef
 | .max xs=>rdK (Pq G N P e xs) fun vs=>YV (Zut vs) fun v=>k (.cln v) e hp ef
 | .call f args=>rdK (WM G N P e f) fun f=>rdK (Zfe G N P e args) fun p=>Ik (Zwg K f p.1 hp) fun v hp' ef'=>k (.raw v) p.2 hp' (Gy bs ef ef')
def ZuJ (A:List (Nat×Bool))(o:ZQ)(e:Env)(hp:List Zm)(ef:Eff)(k:IW):KR :=
 match o.guard with
 | none=>opK G N bs P K e hp ef o.op fun v e' hp' ef'=>k (e'.put o.dst v) hp' ef'
 | some (t,want)=>Du (inA t want A) (opK G N bs P K e hp ef o.op fun v e' hp' ef'=>k (e'.put o.dst v) hp' ef') (Du (Nat.blt t N && J7 P t)
   (Du (XJ o.op)
    (ZsT (Pm want (e t).val) (opK G N bs P K e hp ef o.op fun v e' hp' ef'=>k (e'.put o.dst v) hp' ef') (k (e.put o.dst (.cln .undef)) hp ef))
    (Pn (Pm want (e t).val) (opK G N bs P K e hp ef o.op fun v _ hp' ef'=>some (v.val,hp',ef')) hp ef fun v hp' ef'=>k (e.put o.dst (.raw v)) hp' ef'))
   none)
end
section
variable (G:Nat→Option (List AV))(N bs:Nat)(K:FuncId→List AV→List Zm→KR)
def ZoG (A:List (Nat×Bool))(P:List Nat)(ops:List ZQ):Option (Nat×Bool×Nat×Option Nat×Yt×Yt×List ZQ) :=
 match ops with
 | []=>none
 | o :: l=>match o.guard with
  | none=>none
  | some (t,want)=>Du (inA t want A) none
   (match (o :: l).drop (QU N t want P [] (o :: l)) with
   | ⟨d,.pick (.tmp u) a b,none⟩ :: rest=>Du (Nat.beq u t && Nat.blt t N && J7 P t && Nat.blt 0 (QU N t want P [] (o :: l))) (some (t,want,QU N t want P [] (o :: l),d,a,b,rest)) none
   | ⟨d,.pick (.tmp u) a b,some (gt,gw)⟩ :: rest=>Du (inA gt gw A && Nat.beq u t && Nat.blt t N && J7 P t && Nat.blt 0 (QU N t want P [] (o :: l))) (some (t,want,QU N t want P [] (o :: l),d,a,b,rest)) none
   | _=>none)
def Zo4:Nat→List (Nat×Bool)→List Nat→List ZQ→List Nat
 | 0,_,P,_=>P
 | _ + 1,_,P,[]=>P
 | n + 1,A,P,o :: l=>match ZoG N A P (o :: l) with
  | some (_,_,_,d,_,_,rest)=>Zo4 n A (rmO d P) rest
  | none=>Zo4 n A (rmO o.dst P) l
def ZlD:Nat→List (Nat×Bool)→List Nat→List ZQ→IW→IW
 | _,_,_,[],k=>k
 | 0,_,_,_ :: _,_=>fun _ _ _=>none
 | n + 1,A,P,o :: l,k=>match ZoG N A P (o :: l) with
  | some (t,want,m,d,a,b,rest)=>fun e hp ef=>Zf1 (e t).val want
    (ZlD n ((t,want) :: A) P ((o :: l).take m) (fun e' hp' ef'=>rdK (WM G N (Zo4 N n ((t,want) :: A) P ((o :: l).take m)) e' (Du want a b)) fun v=>some (v,hp',ef')) e hp ef)
    (WM G N P e (Du want b a)) hp ef fun v hp' ef'=>ZlD n A (rmO d P) rest k (e.put d (.raw v)) hp' ef'
  | none=>fun e hp ef=>ZuJ G N bs P K A o e hp ef (ZlD n A (rmO o.dst P) l k)
def Zr4 (id:Nat):List (Nat×IW)→IW
 | []=>fun _ _ _=>none
 | (i,k) :: l=>Du (Nat.beq i id) (k) (Zr4 id l)
def Dz (F:IW→IW):Nat→IW
 | 0=>fun _ _ _=>none
 | n + 1=>F (Dz F n)
variable (P:List Nat)(L:Nat)
def WA:WP→IW→IW→List (Nat×IW)→IW
 | .skip,n,_,_=>n
 | .region false ops,n,_,_=>ZlD G N bs K ops.length [] P ops n
 | .region true ops,n,_,_=>ZlD G N bs (Wj K) ops.length [] P ops n
 | .regionB ops,n,_,_=>ZlD G N bs (Yp K) ops.length [] P ops n
 | .seq a b,n,r,xs=>WA a (WA b n r xs) r xs
 | .cond c a b,n,r,xs=>fun e hp ef=>rdK (WM G N P e c) fun v=>ifK v (WA a n r xs e hp ef) (WA b n r xs e hp ef)
 | .block id c,n,r,xs=>WA c n r ((id,n) :: xs)
 | .loop c,_,r,xs=>Dz (fun n'=>WA c n' r xs) L
 | .scope c,n,r,xs=>WA c n r xs
 | .exit id,_,_,xs=>Zr4 id xs
 | .ret,_,r,_=>r
 | .bad,_,_,_=>fun _ _ _=>none
end
def Zyx (e:Env)(N:Nat)(P:List Nat)(hp:List Zm):Zdy→Option AV
 | .tmp t=>Du ((Nat.blt t N && J7 P t)) (some (e t).val) (none)
 | .one t=>Du ((Nat.blt t N && J7 P t)) (Y1 hp (e t).val) (none)
 | .agg t n=>Du ((Nat.blt t N && J7 P t)) (XF hp n (e t).val) (none)
def Zsu (e:Env)(N:Nat)(P:List Nat)(hp:List Zm):List Zdy→(List AV→KR)→KR
 | [],k=>k []
 | r :: l,k=>rdK (Zyx e N P hp r) fun v=>Zsu e N P hp l fun vs=>k (v.nm :: vs)
def Zkw (e:Env)(N:Nat)(P:List Nat)(hp:List Zm):List Zdy→(AV→KR)→KR
 | [r],k=>rdK (Zyx e N P hp r) k
 | rs,k=>Zsu e N P hp rs fun vs=>k (.tup vs)
def ZdB (keep:Bool)(hp0:List Zm)(v:AV)(hp:List Zm)(ef:Eff):AV×List Zm×Eff :=
 bif keep then (v.nm,hp,ef) else finish v ⟨[],hp,ef,hp0.length⟩ hp0
def Tu (P:List Nat)(fn:AFn)(hp0:List Zm):IW:=fun e hp ef=>Zkw e fn.ntmps P hp fn.results fun v=>some (ZdB fn.keep hp0 v hp ef)
def ZsG:List AV→Env
 | []=>fun _=>.raw .undef
 | v :: l=>fun t=>match t with
  | 0=>.raw v
  | t + 1=>ZsG l t
def fnK (G:Nat→Option (List AV))(K:FuncId→List AV→List Zm→KR)(P:List Nat)(L:Nat)(fn:AFn)(args:List AV)(hp:List Zm):KR :=
 WA G fn.ntmps hp.length K P L fn.code (Tu P fn hp) (Tu P fn hp) [] (ZsG args) hp none
end Go.Proofs.YtgjcjbhhhlelnaaGreatDoor.Abs
end
section
namespace Go.Proofs.YtgjcjbhhhlelnaaGreatDoor.Abs
open Go
theorem Yk {α:Type}{x:Option α}{k:α→KR}{r:AV×List Zm×Eff}(h:YV x k=some r):∃ v,x=some v∧k v=some r:=by
 cases x with
 | none=>cases h
 | some v=>exact ⟨v,rfl,h⟩
theorem GG {α β:Type}{x:Option (α×β)}{k:α→β→KR}{r:AV×List Zm×Eff}(h:Zd0 x k=some r):∃ a b,x=some (a,b)∧k a b=some r:=by
 cases x with
 | none=>cases h
 | some v=>exact ⟨v.1,v.2,rfl,h⟩
theorem Rw {α β γ:Type}{x:Option (α×β×γ)}{k:α→β→γ→KR}{r:AV×List Zm×Eff}(h:Ik x k=some r):∃ a b c,x=some (a,b,c)∧k a b c=some r:=by
 cases x with
 | none=>cases h
 | some v=>exact ⟨v.1,v.2.1,v.2.2,rfl,h⟩
theorem Eb {α:Type}(x y:α):Du true x y=x:=rfl
theorem BJ {α:Type}(x y:α):Du false x y=y:=rfl
theorem Z9 {α:Type}{x:Option α}{k:α→KR}{r:AV×List Zm×Eff}(h:rdK x k=some r):∃ v,x=some v∧k v=some r:=by
 cases x with
 | none=>cases h
 | some v=>exact ⟨v,rfl,h⟩
theorem Jb {α:Type}{b:Bool}{x:Option α}{r:α}(h:Du b x none=some r):b=true∧x=some r:=by
 cases b with
 | false=>cases h
 | true=>exact ⟨rfl,h⟩
def ZiM (v:KV):Prop:=v.val.ro=v.rd
theorem Ru (v:AV):ZiM (.raw v):=rfl
theorem Ku {v:AV}(h:v.ro=v):ZiM (.cln v):=h
theorem Zio (v:AV):v.ro.ro=v.ro:=by cases v <;> rfl
theorem ZwE {v:KV}(h:ZiM v):ZiM (.cln v.rd):=by
 show v.rd.ro=v.rd
 rw [← h,Zio]
theorem G9:∀ {P:List Nat} {t:Nat},J7 P t=true↔t ∉ P
 | [],t=>by simp [J7]
 | u :: l,t=>by
  simp only [J7,List.mem_cons,not_or]
  cases hb:Nat.beq u t with
  | true =>
   have:=Nat.eq_of_beq_eq_true hb
   subst this
   simp
  | false =>
   have:t≠u:=fun h=>by subst h; rw [Nat.beq_refl] at hb; cases hb
   simp [this,← G9]
theorem Zl6:∀ {P:List Nat} {d t:Nat},t ∈ rm d P↔t ∈ P∧t≠d
 | [],d,t=>by simp [rm]
 | u :: l,d,t=>by
  simp only [rm]
  cases hb:Nat.beq u d with
  | true =>
   have:=Nat.eq_of_beq_eq_true hb
   subst this
   simp only [Zl6,List.mem_cons]
   constructor
   ·rintro ⟨a,b⟩; exact ⟨.inr a,b⟩
   ·rintro ⟨a | a,b⟩
    ·exact absurd a b
    ·exact ⟨a,b⟩
  | false =>
   have:u≠d:=fun h=>by subst h; rw [Nat.beq_refl] at hb; cases hb
   simp only [List.mem_cons,Zl6]
   constructor
   ·rintro (a | ⟨a,b⟩)
    ·subst a; exact ⟨.inl rfl,this⟩
    ·exact ⟨.inr a,b⟩
   ·rintro ⟨a | a,b⟩
    ·exact .inl a
    ·exact .inr ⟨a,b⟩
structure WQ (N:Nat)(P:List Nat)(e:Env)(sl:List AV):Prop where
 len:sl.length=N
 val:∀ t,t < N→t ∉ P→sl[t]? = some (e t).val
 ok:∀ t,ZiM (e t)
theorem WQ.mono {N:Nat}{P P':List Nat}{e:Env}{sl:List AV}(h:WQ N P e sl)(hp:∀ t,t ∈ P→t ∈ P'):WQ N P' e sl:=⟨h.len,fun t ht hn=>h.val t ht fun hm=>hn (hp t hm),h.ok⟩
theorem WQ.set {N:Nat}{P:List Nat}{e:Env}{sl:List AV}(h:WQ N P e sl)(d:Nat){v:KV}(hv:ZiM v):WQ N (rm d P) (e.set d v) (sl.set d v.val):=by
 refine ⟨by rw [List.length_set]; exact h.len,fun t ht hn=>?_,fun t=>?_⟩
 ·rw [List.getElem?_set]
  by_cases e1:d=t
  ·subst e1
   simp [Env.set,h.len,ht]
  ·have:Nat.beq t d=false:=by cases hb:Nat.beq t d with | false=>rfl | true=>exact absurd (Nat.eq_of_beq_eq_true hb).symm e1
   simp [e1,Env.set,this,h.val t ht fun hm=>hn (Zl6.2 ⟨hm,fun h=>e1 h.symm⟩)]
 ·show ZiM (Du (Nat.beq t d) v (e t))
  cases Nat.beq t d
  ·exact h.ok t
  ·exact hv
theorem WQ.put {N:Nat}{P:List Nat}{e:Env}{sl:List AV}(h:WQ N P e sl)(d:Option Nat){v:KV}(hv:ZiM v){hp:List Zm}{ef:Eff}{bs:Nat}:WQ N (rmO d P) (e.put d v) (Zb.put ⟨sl,hp,ef,bs⟩ d v.val).sl:=by
 cases d with
 | none=>exact h
 | some d=>exact h.set d hv
theorem WQ.let_ {N:Nat}{P:List Nat}{e:Env}{sl:List AV}(h:WQ N P e sl)(t:Nat):WQ N P (e.set t (.cln (e t).rd)) (sl.modify t AV.ro):=by
 refine ⟨by rw [List.length_modify]; exact h.len,fun u hu hn=>?_,fun u=>?_⟩
 ·rw [List.getElem?_modify]
  by_cases e1:t=u
  ·subst e1
   simp only [if_true,h.val t hu hn,Env.set,Nat.beq_refl,KV.val]
   have:=h.ok t
   simp only [ZiM] at this
   simp only [KV.val] at this
   rw [Option.map_eq_map,Option.map_some,← this]
  ·have:Nat.beq u t=false:=by cases hb:Nat.beq u t with | false=>rfl | true=>exact absurd (Nat.eq_of_beq_eq_true hb).symm e1
   simp [e1,Env.set,this,h.val u hu hn]
 ·show ZiM (Du (Nat.beq u t) (.cln (e t).rd) (e u))
  cases Nat.beq u t
  ·exact h.ok u
  ·exact ZwE (h.ok t)
section
variable {G:Nat→Option (List AV)}{N:Nat}{P:List Nat}{e:Env}{sl:List AV}
theorem Zhz {t N:Nat}{P:List Nat}(h:(Nat.blt t N && J7 P t)=true):t < N∧t ∉ P:=by
 rw [Bool.and_eq_true] at h
 exact ⟨Nat.le_of_ble_eq_true h.1,G9.1 h.2⟩
theorem WQ.get (h:WQ N P e sl){t:Nat}(ht:(Nat.blt t N && J7 P t)=true):sl[t]? = some (e t).val:=h.val t (Zhz ht).1 (Zhz ht).2
theorem WQ.read (h:WQ N P e sl){t:Nat}(ht:(Nat.blt t N && J7 P t)=true):(sl[t]?).map AV.ro=some (e t).rd:=by
 rw [h.get ht,Option.map_some,h.ok t]
theorem WQ.opnd (h:WQ N P e sl){x:Yt}{v:AV}(hx:WM G N P e x=some v):Abs.opnd G sl x=some v:=by
 cases x with
 | tmp t =>
  obtain ⟨h1,h2⟩:=Jb (show Du (Nat.blt t N && J7 P t) (some (e t).rd) none=some v from hx)
  cases h2
  exact h.read h1
 | const v=>exact hx
 | glob g=>exact hx
theorem WQ.opnds (h:WQ N P e sl):∀ {xs:List Yt} {vs:List AV},Pq G N P e xs=some vs→Abs.opnds G sl xs=some vs
 | [],vs,hx=>hx
 | x :: l,vs,hx=>by
  simp only [Pq] at hx
  split at hx
  ·rename_i v hv
   split at hx
   ·rename_i us hus
    cases hx
    simp only [Abs.opnds,h.opnd hv,h.opnds hus,Option.map_some]
   ·cases hx
  ·cases hx
theorem WQ.optOpnd (h:WQ N P e sl){x:Option Yt}{v:Option AV}(hx:Zba G N P e x=some v):Abs.optOpnd G sl x=some v:=by
 cases x with
 | none=>exact hx
 | some x =>
  simp only [Zba] at hx
  split at hx
  ·rename_i u hu
   cases hx
   simp only [Abs.optOpnd,h.opnd hu,Option.map_some]
  ·cases hx
theorem WQ.mvK (h:WQ N P e sl){x:Yt}{k:KV→KR}{r:AV×List Zm×Eff}(hx:mvK G N P e x k=some r):∃ v,Abs.opnd G sl x=some v.val∧ZiM v∧k v=some r:=by
 cases x with
 | tmp t =>
  obtain ⟨h1,h2⟩:=Jb (show Du (Nat.blt t N && J7 P t) (k (KV.cln (e t).rd)) none=some r from hx)
  exact ⟨KV.cln (e t).rd,h.read h1,ZwE (h.ok t),h2⟩
 | const v=>exact ⟨_,rfl,Ru v,hx⟩
 | glob g =>
  obtain ⟨c,h1,h2⟩:=Yk (show YV (G g) (fun c=>k (.cln (.ref c)))=some r from hx)
  exact ⟨KV.cln (.ref c),by simp only [Abs.opnd,h1,Option.map_some]; rfl,rfl,h2⟩
theorem WQ.args:∀ {as:List (Nat ⊕ Yt)} {e e':Env} {sl:List AV} {vs:List AV},WQ N P e sl→Zfe G N P e as=some (vs,e')→∃ sl',Qa G sl as=some (vs,sl')∧WQ N P e' sl'
 | [],e,e',sl,vs,h,ha=>by
  cases ha
  exact ⟨sl,rfl,h⟩
 | .inl t :: l,e,e',sl,vs,h,ha=>by
  simp only [Zfe] at ha
  obtain ⟨h1,h2⟩:=Jb ha
  split at h2
  ·rename_i us e1 hus
   cases h2
   obtain ⟨sl',a1,a2⟩:=WQ.args (h.let_ t) hus
   refine ⟨sl',?_,a2⟩
   simp only [Qa,h.get h1,a1,Option.map_some]
  ·cases h2
 | .inr x :: l,e,e',sl,vs,h,ha=>by
  simp only [Zfe] at ha
  split at ha
  ·rename_i v hv
   split at ha
   ·rename_i us e1 hus
    cases ha
    obtain ⟨sl',a1,a2⟩:=WQ.args h hus
    refine ⟨sl',?_,a2⟩
    simp only [Qa,h.opnd hv,a1,Option.map_some]
   ·cases ha
  ·cases ha
end
theorem Zsx {op:BinOp}{x y:List UInt8}{v:AV}(h:Zgz op x y=some v):v.ro=v:=by
 cases op <;> simp only [Zgz] at h <;> first | (cases h; done) | (cases h; rfl) | (split at h <;> cases h; rfl)
theorem Zqd {op:BinOp}{k:IntKind}{x y:Int}{v:AV}(h:Kt op k x y=some v):v.ro=v:=by
 cases op <;> simp only [Kt] at h <;> first | (cases h; done) | (cases h; rfl) | (split at h <;> cases h; rfl)
theorem Zkx {op:BinOp}{k:IntKind}{x y:Int}{v:AV}(h:EN op k x y=some v):v.ro=v:=by
 simp only [EN] at h
 split at h
 ·cases h
 ·cases op <;> simp only at h <;> first | (cases h; done) | (cases h; rfl)
theorem Zqc {op:BinOp}{sh:ZkR}{x y v:AV}(h:ZM op sh x y=some v):v.ro=v:=by
 unfold ZM at h
 split at h
 ·split at h
  ·split at h
   ·exact Zkx h
   ·split at h
    ·exact Zqd h
    ·cases h
  ·exact Zsx h
  ·cases h
 ·split at h
  ·obtain ⟨b,_,rfl⟩:=Option.map_eq_some_iff.1 h; rfl
  ·obtain ⟨b,_,rfl⟩:=Option.map_eq_some_iff.1 h; rfl
  ·cases h
theorem Zsy {op:UnOp}{x v:AV}(h:Zdn op x=some v):v.ro=v:=by
 unfold Zdn at h
 split at h <;> cases h <;> rfl
theorem Znp {hp:List Zm}{c:Conv}{x v:AV}(h:XD hp c x=some v):v.ro=v:=by
 unfold XD at h
 split at h
 ·cases h; rfl
 ·cases h; rfl
 ·cases h; rfl
 ·split at h
  ·obtain ⟨b,_,rfl⟩:=Option.map_eq_some_iff.1 h; rfl
  ·cases h
 ·cases h
theorem ZxS {hp:List Zm}{x v:AV}(h:Y1 hp x=some v):v.ro=v:=by
 unfold Y1 at h
 split at h
 ·cases h; exact Zio _
 ·split at h
  ·obtain ⟨b,_,rfl⟩:=Option.map_eq_some_iff.1 h; exact Zio _
  ·cases h
 ·cases h
theorem ZxR {hp:List Zm}{n:Nat}{x v:AV}(h:XF hp n x=some v):v.ro=v:=by
 unfold XF at h
 split at h
 ·split at h <;> cases h; rfl
 ·split at h
  ·split at h <;> cases h; rfl
  ·cases h
 ·cases h
theorem Zqe {x v:AV}(h:ZfH x=some v):v.ro=v:=by
 unfold ZfH at h
 split at h <;> cases h <;> rfl
theorem Zqf {sh:Shape}{x v hi mx:AV}(h:EO sh x hi mx=some v):v.ro=v:=by
 unfold EO at h
 split at h <;> first | (cases h; done) | skip
 ·split at h <;> cases h; rfl
 ·split at h <;> cases h; split <;> rfl
 ·split at h <;> cases h; split <;> rfl
theorem Zsw {sh:Shape}{x v:AV}{lo hi:Option AV}(h:Xy sh x lo hi=some v):v.ro=v:=by
 unfold Xy at h
 split at h
 ·split at h
  ·split at h <;> cases h; rfl
  ·cases h
 ·split at h
  ·split at h
   ·split at h <;> cases h; rfl
   ·cases h
  ·cases h
 ·split at h
  ·split at h
   ·split at h
    ·split at h <;> cases h <;> rfl
    ·cases h
   ·cases h
  ·cases h
 ·split at h
  ·split at h
   ·split at h <;> cases h <;> rfl
   ·cases h
  ·cases h
 ·cases h
theorem ZzI {off:Nat}{x v:AV}(h:KD off x=some v):v.ro=v:=by
 unfold KD at h
 split at h <;> cases h <;> rfl
theorem ZxN {off n:Nat}{a:Bool}{x v:AV}(h:CX off n a x=some v):v.ro=v:=by
 unfold CX at h
 split at h
 ·split at h
  ·split at h
   ·cases h; rfl
   ·obtain ⟨b,_,rfl⟩:=Option.map_eq_some_iff.1 h; exact Zio _
  ·cases h
 ·cases h
theorem ZzK {sh:Shape}{x i v:AV}(h:V8 sh x i=some v):v.ro=v:=by
 unfold V8 at h
 split at h
 ·split at h
  ·obtain ⟨b,_,rfl⟩:=Option.map_eq_some_iff.1 h; rfl
  ·cases h
 all_goals first | (cases h; done) | (split at h <;> cases h; rfl)
theorem ZxP {x i v:AV}(h:Zci x i=some v):v.ro=v:=by
 unfold Zci at h
 split at h
 ·split at h
  ·obtain ⟨b,_,rfl⟩:=Option.map_eq_some_iff.1 h; rfl
  ·cases h
 ·cases h
theorem Znq {x:AV}{i:Nat}{v:AV}(h:XW x i=some v):v.ro=v:=by
 unfold XW at h
 split at h
 ·obtain ⟨b,_,rfl⟩:=Option.map_eq_some_iff.1 h; exact Zio _
 ·cases h
theorem ZxT {hp:List Zm}{sh:ZiN}{x v:AV}(h:Xf hp sh x=some v):v.ro=v:=by
 unfold Xf at h
 split at h
 ·cases h; rfl
 ·cases h; rfl
 ·cases h; rfl
 ·cases h; rfl
 ·split at h <;> cases h; rfl
 ·cases h
theorem ZxX {xs:List AV}{v:AV}(h:Zuu xs=some v):v.ro=v:=by
 unfold Zuu at h
 split at h
 ·obtain ⟨b,_,rfl⟩:=Option.map_eq_some_iff.1 h; rfl
 ·cases h
theorem ZxW {xs:List AV}{v:AV}(h:Zut xs=some v):v.ro=v:=by
 unfold Zut at h
 split at h
 ·obtain ⟨b,_,rfl⟩:=Option.map_eq_some_iff.1 h; rfl
 ·cases h
end Go.Proofs.YtgjcjbhhhlelnaaGreatDoor.Abs
end
section
namespace Go.Proofs.YtgjcjbhhhlelnaaGreatDoor.Abs
open Go
section
variable {G:Nat→Option (List AV)}{N bs:Nat}{P:List Nat}{K:FuncId→List AV→List Zm→KR}
def ZvW (G:Nat→Option (List AV))(N bs:Nat)(P:List Nat)(K:FuncId→List AV→List Zm→KR)(sl:List AV)(hp:List Zm)(ef:Eff)(op:AOp)(k:KV→Env→List Zm→Eff→KR)(r:AV×List Zm×Eff):Prop :=
 ∃ (v:KV) (e':Env) (sl':List AV) (hp':List Zm) (ef':Eff),Ze G K ⟨sl,hp,ef,bs⟩ op=some (v.val,⟨sl',hp',ef',bs⟩)∧WQ N P e' sl'∧ZiM v∧k v e' hp' ef'=some r
theorem Fp (sl:List AV)(hp:List Zm)(ef:Eff)(bs g v:Nat):Zb.note ⟨sl,hp,ef,bs⟩ g v=Nl bs ef g v:=rfl
theorem ZqD (sl:List AV)(hp:List Zm)(ef:Eff)(bs:Nat)(e:Eff):Zb.after ⟨sl,hp,ef,bs⟩ e=Gy bs ef e:=by
 cases e with
 | none=>rfl
 | some p=>rfl
theorem Zxs {e:Env}{sl:List AV}(he:WQ N P e sl){hp:List Zm}{ef:Eff}{op:AOp}{k:KV→Env→List Zm→Eff→KR}{r:AV×List Zm×Eff}(h:opK G N bs P K e hp ef op k=some r):ZvW G N bs P K sl hp ef op k r:=by
 cases op <;> simp only [opK] at h
 case bad=>cases h
 case mv x =>
  obtain ⟨v,a1,a2,h2⟩:=he.mvK h
  exact ⟨v,e,sl,hp,ef,by simp only [Ze,a1,Option.map_some],he,a2,h2⟩
 case take t =>
  obtain ⟨h1,h2⟩:=Jb h
  refine ⟨e t,_,sl.modify t AV.ro,hp,ef,?_,he.let_ t,he.ok t,h2⟩
  simp only [Ze,he.get h1,Zb.let_]
 case pick c a b =>
  obtain ⟨c',h1,h⟩:=Z9 h
  obtain ⟨a',h2,h⟩:=Z9 h
  obtain ⟨b',h3,h⟩:=Z9 h
  obtain ⟨v,h4,h⟩:=Yk h
  refine ⟨_,e,sl,hp,ef,?_,he,Ru _,h⟩
  unfold ZdK at h4
  split at h4 <;> cases h4
  ·simp only [Ze,he.opnd h1,he.opnd h2,Option.map_some,KV.val]
  ·simp only [Ze,he.opnd h1,he.opnd h3,Option.map_some,KV.val]
 case mk t cells=>exact ⟨_,e,sl,_,ef,rfl,he,(by rfl),h⟩
 case box t n x =>
  obtain ⟨v,h1,h⟩:=Z9 h
  obtain ⟨cs,h2,h⟩:=Yk h
  unfold ZsJ at h2
  split at h2 <;> cases h2
  rename_i hc
  refine ⟨_,e,sl,_,ef,?_,he,(by rfl),h⟩
  simp only [Ze,he.opnd h1,hc,and_self,if_true,KV.val]
 case build zero parts =>
  obtain ⟨vs,h1,h⟩:=Z9 h
  obtain ⟨cs,h2,h⟩:=Yk h
  refine ⟨_,e,sl,hp,ef,?_,he,(by rfl),h⟩
  simp only [Ze,he.opnds h1,h2,Option.map_some,KV.val]
 case lit t n parts =>
  obtain ⟨vs,h1,h⟩:=Z9 h
  obtain ⟨v,hp',h2,h⟩:=GG h
  refine ⟨_,e,sl,hp',ef,?_,he,Ru _,h⟩
  unfold ZvI at h2
  split at h2
  ·rename_i hc
   cases h2
   simp only [Ze,he.opnds h1,hc,if_true,KV.val]
  ·rename_i hc
   split at h2
   ·rename_i hc'
    cases h2
    simp only [Ze,he.opnds h1,hc,hc',if_true,KV.val]
    rfl
   ·cases h2
 case lita t n parts =>
  obtain ⟨vs,h1,h⟩:=Z9 h
  obtain ⟨v,hp',h2,h⟩:=GG h
  refine ⟨_,e,sl,hp',ef,?_,he,Ru _,h⟩
  unfold ZwJ at h2
  split at h2
  ·rename_i hc
   cases h2
   simp only [Ze,he.opnds h1,hc,if_true,KV.val]
  ·cases h2
 case ldc p =>
  obtain ⟨v,h1,h⟩:=Z9 h
  obtain ⟨u,h2,h⟩:=Yk h
  exact ⟨_,e,sl,hp,ef,by simp only [Ze,he.opnd h1,h2,Option.map_some,KV.val],he,Ku (ZxS h2),h⟩
 case lda n p =>
  obtain ⟨v,h1,h⟩:=Z9 h
  obtain ⟨u,h2,h⟩:=Yk h
  exact ⟨_,e,sl,hp,ef,by simp only [Ze,he.opnd h1,h2,Option.map_some,KV.val],he,Ku (ZxR h2),h⟩
 case ldt p =>
  obtain ⟨v,h1,h⟩:=Z9 h
  obtain ⟨u,hp',ef',h2,h⟩:=Rw h
  refine ⟨_,e,sl,hp',ef',?_,he,Ru _,h⟩
  unfold Z0b at h2
  split at h2
  ·split at h2
   ·rename_i hg
    split at h2
    ·rename_i hc
     cases h2
     simp only [Ze,he.opnd h1,hg,hc,Fp,KV.val]
    ·cases h2
   ·cases h2
  ·cases h2
 case st n p x =>
  obtain ⟨v,h1,h⟩:=Z9 h
  obtain ⟨u,h2,h⟩:=Z9 h
  obtain ⟨hp',ef',h3,h⟩:=GG h
  refine ⟨_,e,sl,hp',ef',?_,he,(by rfl),h⟩
  unfold stV at h3
  split at h3
  ·split at h3
   ·rename_i hg
    split at h3
    ·rename_i hc
     cases h3
     simp only [Ze,he.opnd h1,he.opnd h2,hg,hc,Fp,KV.val,and_self,if_true]
    ·cases h3
   ·cases h3
  ·cases h3
 case stt p t =>
  obtain ⟨v,h1,h⟩:=Z9 h
  obtain ⟨h2,h⟩:=Jb h
  obtain ⟨hp',ef',h3,h⟩:=GG h
  refine ⟨_,_,sl.modify t AV.ro,hp',ef',?_,he.let_ t,(by rfl),h⟩
  unfold Zq6 at h3
  split at h3
  ·split at h3
   ·rename_i hg
    split at h3
    ·rename_i hc
     cases h3
     simp only [Ze,he.opnd h1,he.get h2,hg,Fp,Zb.let_]
     rw [if_pos hc]
     rfl
    ·cases h3
   ·cases h3
  ·cases h3
 case nilchk x =>
  obtain ⟨v,h1,h⟩:=Z9 h
  obtain ⟨u,h2,h⟩:=Yk h
  refine ⟨_,e,sl,hp,ef,?_,he,Ku (Zqe h2),h⟩
  unfold ZfH at h2
  split at h2 <;> cases h2 <;> simp only [Ze,he.opnd h1,KV.val]
 case bin op sh x y =>
  obtain ⟨v,h1,h⟩:=Z9 h
  obtain ⟨u,h2,h⟩:=Z9 h
  obtain ⟨w,h3,h⟩:=Yk h
  exact ⟨_,e,sl,hp,ef,by simp only [Ze,he.opnd h1,he.opnd h2,h3,Option.map_some,KV.val],he,Ku (Zqc h3),h⟩
 case un op x =>
  obtain ⟨v,h1,h⟩:=Z9 h
  obtain ⟨u,h2,h⟩:=Yk h
  exact ⟨_,e,sl,hp,ef,by simp only [Ze,he.opnd h1,h2,Option.map_some,KV.val],he,Ku (Zsy h2),h⟩
 case conv c x =>
  obtain ⟨v,h1,h⟩:=Z9 h
  obtain ⟨u,h2,h⟩:=Yk h
  exact ⟨_,e,sl,hp,ef,by simp only [Ze,he.opnd h1,h2,Option.map_some,KV.val],he,Ku (Znp h2),h⟩
 case mkfn f first caps =>
  obtain ⟨v,h1,h⟩:=Z9 h
  obtain ⟨u,h2,h⟩:=Z9 h
  exact ⟨_,e,sl,hp,ef,by simp only [Ze,he.opnds h1,he.opnds h2,KV.val],he,(by rfl),h⟩
 case mkmap=>exact ⟨_,e,sl,_,ef,rfl,he,(by rfl),h⟩
 case mksl t zero n =>
  obtain ⟨v,h1,h⟩:=Z9 h
  obtain ⟨u,hp',h2,h⟩:=GG h
  unfold Zh1 at h2
  split at h2
  ·split at h2
   ·rename_i hc
    cases h2
    exact ⟨_,e,sl,_,ef,by simp only [Ze,he.opnd h1,hc,and_self,if_true,KV.val],he,(by rfl),h⟩
   ·cases h2
  ·cases h2
 case slice sh x lo hi =>
  obtain ⟨v,h1,h⟩:=Z9 h
  obtain ⟨u1,h2,h⟩:=Z9 h
  obtain ⟨u2,h3,h⟩:=Z9 h
  obtain ⟨u,h4,h⟩:=Yk h
  exact ⟨_,e,sl,hp,ef,by simp only [Ze,he.opnd h1,he.optOpnd h2,he.optOpnd h3,h4,Option.map_some,KV.val],he,Ku (Zsw h4),h⟩
 case slice3 sh x hi mx =>
  obtain ⟨v,h1,h⟩:=Z9 h
  obtain ⟨u1,h2,h⟩:=Z9 h
  obtain ⟨u2,h3,h⟩:=Z9 h
  obtain ⟨u,h4,h⟩:=Yk h
  exact ⟨_,e,sl,hp,ef,by simp only [Ze,he.opnd h1,he.opnd h2,he.opnd h3,h4,Option.map_some,KV.val],he,Ku (Zqf h4),h⟩
 case fa off x =>
  obtain ⟨v,h1,h⟩:=Z9 h
  obtain ⟨u,h2,h⟩:=Yk h
  exact ⟨_,e,sl,hp,ef,by simp only [Ze,he.opnd h1,h2,Option.map_some,KV.val],he,Ku (ZzI h2),h⟩
 case fld off n agg x =>
  obtain ⟨v,h1,h⟩:=Z9 h
  obtain ⟨u,h2,h⟩:=Yk h
  exact ⟨_,e,sl,hp,ef,by simp only [Ze,he.opnd h1,h2,Option.map_some,KV.val],he,Ku (ZxN h2),h⟩
 case ia sh x i =>
  obtain ⟨v,h1,h⟩:=Z9 h
  obtain ⟨u,h2,h⟩:=Z9 h
  obtain ⟨w,h3,h⟩:=Yk h
  exact ⟨_,e,sl,hp,ef,by simp only [Ze,he.opnd h1,he.opnd h2,h3,Option.map_some,KV.val],he,Ku (ZzK h3),h⟩
 case idx x i =>
  obtain ⟨v,h1,h⟩:=Z9 h
  obtain ⟨u,h2,h⟩:=Z9 h
  obtain ⟨w,h3,h⟩:=Yk h
  exact ⟨_,e,sl,hp,ef,by simp only [Ze,he.opnd h1,he.opnd h2,h3,Option.map_some,KV.val],he,Ku (ZxP h3),h⟩
 case look sh zero x i ok =>
  obtain ⟨v,h1,h⟩:=Z9 h
  obtain ⟨u,h2,h⟩:=Z9 h
  obtain ⟨w,h3,h⟩:=Yk h
  exact ⟨_,e,sl,hp,ef,by simp only [Ze,he.opnd h1,he.opnd h2,h3,Option.map_some,KV.val],he,Ru _,h⟩
 case mupd sh m i x =>
  obtain ⟨v,h1,h⟩:=Z9 h
  obtain ⟨u,h2,h⟩:=Z9 h
  obtain ⟨w,h3,h⟩:=Z9 h
  obtain ⟨hp',ef',h4,h⟩:=GG h
  refine ⟨_,e,sl,hp',ef',?_,he,(by rfl),h⟩
  unfold ZwX at h4
  split at h4
  ·split at h4
   ·rename_i hg
    split at h4
    ·rename_i hc
     split at h4
     ·rename_i hu
      cases h4
      simp only [Ze,he.opnd h1,he.opnd h2,he.opnd h3,hg,hc,hu,Fp,KV.val,if_true]
     ·cases h4
    ·cases h4
   ·cases h4
  ·cases h4
 case range x =>
  obtain ⟨v,h1,h⟩:=Z9 h
  obtain ⟨u,hp',h2,h⟩:=GG h
  unfold Ztm at h2
  split at h2 <;> cases h2
  exact ⟨_,e,sl,_,ef,by simp only [Ze,he.opnd h1,KV.val],he,(by rfl),h⟩
 case next x =>
  obtain ⟨v,h1,h⟩:=Z9 h
  obtain ⟨u,hp',ef',h2,h⟩:=Rw h
  unfold ZwY at h2
  split at h2
  ·split at h2
   ·rename_i hg
    split at h2
    ·rename_i hc
     cases h2
     exact ⟨_,e,sl,_,_,by simp only [Ze,he.opnd h1,hg,hc,if_true,Fp,KV.val],he,(by rfl),h⟩
    ·rename_i hc
     cases h2
     exact ⟨_,e,sl,_,_,by simp only [Ze,he.opnd h1,hg,hc,if_false,KV.val],he,(by rfl),h⟩
   ·cases h2
  ·cases h2
 case extract x i =>
  obtain ⟨v,h1,h⟩:=Z9 h
  obtain ⟨u,h2,h⟩:=Yk h
  refine ⟨_,e,sl,hp,ef,?_,he,Ku (Znq h2),h⟩
  unfold XW at h2
  split at h2
  ·rename_i vs
   obtain ⟨b,hb,rfl⟩:=Option.map_eq_some_iff.1 h2
   simp only [Ze,he.opnd h1,hb,Option.map_some,KV.val]
  ·cases h2
 case len sh x =>
  obtain ⟨v,h1,h⟩:=Z9 h
  obtain ⟨u,h2,h⟩:=Yk h
  exact ⟨_,e,sl,hp,ef,by simp only [Ze,he.opnd h1,h2,Option.map_some,KV.val],he,Ku (ZxT h2),h⟩
 case app n bytes t x =>
  obtain ⟨h1,h⟩:=Jb h
  obtain ⟨v,h2,h⟩:=Z9 h
  obtain ⟨u,h3,h⟩:=Yk h
  refine ⟨_,_,sl.modify t AV.ro,hp,ef,?_,he.let_ t,Ru _,h⟩
  have hv:=he.get h1
  unfold ZzZ at h3
  split at h3
  ·rename_i k' r0 hs
   split at h3
   ·rename_i k'' r' hr
    split at h3
    ·rename_i hc
     cases h3
     rw [hs] at hv
     simp only [Ze,hv,he.opnd h2,hr,KV.val,Zb.let_]
     rw [if_pos hc]
    ·cases h3
   ·cases h3
  ·cases h3
 case apps bytes t x =>
  obtain ⟨h1,h⟩:=Jb h
  obtain ⟨v,h2,h⟩:=Z9 h
  obtain ⟨u,h3,h⟩:=Yk h
  refine ⟨_,_,sl.modify t AV.ro,hp,ef,?_,he.let_ t,Ru _,h⟩
  have hv:=he.get h1
  unfold ZvZ at h3
  split at h3
  ·rename_i k' r0 l hs
   split at h3
   ·rename_i hc
    cases h3
    rw [hs] at hv
    simp only [Ze,hv,he.opnd h2,KV.val,Zb.let_]
    rw [if_pos hc]
   ·cases h3
  ·cases h3
 case appn n bytes x =>
  obtain ⟨v,h2,h⟩:=Z9 h
  obtain ⟨u,h3,h⟩:=Yk h
  refine ⟨_,_,sl,hp,ef,?_,he,Ru _,h⟩
  unfold ZvY at h3
  split at h3
  ·rename_i k'' r' hr
   split at h3
   ·rename_i hc
    cases h3
    simp only [Ze,he.opnd h2,hr,KV.val]
    rw [if_pos hc]
   ·cases h3
  ·cases h3
 case copy n d x =>
  obtain ⟨v,h1,h⟩:=Z9 h
  obtain ⟨u,h2,h⟩:=Z9 h
  obtain ⟨w,hp',ef',h3,h⟩:=Rw h
  refine ⟨_,e,sl,hp',ef',?_,he,?_,h⟩
  ·unfold copyV at h3
   split at h3
   ·split at h3
    ·rename_i hr hg
     split at h3
     ·rename_i hc
      cases h3
      simp only [Ze,he.opnd h1,he.opnd h2,hr,hg,Fp,KV.val]
      rw [if_pos hc]
     ·cases h3
    ·cases h3
   ·split at h3
    ·rename_i hr
     split at h3
     ·rename_i hc
      cases h3
      simp only [Ze,he.opnd h1,he.opnd h2,hr,KV.val]
      rw [if_pos hc]
     ·cases h3
    ·cases h3
   ·cases h3
  ·unfold copyV at h3
   split at h3
   ·split at h3
    ·split at h3 <;> cases h3; rfl
    ·cases h3
   ·split at h3
    ·split at h3 <;> cases h3; rfl
    ·cases h3
   ·cases h3
 case min xs =>
  obtain ⟨v,h1,h⟩:=Z9 h
  obtain ⟨u,h2,h⟩:=Yk h
  refine ⟨_,e,sl,hp,ef,?_,he,Ku (ZxX h2),h⟩
  unfold Zuu at h2
  split at h2
  ·obtain ⟨b,hb,rfl⟩:=Option.map_eq_some_iff.1 h2
   simp only [Ze,he.opnds h1,hb,Option.map_some,KV.val]
  ·cases h2
 case max xs =>
  obtain ⟨v,h1,h⟩:=Z9 h
  obtain ⟨u,h2,h⟩:=Yk h
  refine ⟨_,e,sl,hp,ef,?_,he,Ku (ZxW h2),h⟩
  unfold Zut at h2
  split at h2
  ·obtain ⟨b,hb,rfl⟩:=Option.map_eq_some_iff.1 h2
   simp only [Ze,he.opnds h1,hb,Option.map_some,KV.val]
  ·cases h2
 case call f args =>
  obtain ⟨fv,h1,h⟩:=Z9 h
  obtain ⟨⟨vs,e'⟩,h2,h⟩:=Z9 h
  obtain ⟨v,hp',ef',h3,h4⟩:=Rw h
  obtain ⟨sl',a1,a2⟩:=he.args h2
  clear h
  unfold Zwg at h3
  split at h3
  ·refine ⟨_,e',sl',hp',_,?_,a2,Ru _,h4⟩
   simp only [Ze,he.opnd h1,a1,h3,ZqD,KV.val]
  ·cases h3
theorem Zch {want:Bool}{v:AV}{sl:List AV}{t:Nat}{s:Zb}(hs:s.sl=sl)(h:sl[t]? = some v):Yl s (some (t,want))=Pm want v:=by
 simp only [Yl,hs,h]
 cases v <;> rfl
def ZqB (N bs:Nat)(P:List Nat)(x:Option Zb)(k:IW)(r:AV×List Zm×Eff):Prop :=
 ∃ (e':Env) (sl':List AV) (hp':List Zm) (ef':Eff),x=some ⟨sl',hp',ef',bs⟩∧WQ N P e' sl'∧k e' hp' ef'=some r
theorem put_eq (sl:List AV)(hp:List Zm)(ef:Eff)(bs:Nat)(d:Option Nat)(v:AV):Zb.put ⟨sl,hp,ef,bs⟩ d v=⟨(Zb.put ⟨sl,hp,ef,bs⟩ d v).sl,hp,ef,bs⟩:=by cases d <;> rfl
theorem ZpW {e:Env}{hp:List Zm}{ef:Eff}{op:AOp}(hq:XJ op=false){k:KV→Env→List Zm→Eff→KR} :
  opK G N bs P K e hp ef op k=opK G N bs P K e hp ef op fun v _ hp' ef'=>k v e hp' ef':=by
 cases op <;> first | rfl | (cases hq; done) | skip
 case call f args =>
  have:∀ (as:List (Nat ⊕ Yt)) (e:Env) (vs:List AV) (e':Env),(as.any fun | .inl _=>true | .inr _=>false)=false→Zfe G N P e as=some (vs,e')→e'=e:=by
   intro as
   induction as with
   | nil=>intro e vs e' _ h; cases h; rfl
   | cons a l ih =>
    intro e vs e' hn h
    cases a with
    | inl t=>simp at hn
    | inr x =>
     simp only [Zfe] at h
     split at h
     ·split at h
      ·rename_i us e1 hus
       cases h
       exact ih e us e' (by simpa using hn) hus
      ·cases h
     ·cases h
  simp only [opK]
  congr 1
  funext f
  cases ha:Zfe G N P e args with
  | none=>rfl
  | some p =>
   obtain ⟨vs,e'⟩:=p
   cases this args e vs e' hq ha
   rfl
theorem Zet:∀ {as:List (Nat ⊕ Yt)} {sl sl':List AV} {vs:List AV},(as.any fun | .inl _=>true | .inr _=>false)=false→Qa G sl as=some (vs,sl')→sl'=sl
 | [],sl,sl',vs,_,h=>by cases h; rfl
 | .inl t :: l,sl,sl',vs,hn,h=>by simp at hn
 | .inr x :: l,sl,sl',vs,hn,h=>by
  simp only [Qa] at h
  split at h
  ·obtain ⟨p,hp,e⟩:=Option.map_eq_some_iff.1 h
   cases e
   exact Zet (by simpa using hn) hp
  ·cases h
theorem ZwO {α:Type}{s s':Zb}{x:Option α}{f:α→AV}{v:AV}(h:x.map (fun a=>(f a,s))=some (v,s')):s'.sl=s.sl:=by
 obtain ⟨w,_,e⟩:=Option.map_eq_some_iff.1 h
 exact (congrArg (fun p=>p.2.sl) e).symm
theorem Zvu {s s':Zb}{v w:AV}(h:some (w,s)=some (v,s')):s'.sl=s.sl:=(congrArg (fun p=>p.2.sl) (Option.some.inj h)).symm
theorem Zs2 {s s' s1:Zb}{v w:AV}(h:some (w,s1)=some (v,s'))(h1:s1.sl=s.sl):s'.sl=s.sl:=by
 rw [← h1]; exact (congrArg (fun p=>p.2.sl) (Option.some.inj h)).symm
theorem Zu0 {s s':Zb}{v:AV}(h:(none:Option (AV×Zb))=some (v,s')):s'.sl=s.sl:=nomatch h
theorem Zhd {call:FuncId→List AV→List Zm→KR}{s s':Zb}{op:AOp}{v:AV}(hq:XJ op=false)(h:Ze G call s op=some (v,s')):s'.sl=s.sl:=by
 cases op
 case take t=>cases hq
 case stt p t=>cases hq
 case app k b t x=>cases hq
 case apps b t x=>cases hq
 case call f args =>
  simp only [Ze] at h
  split at h
  ·rename_i hf ha
   split at h
   ·have:=Zvu h
    rw [this]
    exact Zet hq ha
   ·exact absurd h (by simp)
  ·exact absurd h (by simp)
 all_goals
  simp only [Ze] at h
  repeat'
   first
   | exact ZwO h
   | exact Zu0 h
   | exact Zs2 h rfl
   | split at h
theorem ZhA {α:Type}(x:Option α)(f:α→KR)(k:AV→List Zm→Eff→KR):Ik (YV x f) k=YV x fun a=>Ik (f a) k:=by cases x <;> rfl
theorem ZrV {α:Type}(x:Option α)(f:α→KR)(k:AV→List Zm→Eff→KR):Ik (rdK x f) k=rdK x fun a=>Ik (f a) k:=by cases x <;> rfl
theorem Zp3 {α β:Type}(x:Option (α×β))(f:α→β→KR)(k:AV→List Zm→Eff→KR):Ik (Zd0 x f) k=Zd0 x fun a b=>Ik (f a b) k:=by cases x <;> rfl
theorem Zp4 {α β γ:Type}(x:Option (α×β×γ))(f:α→β→γ→KR)(k:AV→List Zm→Eff→KR):Ik (Ik x f) k=Ik x fun a b c=>Ik (f a b c) k:=by cases x <;> rfl
theorem ZlE (b:Bool)(x y:KR)(k:AV→List Zm→Eff→KR):Ik (Du b x y) k=Du b (Ik x k) (Ik y k):=by cases b <;> rfl
theorem ZeI (v:AV)(hp:List Zm)(ef:Eff)(k:AV→List Zm→Eff→KR):Ik (some (v,hp,ef)) k=k v hp ef:=rfl
theorem ZeH (k:AV→List Zm→Eff→KR):Ik none k=none:=rfl
theorem Zpy {e:Env}{hp:List Zm}{ef:Eff}{op:AOp}{k:KV→Env→List Zm→Eff→KR} :
  Ik (opK G N bs P K e hp ef op fun v _ hp' ef'=>some (v.val,hp',ef')) (fun v hp' ef'=>k (.raw v) e hp' ef')=opK G N bs P K e hp ef op (fun v _ hp' ef'=>k (.raw v.val) e hp' ef'):=by
 cases op
 case mv x=>cases x <;> simp only [opK,mvK,ZhA,ZlE,ZeI,ZeH]
 all_goals simp only [opK,ZhA,ZrV,Zp3,Zp4,ZlE,ZeI,ZeH]
def Held (A:List (Nat×Bool))(sl:List AV):Prop:=∀ p ∈ A,sl[p.1]? = some (.bool p.2)
def Calm (A:List (Nat×Bool))(ops:List ZQ):Prop:=A≠[]→∀ o ∈ ops,XJ o.op=false∧∀ p ∈ A,o.dst≠some p.1
theorem Zjn:∀ {A:List (Nat×Bool)} {t:Nat} {w:Bool},inA t w A=true→(t,w) ∈ A
 | [],t,w,h=>by cases h
 | (u,v) :: l,t,w,h=>by
  simp only [inA] at h
  cases hb:(Nat.beq u t && (v == w)) with
  | true =>
   rw [Bool.and_eq_true] at hb
   have:=Nat.eq_of_beq_eq_true hb.1
   have hv:v=w:=by simpa using hb.2
   subst this; subst hv
   exact .head _
  | false=>rw [hb] at h; exact .tail _ (Zjn h)
theorem Held.put {A:List (Nat×Bool)}{sl:List AV}(h:Held A sl){hp:List Zm}{ef:Eff}{bs:Nat}{d:Option Nat}(hd:∀ p ∈ A,d≠some p.1)(v:AV):Held A (Zb.put ⟨sl,hp,ef,bs⟩ d v).sl:=by
 cases d with
 | none=>exact h
 | some d =>
  intro p hp
  show (sl.set d v)[p.1]? = _
  rw [List.getElem?_set,if_neg (fun e=>hd p hp (by rw [e]))]
  exact h p hp
theorem ZrR {A:List (Nat×Bool)}{o:ZQ}{e:Env}{sl:List AV}(he:WQ N P e sl)(hA:Held A sl)(hc:Calm A [o]){hp:List Zm}{ef:Eff}{k:IW}{r:AV×List Zm×Eff}(h:ZuJ G N bs P K A o e hp ef k=some r) :
  ∃ (e':Env) (sl':List AV) (hp':List Zm) (ef':Eff),Z8 G K o ⟨sl,hp,ef,bs⟩=some ⟨sl',hp',ef',bs⟩∧WQ N (rmO o.dst P) e' sl'∧Held A sl'∧k e' hp' ef'=some r:=by
 unfold ZuJ at h
 have run:∀ {k':KV→Env→List Zm→Eff→KR} (hk:∀ v e' hp' ef',k' v e' hp' ef'=some r→∃ v',v'.val=v.val∧(ZiM v→ZiM v')∧k (e'.put o.dst v') hp' ef'=some r) (_:opK G N bs P K e hp ef o.op k'=some r) (_:Yl ⟨sl,hp,ef,bs⟩ o.guard=some true),
   ∃ (e':Env) (sl':List AV) (hp':List Zm) (ef':Eff),Z8 G K o ⟨sl,hp,ef,bs⟩=some ⟨sl',hp',ef',bs⟩∧WQ N (rmO o.dst P) e' sl'∧Held A sl'∧k e' hp' ef'=some r:=by
  intro k' hk h hw
  obtain ⟨v,e',sl',hp',ef',h1,h2,h3,h4⟩:=Zxs he h
  obtain ⟨v',a1,a2,a3⟩:=hk _ _ _ _ h4
  refine ⟨e'.put o.dst v',(Zb.put ⟨sl',hp',ef',bs⟩ o.dst v'.val).sl,hp',ef',?_,h2.put o.dst (a2 h3),?_,a3⟩
  ·simp only [Z8,hw,h1,a1]
   rw [put_eq]
  ·by_cases hn:A=[]
   ·subst hn; intro p hp; cases hp
   ·obtain ⟨c1,c2⟩:=hc hn o (.head _)
    have:sl'=sl:=Zhd (s := ⟨sl,hp,ef,bs⟩) (s':=⟨sl',hp',ef',bs⟩) c1 h1
    subst this
    exact hA.put c2 _
 have skip:∀ (v:KV) (_:ZiM v) (_:v.val=.undef) (_:k (e.put o.dst v) hp ef=some r) (_:Yl ⟨sl,hp,ef,bs⟩ o.guard=some false),
   ∃ (e':Env) (sl':List AV) (hp':List Zm) (ef':Eff),Z8 G K o ⟨sl,hp,ef,bs⟩=some ⟨sl',hp',ef',bs⟩∧WQ N (rmO o.dst P) e' sl'∧Held A sl'∧k e' hp' ef'=some r:=by
  intro v hv hu h hw
  refine ⟨e.put o.dst v,(Zb.put ⟨sl,hp,ef,bs⟩ o.dst v.val).sl,hp,ef,?_,he.put o.dst hv,?_,h⟩
  ·simp only [Z8,hw,hu]
   rw [put_eq]
  ·by_cases hn:A=[]
   ·subst hn; intro p hp; cases hp
   ·exact hA.put (hc hn o (.head _)).2 _
 split at h
 ·rename_i hg
  exact run (fun v e' hp' ef' hk=>⟨v,rfl,fun a=>a,hk⟩) h (by rw [hg]; rfl)
 ·rename_i t want hg
  cases hi:inA t want A with
  | true =>
   rw [hi,Eb] at h
   refine run (fun v e' hp' ef' hk=>⟨v,rfl,fun a=>a,hk⟩) h ?_
   rw [hg,Zch rfl (hA _ (Zjn hi))]
   simp [Pm]
  | false =>
   rw [hi,BJ] at h
   obtain ⟨h1,h⟩:=Jb h
   have hw:Yl ⟨sl,hp,ef,bs⟩ o.guard=Pm want (e t).val:=by rw [hg]; exact Zch rfl (he.get h1)
   cases ht:XJ o.op with
   | true =>
    rw [ht,Eb] at h
    unfold ZsT at h
    split at h
    ·rename_i hb
     exact run (fun v e' hp' ef' hk=>⟨v,rfl,fun a=>a,hk⟩) h (hw.trans hb)
    ·rename_i hb
     exact skip (.cln .undef) rfl rfl h (hw.trans hb)
    ·cases h
   | false =>
    rw [ht,BJ] at h
    unfold Pn at h
    split at h
    ·rename_i hb
     have h':=Zpy (k := fun v e' hp' ef'=>k (e'.put o.dst v) hp' ef') ▸ h
     rw [← ZpW ht (k := fun v e' hp' ef'=>k (e'.put o.dst (.raw v.val)) hp' ef')] at h'
     exact run (fun v e' hp' ef' hk=>⟨.raw v.val,rfl,fun _=>rfl,hk⟩) h' (hw.trans hb)
    ·rename_i hb
     exact skip (.raw .undef) rfl rfl h (hw.trans hb)
    ·cases h
theorem Pj {call:FuncId→List AV→List Zm→KR}:∀ (a b:List ZQ) (s:Zb),ZJ G call (a ++ b) s=(ZJ G call a s).bind (ZJ G call b)
 | [],b,s=>rfl
 | o :: l,b,s=>by
  simp only [List.cons_append,ZJ]
  cases Z8 G call o s with
  | none=>rfl
  | some s'=>exact Pj l b s'
theorem Zhq {call:FuncId→List AV→List Zm→KR}{t:Nat}{want:Bool}{P:List Nat}:∀ (ops:List ZQ) (ds:List Nat) (sl:List AV) (hp:List Zm) (ef:Eff),sl[t]? = some (.bool (!want))→(∀ d ∈ ds,sl[d]? = some .undef)→sl.length=N →
  ∃ sl',ZJ G call (ops.take (QU N t want P ds ops)) ⟨sl,hp,ef,bs⟩=some ⟨sl',hp,ef,bs⟩∧sl'.length=sl.length∧∀ j,j ∉ P→sl'[j]? = sl[j]?
 | [],ds,sl,hp,ef,_,_,_=>⟨sl,rfl,rfl,fun _ _=>rfl⟩
 | o :: l,ds,sl,hp,ef,h1,h2,h3=>by
  have stay:QU N t want P ds (o :: l)=0→∃ sl',ZJ G call ((o :: l).take (QU N t want P ds (o :: l))) ⟨sl,hp,ef,bs⟩=some ⟨sl',hp,ef,bs⟩∧sl'.length=sl.length∧∀ j,j ∉ P→sl'[j]? = sl[j]?:=by
   intro h0
   rw [h0]
   exact ⟨sl,rfl,rfl,fun _ _=>rfl⟩
  cases hg:o.guard with
  | none=>exact stay (by simp only [QU,hg])
  | some uw =>
   obtain ⟨u,w⟩:=uw
   cases hd:o.dst with
   | none=>exact stay (by simp only [QU,hg,hd])
   | some d =>
    cases hb:(((Nat.beq u t && (w == want)) || !J7 ds u) && !Nat.beq d t && !J7 P d && !XJ o.op && Nat.blt d N) with
    | false=>exact stay (by simp only [QU,hg,hd,hb])
    | true =>
     have hl:QU N t want P ds (o :: l)=QU N t want P (d :: ds) l + 1:=by simp only [QU,hg,hd,hb]
     rw [hl,List.take_succ_cons]
     simp only [Bool.and_eq_true,Bool.or_eq_true,Bool.not_eq_true'] at hb
     obtain ⟨⟨⟨⟨b1,b2⟩,b3⟩,b4⟩,b5⟩:=hb
     have hdt:d≠t:=fun e=>by subst e; rw [Nat.beq_refl] at b2; cases b2
     have hdP:d ∈ P:=Classical.byContradiction fun hn=>by rw [G9.2 hn] at b3; cases b3
     have hw:Yl ⟨sl,hp,ef,bs⟩ (some (u,w))=some false:=by
      rcases b1 with ⟨c1,c2⟩ | c1
      ·have:=Nat.eq_of_beq_eq_true c1
       have hw:w=want:=by simpa using c2
       subst this; subst hw
       simp [Yl,h1]
      ·have:u ∈ ds:=Classical.byContradiction fun hn=>by rw [G9.2 hn] at c1; cases c1
       simp [Yl,h2 u this]
     obtain ⟨sl',a1,a2,a3⟩:=Zhq l (d :: ds) (sl.set d .undef) hp ef (by rw [List.getElem?_set,if_neg hdt]; exact h1)
      (fun x hx=>by
       rw [List.getElem?_set]
       by_cases e:d=x
       ·subst e; simp [h3,show d < N from Nat.le_of_ble_eq_true b5]
       ·rw [if_neg e]
        rcases List.mem_cons.1 hx with e' | hx
        ·exact absurd e'.symm e
        ·exact h2 x hx)
      (by rw [List.length_set]; exact h3)
     refine ⟨sl',?_,by rw [a2,List.length_set],fun j hj=>?_⟩
     ·simp only [ZJ,Z8,hg,hw,hd]
      exact a1
     ·rw [a3 j hj,List.getElem?_set,if_neg (fun (e:d=j)=>hj (e ▸ hdP))]
theorem ZeB {t:Nat}{want:Bool}{P:List Nat}:∀ (ops:List ZQ) (ds:List Nat),∀ o ∈ ops.take (QU N t want P ds ops),XJ o.op=false∧o.dst≠some t∧∀ d,o.dst=some d→d ∈ P
 | [],ds,o,ho=>by cases ho
 | o :: l,ds,o',ho=>by
  cases hg:o.guard with
  | none=>rw [show QU N t want P ds (o :: l)=0 by simp only [QU,hg]] at ho; cases ho
  | some uw =>
   obtain ⟨u,w⟩:=uw
   cases hd:o.dst with
   | none=>rw [show QU N t want P ds (o :: l)=0 by simp only [QU,hg,hd]] at ho; cases ho
   | some d =>
    cases hb:(((Nat.beq u t && (w == want)) || !J7 ds u) && !Nat.beq d t && !J7 P d && !XJ o.op && Nat.blt d N) with
    | false=>rw [show QU N t want P ds (o :: l)=0 by simp only [QU,hg,hd,hb]] at ho; cases ho
    | true =>
     rw [show QU N t want P ds (o :: l)=QU N t want P (d :: ds) l + 1 by simp only [QU,hg,hd,hb],List.take_succ_cons] at ho
     simp only [Bool.and_eq_true,Bool.or_eq_true,Bool.not_eq_true'] at hb
     obtain ⟨⟨⟨⟨b1,b2⟩,b3⟩,b4⟩,b5⟩:=hb
     rcases List.mem_cons.1 ho with e | ho
     ·subst e
      refine ⟨b4,fun e=>?_,fun x hx=>?_⟩
      ·rw [hd] at e; cases e; rw [Nat.beq_refl] at b2; cases b2
      ·rw [hd] at hx; cases hx
       exact Classical.byContradiction fun hn=>by rw [G9.2 hn] at b3; cases b3
     ·exact ZeB l (d :: ds) o' ho
theorem Zj5 {call:FuncId→List AV→List Zm→KR}{P:List Nat}:∀ (ops:List ZQ) (s s':Zb),(∀ o ∈ ops,XJ o.op=false∧∀ d,o.dst=some d→d ∈ P)→ZJ G call ops s=some s'→s'.sl.length=s.sl.length∧∀ j,j ∉ P→s'.sl[j]? = s.sl[j]?
 | [],s,s',_,h=>by cases h; exact ⟨rfl,fun _ _=>rfl⟩
 | o :: l,s,s',hc,h=>by
  simp only [ZJ] at h
  split at h
  ·rename_i s1 h1
   obtain ⟨a1,a2⟩:=Zj5 l s1 s' (fun o ho=>hc o (.tail _ ho)) h
   have one:s1.sl.length=s.sl.length∧∀ j,j ∉ P→s1.sl[j]? = s.sl[j]?:=by
    obtain ⟨c1,c2⟩:=hc o (.head _)
    have putOff:∀ (s2:Zb) (v:AV),s2.sl=s.sl→(s2.put o.dst v).sl.length=s.sl.length∧∀ j,j ∉ P→(s2.put o.dst v).sl[j]? = s.sl[j]?:=by
     intro s2 v h2
     cases hd:o.dst with
     | none=>exact ⟨congrArg _ h2,fun _ _=>by show s2.sl[_]? = _; rw [h2]⟩
     | some d=>exact ⟨by show (s2.sl.set d v).length=_; rw [List.length_set,h2],fun j hj=>by show (s2.sl.set d v)[j]? = _; rw [List.getElem?_set,if_neg (fun (e:d=j)=>hj (e ▸ c2 d hd)),h2]⟩
    unfold Z8 at h1
    split at h1
    ·split at h1
     ·rename_i hev
      have e1:=Zhd c1 hev
      cases h1
      exact putOff _ _ e1
     ·cases h1
    ·cases h1
     exact putOff s _ rfl
    ·cases h1
   exact ⟨a1.trans one.1,fun j hj=>(a2 j hj).trans (one.2 j hj)⟩
  ·cases h
theorem Zrm {A:List (Nat×Bool)}{P:List Nat}{ops:List ZQ}{t:Nat}{want:Bool}{m:Nat}{d:Option Nat}{a b:Yt}{rest:List ZQ}(h:ZoG N A P ops=some (t,want,m,d,a,b,rest)) :
  m=QU N t want P [] ops∧t < N∧t ∉ P∧∃ g,ops.drop m=⟨d,.pick (.tmp t) a b,g⟩ :: rest∧(g=none∨∃ p ∈ A,g=some p):=by
 unfold ZoG at h
 split at h
 ·cases h
 ·rename_i o l
  split at h
  ·cases h
  ·rename_i t' want' hg
   cases hi:inA t' want' A with
   | true=>rw [hi,Eb] at h; cases h
   | false =>
    rw [hi,BJ] at h
    split at h
    ·rename_i d' u a' b' rest' hd
     obtain ⟨h1,h2⟩:=Jb h
     simp only [Bool.and_eq_true] at h1
     obtain ⟨⟨⟨c1,c2⟩,c3⟩,c4⟩:=h1
     cases h2
     have:=Nat.eq_of_beq_eq_true c1
     subst this
     exact ⟨rfl,Nat.le_of_ble_eq_true c2,G9.1 c3,none,hd,.inl rfl⟩
    ·rename_i d' u a' b' gt gw rest' hd
     obtain ⟨h1,h2⟩:=Jb h
     simp only [Bool.and_eq_true] at h1
     obtain ⟨⟨⟨⟨c0,c1⟩,c2⟩,c3⟩,c4⟩:=h1
     cases h2
     have:=Nat.eq_of_beq_eq_true c1
     subst this
     exact ⟨rfl,Nat.le_of_ble_eq_true c2,G9.1 c3,some (gt,gw),hd,.inr ⟨_,Zjn c0,rfl⟩⟩
    ·cases h
theorem Zt8:∀ (c w:Bool),(c == w)=false→c=!w:=by decide
theorem ZfN:∀ (n:Nat) {A:List (Nat×Bool)} {P:List Nat} {ops:List ZQ} {e:Env} {sl:List AV} (_:WQ N P e sl) (_:Held A sl) (_:Calm A ops) {hp:List Zm} {ef:Eff} {k:IW} {r:AV×List Zm×Eff},ZlD G N bs K n A P ops k e hp ef=some r →
  ∃ (e':Env) (sl':List AV) (hp':List Zm) (ef':Eff),ZJ G K ops ⟨sl,hp,ef,bs⟩=some ⟨sl',hp',ef',bs⟩∧WQ N (Zo4 N n A P ops) e' sl'∧Held A sl'∧k e' hp' ef'=some r
 | 0,A,P,[],e,sl,he,hA,_,hp,ef,k,r,h=>⟨e,sl,hp,ef,rfl,he,hA,by simpa [ZlD] using h⟩
 | n + 1,A,P,[],e,sl,he,hA,_,hp,ef,k,r,h=>⟨e,sl,hp,ef,rfl,he,hA,by simpa [ZlD] using h⟩
 | 0,A,P,o :: l,e,sl,he,hA,_,hp,ef,k,r,h=>by simp [ZlD] at h
 | n + 1,A,P,o :: l,e,sl,he,hA,hc,hp,ef,k,r,h=>by
  cases hg:ZoG N A P (o :: l) with
  | some gg =>
   obtain ⟨t,want,m,d,a,b,rest⟩:=gg
   simp only [ZlD,hg] at h
   simp only [Zo4,hg]
   obtain ⟨hm,htN,htP,g,hdrop,hgd⟩:=Zrm hg
   have hsplit:o :: l=(o :: l).take m ++ ⟨d,.pick (.tmp t) a b,g⟩ :: rest:=by rw [← hdrop,List.take_append_drop]
   have hcalm:∀ o' ∈ (o :: l).take m,XJ o'.op=false∧o'.dst≠some t∧∀ x,o'.dst=some x→x ∈ P:=by rw [hm]; exact ZeB _ _
   have hcA:A≠[]→∀ p ∈ A,d≠some p.1:=fun hne p hp=>(hc hne ⟨d,.pick (.tmp t) a b,g⟩ (by rw [hsplit]; exact List.mem_append_right _ (.head _))).2 p hp
   have ht:sl[t]? = some (e t).val:=he.val t htN htP
   have behind:∀ (sl1:List AV) (hp1:List Zm) (ef1:Eff) (c:Bool) (v:AV),ZJ G K ((o :: l).take m) ⟨sl,hp,ef,bs⟩=some ⟨sl1,hp1,ef1,bs⟩→sl1.length=sl.length→(∀ j,j ∉ P→sl1[j]? = sl[j]?)→Held A sl1→sl1[t]? = some (.bool c) →
     opnd G sl1 (if c then a else b)=some v→ZlD G N bs K n A (rmO d P) rest k (e.put d (.raw v)) hp1 ef1=some r →
     ∃ (e':Env) (sl':List AV) (hp':List Zm) (ef':Eff),ZJ G K (o :: l) ⟨sl,hp,ef,bs⟩=some ⟨sl',hp',ef',bs⟩∧WQ N (Zo4 N n A (rmO d P) rest) e' sl'∧Held A sl'∧k e' hp' ef'=some r:=by
    intro sl1 hp1 ef1 c v h1 hlen hoff hA1 hc1 hv hk
    have he1:WQ N P e sl1:=⟨hlen.trans he.len,fun j hj hn=>(hoff j hn).trans (he.val j hj hn),he.ok⟩
    have hput:=he1.put d (v := .raw v) (Ru v) (hp := hp1) (ef := ef1) (bs := bs)
    have hA2:Held A (Zb.put ⟨sl1,hp1,ef1,bs⟩ d v).sl:=by
     by_cases hne:A=[]
     ·subst hne; intro p hp; cases hp
     ·exact hA1.put (hcA hne) v
    obtain ⟨e',sl',hp',ef',b1,b2,b3,b4⟩:=ZfN n hput hA2 (fun hne o' ho'=>hc hne o' (by rw [hsplit]; exact List.mem_append_right _ (.tail _ ho'))) hk
    refine ⟨e',sl',hp',ef',?_,b2,b3,b4⟩
    rw [hsplit,Pj,h1]
    show ZJ G K (⟨d,.pick (.tmp t) a b,g⟩ :: rest) ⟨sl1,hp1,ef1,bs⟩=_
    have hw:Yl ⟨sl1,hp1,ef1,bs⟩ g=some true:=by
     rcases hgd with e0 | ⟨p,hp,e0⟩
     ·subst e0; rfl
     ·subst e0
      obtain ⟨p1,p2⟩:=p
      rw [Zch rfl (hA1 _ hp)]
      simp [Pm]
    have hop:Ze G K ⟨sl1,hp1,ef1,bs⟩ (.pick (.tmp t) a b)=some (v,⟨sl1,hp1,ef1,bs⟩):=by
     have:opnd G sl1 (.tmp t)=some (.bool c):=by simp only [Abs.opnd,hc1,Option.map_some]; rfl
     cases c with
     | true=>simp only [if_true] at hv; simp only [Ze,this,hv,Option.map_some]
     | false=>simp only [Bool.false_eq_true,if_false] at hv; simp only [Ze,this,hv,Option.map_some]
    simp only [ZJ,Z8,hw,hop]
    rw [put_eq]
    exact b1
   unfold Zf1 at h
   split at h
   ·rename_i c hcv
    rw [hcv] at ht
    split at h
    ·rename_i hcw
     have hcw:c=want:=by simpa using hcw
     subst hcw
     obtain ⟨v,hp1,ef1,h1,h2⟩:=Rw h
     have hA':Held ((t,c) :: A) sl:=by
      intro p hp
      rcases List.mem_cons.1 hp with e0 | hp
      ·subst e0; exact ht
      ·exact hA p hp
     have hc':Calm ((t,c) :: A) ((o :: l).take m):=by
      intro _ o' ho'
      obtain ⟨q1,q2,q3⟩:=hcalm o' ho'
      refine ⟨q1,fun p hp=>?_⟩
      rcases List.mem_cons.1 hp with e0 | hp
      ·subst e0; exact q2
      ·exact (hc (by intro h0; subst h0; cases hp) o' (by rw [hsplit]; exact List.mem_append_left _ ho')).2 p hp
     obtain ⟨e1,sl1,hp2,ef2,b1,b2,b3,b4⟩:=ZfN n he hA' hc' h1
     obtain ⟨v',g1,g2⟩:=Z9 b4
     cases g2
     obtain ⟨o1,o2⟩:=Zj5 (P := P) _ _ _ (fun o' ho'=>⟨(hcalm o' ho').1,(hcalm o' ho').2.2⟩) b1
     refine behind sl1 _ _ c _ b1 o1 o2 (fun p hp=>b3 p (.tail _ hp)) (b3 _ (.head _)) ?_ h2
     have:=b2.opnd g1
     cases c <;> exact this
    ·rename_i hcw
     have hcw:c=!want:=Zt8 _ _ hcw
     subst hcw
     obtain ⟨v,h1,h2⟩:=Yk h
     obtain ⟨sl1,b1,b2,b3⟩:=Zhq (G := G) (N := N) (bs := bs) (call := K) (P := P) (t := t) (want := want) (o :: l) [] sl hp ef ht (fun _ hx=>by cases hx) he.len
     rw [← hm] at b1
     have he1:WQ N P e sl1:=⟨b2.trans he.len,fun j hj hn=>(b3 j hn).trans (he.val j hj hn),he.ok⟩
     have hA1:Held A sl1:=by
      by_cases hne:A=[]
      ·subst hne; intro p hp; cases hp
      ·have hall:∀ o' ∈ (o :: l).take m,∀ p ∈ A,o'.dst≠some p.1:=fun o' ho' p hp=>(hc hne o' (by rw [hsplit]; exact List.mem_append_left _ ho')).2 p hp
       intro p hp
       have:=Zj5 (G := G) (call := K) (P := ((o :: l).take m).filterMap (·.dst)) _ _ _ (fun o' ho'=>⟨(hcalm o' ho').1,fun x hx=>List.mem_filterMap.2 ⟨o',ho',hx⟩⟩) b1
       rw [this.2 p.1 (fun hmem=>by obtain ⟨o',ho',hx⟩:=List.mem_filterMap.1 hmem; exact hall o' ho' p hp hx)]
       exact hA p hp
     refine behind sl1 _ _ (!want) _ b1 b2 b3 hA1 (by rw [b3 t htP]; exact ht) ?_ h2
     have:=he1.opnd h1
     cases want <;> exact this
   ·cases h
  | none =>
   simp only [ZlD,hg] at h
   simp only [Zo4,hg]
   obtain ⟨e1,sl1,hp1,ef1,h1,h2,h3,h4⟩:=ZrR he hA (fun hne o' ho'=>hc hne o' (by rcases List.mem_cons.1 ho' with e0 | e0; (subst e0; exact .head _); cases e0)) h
   obtain ⟨e2,sl2,hp2,ef2,g1,g2,g3,g4⟩:=ZfN n h2 h3 (fun hne o' ho'=>hc hne o' (.tail _ ho')) h4
   exact ⟨e2,sl2,hp2,ef2,by simp only [ZJ,h1,g1],g2,g3,g4⟩
theorem Zpm {P:List Nat}{d:Option Nat}{t:Nat}(h:t ∈ rmO d P):t ∈ P:=by
 cases d with
 | none=>exact h
 | some d=>exact (Zl6.1 h).1
theorem ZfF:∀ (n:Nat) {A:List (Nat×Bool)} {P:List Nat} {ops:List ZQ} {t:Nat},t ∈ Zo4 N n A P ops→t ∈ P
 | 0,A,P,ops,t,h=>by simpa [Zo4] using h
 | n + 1,A,P,[],t,h=>by simpa [Zo4] using h
 | n + 1,A,P,o :: l,t,h=>by
  unfold Zo4 at h
  split at h
  ·exact Zpm (ZfF n h)
  ·exact Zpm (ZfF n h)
theorem ZfM {P:List Nat}{ops:List ZQ}{e:Env}{sl:List AV}(he:WQ N P e sl){hp:List Zm}{ef:Eff}{k:IW}{r:AV×List Zm×Eff}(h:ZlD G N bs K ops.length [] P ops k e hp ef=some r) :
  ZqB N bs P (ZJ G K ops ⟨sl,hp,ef,bs⟩) k r:=by
 obtain ⟨e',sl',hp',ef',h1,h2,_,h4⟩:=ZfN ops.length he (fun p hp=>by cases hp) (fun hne=>absurd rfl hne) h
 exact ⟨e',sl',hp',ef',h1,h2.mono fun t ht=>ZfF _ ht,h4⟩
def Goes (N bs:Nat)(P:List Nat)(x:Option (Ls×Zb))(n rt:IW)(xs:List (Nat×IW))(r:AV×List Zm×Eff):Prop :=
 ∃ (ex:Ls) (e':Env) (sl':List AV) (hp':List Zm) (ef':Eff),x=some (ex,⟨sl',hp',ef',bs⟩)∧WQ N P e' sl'∧match ex with
  | .normal=>n e' hp' ef'=some r
  | .ret=>rt e' hp' ef'=some r
  | .exit i=>Zr4 i xs e' hp' ef'=some r
variable {L:Nat}
theorem Ut (a b:WP)(n r:IW)(xs:List (Nat×IW)):WA G N bs K P L (.seq a b) n r xs=WA G N bs K P L a (WA G N bs K P L b n r xs) r xs:=rfl
theorem XB (id:Nat)(c:WP)(n r:IW)(xs:List (Nat×IW)):WA G N bs K P L (.block id c) n r xs=WA G N bs K P L c n r ((id,n) :: xs):=rfl
theorem XC (c:WP)(n r:IW)(xs:List (Nat×IW)):WA G N bs K P L (.scope c) n r xs=WA G N bs K P L c n r xs:=rfl
theorem VN (c:Yt)(a b:WP)(n r:IW)(xs:List (Nat×IW)):WA G N bs K P L (.cond c a b) n r xs=fun e hp ef=>rdK (WM G N P e c) fun v=>ifK v (WA G N bs K P L a n r xs e hp ef) (WA G N bs K P L b n r xs e hp ef):=rfl
theorem Ie:∀ (c:WP) {n rt:IW} {xs:List (Nat×IW)} {e:Env} {sl:List AV} (_:WQ N P e sl) {hp:List Zm} {ef:Eff} {r:AV×List Zm×Eff},WA G N bs K P L c n rt xs e hp ef=some r →
  Goes N bs P (Zz G K L c ⟨sl,hp,ef,bs⟩) n rt xs r
 | .skip,n,rt,xs,e,sl,he,hp,ef,r,h=>⟨.normal,e,sl,hp,ef,rfl,he,h⟩
 | .region false ops,n,rt,xs,e,sl,he,hp,ef,r,h=>by
  obtain ⟨e',sl',hp',ef',h1,h2,h3⟩:=ZfM he h
  exact ⟨.normal,e',sl',hp',ef',by simp only [Zz,h1,Option.map_some],h2,h3⟩
 | .region true ops,n,rt,xs,e,sl,he,hp,ef,r,h=>by
  obtain ⟨e',sl',hp',ef',h1,h2,h3⟩:=ZfM he h
  exact ⟨.normal,e',sl',hp',ef',by simp only [Zz,h1,Option.map_some],h2,h3⟩
 | .regionB ops,n,rt,xs,e,sl,he,hp,ef,r,h=>by
  obtain ⟨e',sl',hp',ef',h1,h2,h3⟩:=ZfM he h
  exact ⟨.normal,e',sl',hp',ef',by simp only [Zz,h1,Option.map_some],h2,h3⟩
 | .seq a b,n,rt,xs,e,sl,he,hp,ef,r,h=>by
  obtain ⟨ex,e',sl',hp',ef',h1,h2,h3⟩:=Ie a he h
  cases ex with
  | normal =>
   obtain ⟨ex,e2,sl2,hp2,ef2,g1,g2,g3⟩:=Ie b h2 h3
   exact ⟨ex,e2,sl2,hp2,ef2,by simp only [Zz,h1,g1],g2,g3⟩
  | ret=>exact ⟨.ret,e',sl',hp',ef',by simp only [Zz,h1],h2,h3⟩
  | exit i=>exact ⟨.exit i,e',sl',hp',ef',by simp only [Zz,h1],h2,h3⟩
 | .cond c a b,n,rt,xs,e,sl,he,hp,ef,r,h=>by
  obtain ⟨v,h1,h2⟩:=Z9 (show rdK (WM G N P e c) (fun v=>ifK v (WA G N bs K P L a n rt xs e hp ef) (WA G N bs K P L b n rt xs e hp ef))=some r from h)
  unfold ifK at h2
  split at h2
  ·obtain ⟨ex,e',sl',hp',ef',g1,g2,g3⟩:=Ie a he h2
   exact ⟨ex,e',sl',hp',ef',by simp only [Zz,he.opnd h1,g1],g2,g3⟩
  ·obtain ⟨ex,e',sl',hp',ef',g1,g2,g3⟩:=Ie b he h2
   exact ⟨ex,e',sl',hp',ef',by simp only [Zz,he.opnd h1,g1],g2,g3⟩
  ·cases h2
 | .block id c,n,rt,xs,e,sl,he,hp,ef,r,h=>by
  obtain ⟨ex,e',sl',hp',ef',h1,h2,h3⟩:=Ie c he h
  cases ex with
  | normal=>exact ⟨.normal,e',sl',hp',ef',by simp only [Zz,h1],h2,h3⟩
  | ret=>exact ⟨.ret,e',sl',hp',ef',by simp only [Zz,h1],h2,h3⟩
  | exit i =>
   simp only [Zr4] at h3
   by_cases hi:i=id
   ·subst hi
    rw [Nat.beq_refl,Eb] at h3
    exact ⟨.normal,e',sl',hp',ef',by simp only [Zz,h1,if_true],h2,h3⟩
   ·have:Nat.beq id i=false:=by cases hb:Nat.beq id i with | false=>rfl | true=>exact absurd (Nat.eq_of_beq_eq_true hb).symm hi
    rw [this,BJ] at h3
    exact ⟨.exit i,e',sl',hp',ef',by simp only [Zz,h1,if_neg hi],h2,h3⟩
 | .loop c,n,rt,xs,e,sl,he,hp,ef,r,h=>by
  have go:∀ (m:Nat) {e:Env} {sl:List AV} (_:WQ N P e sl) {hp:List Zm} {ef:Eff},Dz (fun n'=>WA G N bs K P L c n' rt xs) m e hp ef=some r →
    Goes N bs P (iter (Zz G K L c) m ⟨sl,hp,ef,bs⟩) n rt xs r:=by
   intro m
   induction m with
   | zero=>intro e sl he hp ef h; cases h
   | succ m ih =>
    intro e sl he hp ef h
    obtain ⟨ex,e',sl',hp',ef',h1,h2,h3⟩:=Ie c he (show WA G N bs K P L c (Dz (fun n'=>WA G N bs K P L c n' rt xs) m) rt xs e hp ef=some r from h)
    cases ex with
    | normal =>
     obtain ⟨ex,e2,sl2,hp2,ef2,g1,g2,g3⟩:=ih h2 h3
     exact ⟨ex,e2,sl2,hp2,ef2,by simp only [iter,h1,g1],g2,g3⟩
    | ret=>exact ⟨.ret,e',sl',hp',ef',by simp only [iter,h1],h2,h3⟩
    | exit i=>exact ⟨.exit i,e',sl',hp',ef',by simp only [iter,h1],h2,h3⟩
  exact go L he h
 | .scope c,n,rt,xs,e,sl,he,hp,ef,r,h=>Ie c he h
 | .exit id,n,rt,xs,e,sl,he,hp,ef,r,h=>⟨.exit id,e,sl,hp,ef,rfl,he,h⟩
 | .ret,n,rt,xs,e,sl,he,hp,ef,r,h=>⟨.ret,e,sl,hp,ef,rfl,he,h⟩
 | .bad,n,rt,xs,e,sl,he,hp,ef,r,h=>by cases h
end
theorem ZpZ {e:Env}{N:Nat}{P:List Nat}{sl:List AV}(he:WQ N P e sl){hp:List Zm}{ef:Eff}{bs:Nat}{r:Zdy}{v:AV}(h:Zyx e N P hp r=some v):MX ⟨sl,hp,ef,bs⟩ r=some v:=by
 cases r <;> simp only [Zyx] at h <;> obtain ⟨h1,h2⟩:=Jb h
 ·cases h2; exact he.get h1
 ·simp only [MX,he.get h1,h2]
 ·simp only [MX,he.get h1,h2]
theorem ZlX {e:Env}{N:Nat}{P:List Nat}{sl:List AV}(he:WQ N P e sl){hp:List Zm}{ef:Eff}{bs:Nat}:∀ {rs:List Zdy} {k:List AV→KR} {q:AV×List Zm×Eff},Zsu e N P hp rs k=some q→∃ vs,UJ ⟨sl,hp,ef,bs⟩ rs=some vs∧k vs=some q
 | [],k,q,h=>⟨[],rfl,h⟩
 | r :: l,k,q,h=>by
  simp only [Zsu] at h
  obtain ⟨v,hv,h⟩:=Z9 h
  obtain ⟨vs,hvs,h⟩:=ZlX (ef := ef) (bs := bs) he h
  exact ⟨v.nm :: vs,by simp only [UJ,ZpZ he hv,hvs],h⟩
theorem Znn {e:Env}{N:Nat}{P:List Nat}{sl:List AV}(he:WQ N P e sl){hp:List Zm}{ef:Eff}{bs:Nat}{rs:List Zdy}{k:AV→KR}{q:AV×List Zm×Eff}(h:Zkw e N P hp rs k=some q):∃ v,Xw ⟨sl,hp,ef,bs⟩ rs=some v∧k v=some q:=by
 unfold Zkw at h
 split at h
 ·obtain ⟨v,hv,h⟩:=Z9 h
  exact ⟨v,ZpZ he hv,h⟩
 ·rename_i hne
  obtain ⟨vs,hvs,h⟩:=ZlX (ef := ef) (bs := bs) he h
  refine ⟨_,?_,h⟩
  unfold Xw
  split
  ·exact absurd rfl (hne _)
  ·rw [hvs]; rfl
theorem Zfd:∀ (args:List AV) (t:Nat),ZsG args t=.raw (args.getD t .undef)
 | [],t=>by simp [ZsG]
 | v :: l,0=>rfl
 | v :: l,t + 1=>by
  show ZsG l t=_
  rw [Zfd l t]
  rfl
theorem Zt1 {args:List AV}{N:Nat}{P:List Nat}(h:args.length≤N):WQ N P (ZsG args) (args ++ List.replicate (N - args.length) .undef):=by
 refine ⟨by simp; omega,fun t ht _=>?_,fun t=>by rw [Zfd]; rfl⟩
 rw [Zfd,List.getD_eq_getElem?_getD]
 by_cases h1:t < args.length
 ·rw [List.getElem?_append_left h1]; simp [h1,KV.val]
 ·rw [List.getElem?_append_right (by omega),List.getElem?_replicate]
  simp [show t - args.length < N - args.length by omega,show args[t]? = none from List.getElem?_eq_none (by omega),KV.val]
theorem Zhk {C:Cfg}{P:List Nat}{f:FuncId}{fn:AFn}(hT:C.T f=some fn){n:Nat}{args:List AV}{hp:List Zm}{r:AV×List Zm×Eff}(hl:args.length≤fn.ntmps)(h:fnK C.G (Zv C n) P C.L fn args hp=some r) :
  Zv C (n + 1) f args hp=some r:=by
 obtain ⟨ex,e',sl',hp',ef',h1,h2,h3⟩:=Ie fn.code (Zt1 hl) h
 have hret:∀ (_:Tu P fn hp e' hp' ef'=some r),∃ v,Xw ⟨sl',hp',ef',hp.length⟩ fn.results=some v∧(if fn.keep then (v.nm,hp',ef') else finish v ⟨sl',hp',ef',hp.length⟩ hp)=r:=by
  intro h
  obtain ⟨v,a1,a2⟩:=Znn h2 h
  refine ⟨v,a1,?_⟩
  cases a2
  unfold ZdB
  cases fn.keep <;> rfl
 rw [Zv]
 simp only [hT,h1]
 cases ex with
 | normal =>
  obtain ⟨v,a1,a2⟩:=hret h3
  simp only [a1,a2]
 | ret =>
  obtain ⟨v,a1,a2⟩:=hret h3
  simp only [a1,a2]
 | exit i=>cases h3
end Go.Proofs.YtgjcjbhhhlelnaaGreatDoor.Abs
end
section
namespace Go.Proofs.YtgjcjbhhhlelnaaGreatDoor.Abs
open Go
theorem Zxx {α:Type}(v:α)(k:α→KR):YV (some v) k=k v:=rfl
theorem Zxv {α β:Type}(a:α)(b:β)(k:α→β→KR):Zd0 (some (a,b)) k=k a b:=rfl
theorem Zxw {α β γ:Type}(a:α)(b:β)(c:γ)(k:α→β→γ→KR):Ik (some (a,b,c)) k=k a b c:=rfl
theorem ZyZ (b:Bool)(x y:KR):ifK (.bool b) x y=if b=true then x else y:=by cases b <;> rfl
theorem Zro (x:KR)(hp:List Zm)(ef:Eff)(k:AV→List Zm→Eff→KR):Pn (some true) x hp ef k=Ik x k:=rfl
theorem Zrn (x:KR)(hp:List Zm)(ef:Eff)(k:AV→List Zm→Eff→KR):Pn (some false) x hp ef k=k .undef hp ef:=rfl
theorem ZoI (b:Bool):Pm true (.bool b)=some b:=by cases b <;> rfl
theorem ZoH (b:Bool):Pm false (.bool b)=some (!b):=by cases b <;> rfl
theorem Zve (a b:AV):ZdK (.bool true) a b=some a:=rfl
theorem Zvd (a b:AV):ZdK (.bool false) a b=some b:=rfl
theorem ZwH {α:Type}(x:α)(k:α→KR):ZvG x k=k x:=rfl
theorem Zvn (b:Bool):AV.ro (.bool b)=.bool b:=rfl
theorem ZxQ (k:IntKind)(n:Int):AV.ro (.int k n)=.int k n:=rfl
theorem Zyb (s:List UInt8):AV.ro (.str s)=.str s:=rfl
theorem ZxU (k:Nat)(r:List (List AV)):AV.ro (.lst k r)=.lst k r:=rfl
theorem ZxY (k:Nat)(r:List (List AV)):AV.ro (.own k r)=.lst k r:=rfl
theorem ZxM (c:List AV):AV.ro (.agg c)=.agg c:=rfl
theorem Zyc (c:List AV):AV.ro (.tup c)=.tup c:=rfl
theorem ZxZ (g o:Nat):AV.ro (.ptr g o)=.ptr g o:=rfl
theorem ZxV (g:Nat):AV.ro (.map g)=.map g:=rfl
theorem Zya (c:List AV):AV.ro (.ref c)=.ref c:=rfl
theorem ZzJ (f:FuncId)(a c:List AV):AV.ro (.fn f a c)=.fn f a c:=rfl
theorem Zsz:AV.ro .undef=.undef:=rfl
theorem Zux (b:Bool):AV.nm (.bool b)=.bool b:=rfl
theorem Zxa (k:IntKind)(n:Int):AV.nm (.int k n)=.int k n:=rfl
theorem Zxe (s:List UInt8):AV.nm (.str s)=.str s:=rfl
theorem Zxb (k:Nat)(r:List (List AV)):AV.nm (.lst k r)=.lst k r:=rfl
theorem Zpp (k:Nat)(r:List (List AV)):AV.nm (.own k r)=.lst k r:=rfl
theorem ZwZ (c:List AV):AV.nm (.agg c)=.agg (c.map AV.ro):=rfl
theorem Zxd (g o:Nat):AV.nm (.ptr g o)=.ptr g o:=rfl
theorem Zxc (g:Nat):AV.nm (.map g)=.map g:=rfl
theorem Zzz (f:FuncId)(a c:List AV):AV.nm (.fn f a c)=.fn f a c:=rfl
theorem Zon (c:List AV):AV.cells (.agg c)=c:=rfl
theorem Zwa (op:BinOp)(a b:List UInt8):ZM op .prim (.str a) (.str b)=Zgz op a b:=rfl
theorem Zy7 (k:IntKind)(a b:Int):ZM .add .prim (.int k a) (.int k b)=some (.int k (k.wrap (a + b))):=by simp [ZM,JK,Kt]
theorem ZyD (k:IntKind)(a b:Int):ZM .sub .prim (.int k a) (.int k b)=some (.int k (k.wrap (a - b))):=by simp [ZM,JK,Kt]
theorem ZyA (k:IntKind)(a b:Int):ZM .mul .prim (.int k a) (.int k b)=some (.int k (k.wrap (a * b))):=by simp [ZM,JK,Kt]
theorem Z0i (k:IntKind)(a b:Int):ZM .eql .prim (.int k a) (.int k b)=some (.bool (decide (a=b))):=by
 simp only [ZM,JK,Kt,Bool.false_eq_true,if_false,if_true]; congr 2
theorem Z0n (k:IntKind)(a b:Int):ZM .neq .prim (.int k a) (.int k b)=some (.bool (decide (a≠b))):=by
 simp only [ZM,JK,Kt,Bool.false_eq_true,if_false,if_true]
 by_cases h:a=b <;> simp [h]
theorem Z0m (k:IntKind)(a b:Int):ZM .lss .prim (.int k a) (.int k b)=some (.bool (decide (a < b))):=by simp [ZM,JK,Kt]
theorem Z0l (k:IntKind)(a b:Int):ZM .leq .prim (.int k a) (.int k b)=some (.bool (decide (a≤b))):=by simp [ZM,JK,Kt]
theorem Z0k (k:IntKind)(a b:Int):ZM .gtr .prim (.int k a) (.int k b)=some (.bool (decide (b < a))):=by simp [ZM,JK,Kt]
theorem Z0j (k:IntKind)(a b:Int):ZM .geq .prim (.int k a) (.int k b)=some (.bool (decide (b≤a))):=by simp [ZM,JK,Kt]
theorem Z0w (a b:List UInt8):ZM .eql .prim (.str a) (.str b)=some (.bool (decide (a=b))):=by
 rw [Zwa,Zgz]; congr 2
 by_cases h:a=b <;> simp [h]
theorem Z0x (a b:List UInt8):ZM .neq .prim (.str a) (.str b)=some (.bool (decide (a≠b))):=by
 rw [Zwa,Zgz]; congr 2
 by_cases h:a=b <;> simp [h]
theorem ZzQ (b:Bool):Zdn .not (.bool b)=some (.bool (!b)):=rfl
theorem ZzP (k:IntKind)(n:Int):Zdn .neg (.int k n)=some (.int k (k.wrap (0 - n))):=rfl
theorem Zzk (hp:List Zm)(s:List UInt8):Xf hp .str (.str s)=some (.int .i64 s.length):=rfl
theorem Zzf (hp:List Zm)(k:Nat)(r:List (List AV)):Xf hp .slice (.lst k r)=some (.int .i64 r.length):=rfl
theorem ZyI (hp:List Zm)(k k':IntKind)(n:Int):XD hp (.int k) (.int k' n)=some (.int k (k.wrap n)):=rfl
theorem ZzW (l:List AV)(i:Nat):XW (.tup l) i=(l[i]?).map AV.ro:=rfl
theorem Zmj (bs:Nat)(ef:Eff):Gy bs ef none=ef:=rfl
theorem ZqY (hp0:List Zm)(b:Bool)(hp:List Zm):ZdB false hp0 (.bool b) hp none=(.bool b,hp0,none):=rfl
theorem ZtV (hp0:List Zm)(k:IntKind)(n:Int)(hp:List Zm):ZdB false hp0 (.int k n) hp none=(.int k n,hp0,none):=rfl
theorem ZtY (hp0:List Zm)(s:List UInt8)(hp:List Zm):ZdB false hp0 (.str s) hp none=(.str s,hp0,none):=rfl
theorem ZtW (hp0:List Zm)(k:Nat)(r:List (List AV))(hp:List Zm):ZdB false hp0 (.lst k r) hp none=(.lst k r,hp0,none):=rfl
theorem ZtX (hp0:List Zm)(k:Nat)(r:List (List AV))(hp:List Zm):ZdB false hp0 (.own k r) hp none=(.own k r,hp0,none):=rfl
theorem Zri (bs:Nat)(hp:List Zm)(k:IntKind)(n:Int):Zg8 bs hp (.int k n)=some (.int k n):=rfl
theorem Zrk (bs:Nat)(hp:List Zm)(s:List UInt8):Zg8 bs hp (.str s)=some (.str s):=rfl
theorem ZoA (bs:Nat)(hp:List Zm)(b:Bool):Zg8 bs hp (.bool b)=some (.bool b):=rfl
theorem Zrj (bs:Nat)(hp:List Zm)(k:Nat)(r:List (List AV)):Zg8 bs hp (.lst k r)=some (.lst k r):=rfl
theorem Ji (h:List Zm)(x:Zm):(h ++ [x])[h.length]? = some x:=by simp
theorem ZfC (h:List Zm)(x y:Zm):(h ++ [x]).set h.length y=h ++ [y]:=by simp
theorem ZzA (ks:List CK)(k:IntKind)(x y:Int)(l m:List AV):Yj (.int :: ks) (.int k x :: l) (.int k y :: m)=if x=y then Yj ks l m else some false:=by
 by_cases h:x=y
 ·subst h; simp [Yj,Wu]
 ·have:(x == y)=false:=by simpa using h
  simp [Yj,Wu,h,this]
theorem ZzC (ks:List CK)(x y:List UInt8)(l m:List AV):Yj (.str :: ks) (.str x :: l) (.str y :: m)=if x=y then Yj ks l m else some false:=by
 by_cases h:x=y
 ·subst h; simp [Yj,Wu]
 ·have:(x == y)=false:=by simpa using h
  simp [Yj,Wu,h,this]
theorem ZxJ (ks:List CK)(x y:Bool)(l m:List AV):Yj (.bool :: ks) (.bool x :: l) (.bool y :: m)=if x=y then Yj ks l m else some false:=by
 cases x <;> cases y <;> simp [Yj,Wu]
theorem ZzB:Yj [] [] []=some true:=rfl
theorem Z0v (p:Prop)[Decidable p](b:Bool):(if p then some b else some false)=some (decide p && b):=by by_cases h:p <;> simp [h]
theorem Zy9 (ks:List CK)(a b:List AV):ZM .eql (.struct ks) (.agg a) (.agg b)=(Yj ks a b).map .bool:=rfl
theorem ZyC (ks:List CK)(a b:List AV):ZM .neq (.struct ks) (.agg a) (.agg b)=(Yj ks a b).map fun b=>.bool (!b):=rfl
theorem Zy8 (a b:Bool):ZM .eql .bool (.bool a) (.bool b)=some (.bool (a == b)):=rfl
theorem ZyB (a b:Bool):ZM .neq .bool (.bool a) (.bool b)=some (.bool (!(a == b))):=rfl
def gif (b:Bool)(v:AV):AV:=if b=true then v else .undef
theorem ZyN (v:AV):gif true v=v:=rfl
theorem Zjk (b:Bool)(v:AV)(hp:List Zm)(ef:Eff)(k:AV→List Zm→Eff→KR):Pn (some b) (some (v,hp,ef)) hp ef k=k (gif b v) hp ef:=by cases b <;> rfl
theorem ZxO (b:Bool)(v:AV):AV.ro (gif b v)=gif b (AV.ro v):=by cases b <;> rfl
theorem Zsi (b c:Bool):ZdK (.bool b) (gif b (.bool c)) (.bool false)=some (.bool (b && c)):=by cases b <;> rfl
theorem Zsj (b c:Bool):ZdK (.bool b) (.bool true) (gif (!b) (.bool c))=some (.bool (b || c)):=by cases b <;> rfl
theorem Zuc (b c:Bool)(hp:List Zm)(ef:Eff)(k:AV→List Zm→Eff→KR):Zf1 (.bool b) true (some (.bool c,hp,ef)) (some (.bool false)) hp ef k=k (.bool (b && c)) hp ef:=by cases b <;> rfl
theorem Zwx (b c:Bool)(hp:List Zm)(ef:Eff)(k:AV→List Zm→Eff→KR):Zf1 (.bool b) false (some (.bool c,hp,ef)) (some (.bool true)) hp ef k=k (.bool (b || c)) hp ef:=by cases b <;> rfl
theorem Zwz (x:KR)(o:Option AV)(hp:List Zm)(ef:Eff)(k:AV→List Zm→Eff→KR):Zf1 (.bool true) true x o hp ef k=Ik x k:=rfl
theorem Zww (x:KR)(v:AV)(hp:List Zm)(ef:Eff)(k:AV→List Zm→Eff→KR):Zf1 (.bool false) true x (some v) hp ef k=k v hp ef:=rfl
theorem Zwy (x:KR)(v:AV)(hp:List Zm)(ef:Eff)(k:AV→List Zm→Eff→KR):Zf1 (.bool true) false x (some v) hp ef k=k v hp ef:=rfl
theorem Zwv (x:KR)(o:Option AV)(hp:List Zm)(ef:Eff)(k:AV→List Zm→Eff→KR):Zf1 (.bool false) false x o hp ef k=Ik x k:=rfl
@[congr] theorem ZvC {c c':AV}{w:Bool}{x x':KR}{o:Option AV}{hp:List Zm}{ef:Eff}{k:AV→List Zm→Eff→KR}(hc:c=c')(hx:x=x'):Zf1 c w x o hp ef k=Zf1 c' w x' o hp ef k:=by rw [hc,hx]
@[congr] theorem ZsS {b b':Bool}{x x':KR}{hp:List Zm}{ef:Eff}{k:AV→List Zm→Eff→KR}(hb:b=b')(hx:b'=true→x=x'):Pn (some b) x hp ef k=Pn (some b') x' hp ef k:=by
 subst hb
 cases b with
 | false=>rfl
 | true=>rw [hx rfl]
@[congr] theorem ZvM {α:Type}{x x':Option α}{k:α→KR}(h:x=x'):YV x k=YV x' k:=by rw [h]
@[congr] theorem ZvK {α β:Type}{x x':Option (α×β)}{k:α→β→KR}(h:x=x'):Zd0 x k=Zd0 x' k:=by rw [h]
@[congr] theorem ZvL {α β γ:Type}{x x':Option (α×β×γ)}{k:α→β→γ→KR}(h:x=x'):Ik x k=Ik x' k:=by rw [h]
@[congr] theorem ZvH {α:Type}{x x':α}{k:α→KR}(h:x=x'):ZvG x k=ZvG x' k:=by rw [h]
@[congr] theorem ZwB {x x':AV}{a b:KR}(h:x=x'):ifK x a b=ifK x' a b:=by rw [h]
theorem Zs3 (bs n:Nat)(h:List Zm)(cs:List AV)(t:TypeId)(o:Nat)(v:AV)(ef:Eff)(h1:v.cells.length=n)(h2:o + n≤cs.length)(h3:v.laid=true)(h4:bs≤h.length) :
  stV bs n (.ptr h.length o) v (h ++ [.cells cs t]) ef=some (h ++ [.cells (splice cs o v.cells) t],ef):=by
 simp only [stV,Ji,h1,h2,h3,and_self,if_true,ZfC,Nl]
 rw [if_neg (by omega)]
theorem ZfD (h:List Zm)(cs:List AV)(t:TypeId)(o:Nat):Y1 (h ++ [.cells cs t]) (.ptr h.length o)=(cs[o]?).map AV.ro:=by
 simp only [Y1,Ji]
theorem Zjp {hp:List Zm}{g:Nat}{cs:List AV}{t:TypeId}(h:hp[g]? = some (.cells cs t))(o:Nat):Y1 hp (.ptr g o)=(cs[o]?).map AV.ro:=by
 simp only [Y1,h]
theorem Zpa {hp:List Zm}{g:Nat}{cs:List AV}{t:TypeId}(h:hp[g]? = some (.cells cs t))(n o:Nat)(h1:o + n≤cs.length):XF hp n (.ptr g o)=some (.agg (((cs.drop o).take n).map AV.ro)):=by
 simp only [XF,h,h1,if_true]
theorem i64_in {x:Int}(h1:-9223372036854775808≤x)(h2:x≤9223372036854775807):IntKind.i64.wrap x=x:=IntWalk.i64_in x ⟨h1,h2⟩
theorem Dh (n:Nat)(h:n < 4611686018427387904):IntKind.i64.wrap ((n:Int) + 1)=((n + 1:Nat):Int):=by rw [i64_in (by omega) (by omega)]; omega
theorem Zun (hp:List Zm)(c:AV)(l:List AV):Y1 hp (.ref (c :: l))=some c.ro:=rfl
theorem Zwq (o:Nat)(c:List AV):KD o (.ref c)=some (.ref (c.drop o)):=rfl
theorem Zwp (o g p:Nat):KD o (.ptr g p)=some (.ptr g (p + o)):=rfl
theorem ZtB (n:Nat)(c:List AV)(h:c.length=n):ZsJ n (.agg c)=some c:=by simp [ZsJ,AV.cells,AV.laid,h]
end Go.Proofs.YtgjcjbhhhlelnaaGreatDoor.Abs
end
end
