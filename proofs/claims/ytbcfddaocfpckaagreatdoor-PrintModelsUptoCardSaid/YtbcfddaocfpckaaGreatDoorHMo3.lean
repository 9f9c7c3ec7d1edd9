import Derived.IntWalk
import Derived.Test.YtbcfddaocfpckaaGreatDoorHMo2
set_option linter.all false
open Bool renaming and_eq_true→fG,or_eq_true→aJ,false_eq_true→aK
open List renaming getElem?_eq_some_iff→ag,replicate→aO,getElem?_eq_getElem→bG,getElem?_set_self→iy,getElem?_set_ne→fQ,all_cons→fO,length_cons→dB,replicate_succ→jA,cons_append→gB
open Nat renaming beq→iC,eq_of_beq_eq_true→iE,le_trans→dK,le_of_ble_eq_true→jF,le_refl→dI,blt→iD,lt_of_lt_of_le→dM,lt_succ_self→jI,add_sub_cancel→jL
open Option renaming bind_eq_some_iff→jK,map_eq_some_iff→eP
section
namespace Go.Proofs.YtbcfddaocfpckaaGreatDoor.Tl
open Go Abs
section
variable {T:TT}{F:TF T}(ok:TFok F){TG:Nat→Option (List (TV T))}
theorem orQ_ok {call:CallF}[HasP call]{Q1 Q2:QT T}(h1:QS F call Q1)(h2:QS F call Q2):QS F call (orQ Q1 Q2):=by
 intro f vs fr q h
 unfold orQ at h
 cases hq:Q1 f vs fr with
 |some q'=>simp only [hq,Option.some.injEq] at h;subst h;exact h1 f vs fr q' hq
 |none=>simp only [hq] at h;exact h2 f vs fr q h
include ok
theorem inlQ_ok {C:Cfg}[HasP (evalCall C)]{L:Nat}(hL:C.L=L+64){Q:QT T}(hG:GR TG C.G)(hQ:QS F (evalCall C) Q){f:FuncId}{fn:AFn}(A:List LN)(d:RD)(hf:C.T f=some fn)(hk:fn.keep=false):QS F (evalCall C) (inlQ F TG Q L f fn A d):=by
 intro f' vs fr q h
 unfold inlQ at h
 cases hb:iC f f' with
 |false=>rw [hb,cond_false] at h;cases h
 |true =>
  rw [hb,cond_true] at h
  have:=iE hb;subst this
  cases h
  intro E J hp0 ad hp avs hh hv x hx
  exact fnT_ok ok hL hG hQ hf hk hx hh hv ad
omit ok in
theorem noOwn_nm {ad:List Nat}{d:RD}(hd:d.noOwn=true){x:d.Ty T}{a:AV}(h:VR ad (d.tv T x) a):VR ad (d.tv T x) a.nm:=by
 have:=h.nm
 cases d with
 |one d=>cases d<;>first|exact this|cases hd
 |tup l=>exact this
omit ok in
theorem _root_.Go.Proofs.YtbcfddaocfpckaaGreatDoor.Tl.SR.weakJ {N:Nat}{E:List Nat}{J J':Nat}{hp0:List AObj}{ad:List Nat}{te:TE T}{fr:FR T}{s:AState}(h:SR F N E J hp0 ad te fr s)(hJ:J≤J'):SR F N E J' hp0 ad te fr s :=
 ⟨h.hs,h.sl,h.ef,h.bs,⟨h.hp.old,h.hp.le,h.hp.al,h.hp.nd,fun j g hj=>⟨(h.hp.bd j g hj).1,fun hle=>(h.hp.bd j g hj).2 (dK hJ hle)⟩,h.hp.ob,h.hp.el⟩,h.un⟩
theorem decR_nm {N:Nat}{E:List Nat}{J:Nat}{hp0:List AObj}{ad:List Nat}{te:TE T}{fr:FR T}{s:AState}(hs:SR F N E J hp0 ad te fr s){rs:List ARes}{d:RD}{x:d.Ty T}(h:decR F N fr.length te fr rs d=some x)(hd:d.noOwn=true){v:AV}(hv:resultOf s rs=some v)(ad':List Nat):VR ad' (d.tv T x) v.nm:=by
 cases d with
 |one d =>
  simp only [decR] at h
  split at h
  ·rename_i q
   obtain ⟨w,h1,h2⟩:=jK.1 h
   obtain ⟨a,h3,h4⟩:=resT_ok ok hs h1
   have:v=a:=by
    have h5:resVal s q=some v:=hv
    rw [h3] at h5;cases h5;rfl
   subst this
   refine noOwn_nm hd (d := .one d) ?_
   unfold arrD at h2
   split at h2
   ·rename_i k e j o len k'
    obtain ⟨h5,h6⟩:=cond_some h2
    simp only [fG] at h5
    have hJ:=jF h5.1.2
    split at h6
    ·rename_i b hb
     have:=(ag.1 hb).1
     omega
    ·cases h6
   ·exact dec_ok ok h4 h2 ad'
  ·cases h
 |tup l =>
  simp only [decR] at h
  split at h
  ·cases h
  ·rename_i hne
   obtain ⟨vs,h1,h2⟩:=jK.1 h
   obtain ⟨az,h3,h4⟩:=ressT_ok ok hs h1
   have:resultOf s rs=(resVals s rs).map .tup:=by
    unfold resultOf
    split
    ·rename_i q;exact absurd rfl (hne q)
    ·rfl
   rw [this,h3] at hv
   cases hv
   exact .tup _ _ (decL_ok ok ad' h4 h2)
omit ok in
theorem _root_.Go.Proofs.YtbcfddaocfpckaaGreatDoor.Tl.HR.after {E:List Nat}{J:Nat}{hp0:List AObj}{ad:List Nat}{fr f1:FR T}{hp hp':List AObj}(hh:HR F E J hp0 ad fr hp){E':List Nat}{J':Nat}(h:HR F E' J' hp ad f1 hp')(hE:∀j,inN j E'=true→mayT E J j=true):HR F E J hp0 ad f1 hp' where
 old:=fun g o hg hE0=>by
  refine h.old g o (hh.old g o hg hE0) fun j hj e=>?_
  have hl:=(ag.1 hg).1
  have:=hE j hj
  unfold mayT at this
  rw [aJ] at this
  rcases this with h1|h1
  ·have:=(hh.bd j g e).2 (jF h1);omega
  ·exact hE0 j h1 e
 le:=dK hh.le h.le
 al:=h.al
 nd:=h.nd
 bd:=fun j g hj=>⟨(h.bd j g hj).1,(hh.bd j g hj).2⟩
 ob:=h.ob
 el:=hh.el
omit ok in
theorem putE_wd {W:List Nat}{fr f:FR T}(h:FRel W fr f):FGrow fr f:=fun j b hb=>by
 obtain ⟨b0,i1,i2,i3,i4,i5⟩:=h.ob j b hb
 refine ⟨b0,i1,i2,i3,?_,?_⟩
 ·cases hj:inN j W with
  |true=>exact Nat.le_of_lt (i5 hj)
  |false=>rw [i4 hj];exact dI _
 ·intro e
  cases hj:inN j W with
  |true=>have:=i5 hj;omega
  |false=>exact i4 hj
theorem fnE_ok {C:Cfg}[HasP (evalCall C)]{L:Nat}(hL:C.L=L+64){Q:QT T}(hG:GR TG C.G)(hQ:QS F (evalCall C) Q){f:FuncId}{fn:AFn}{A:List LN}{d:RD}{B:LA}{vs:List (TV T)}{fr:FR T}{y:d.Ty T×Acc T B}(hf:C.T f=some fn)(hk:fn.keep=false)(h:fnE F TG Q L fn A d B vs fr=some y)
  {E0:List Nat} {J0:Nat} {hq hp:List AObj} {ad:List Nat} {avs:List AV} (hh:HR F E0 J0 hq ad fr hp) (hv:LR ad vs avs) {f1:FR T} (hf1:putF F (spoilF (cellsOf B) 0 fr) B y.2=some f1) :
  ∃a hp' e,(∀ad',VR ad' (d.tv T y.1) a)∧(Ev fun n=>evalCall C n f avs hp=some (a,hp',e))∧HR F (cellsOf B) fr.length hp ad f1 hp'∧EfOk (cellsOf B) ad e∧FGrow fr f1∧UnOk hp hp' e:=by
 unfold fnE at h
 obtain ⟨h0,h⟩:=cond_some h
 rw [fG] at h0
 have hE:∀j,inN j (cellsOf B)=true→j<fr.length:=fun j hj=>by
  have:=List.all_eq_true.1 h0.1 j (inN_mem hj)
  exact Nat.lt_of_succ_le (by simpa [iD] using this)
 have hs:SR F fn.ntmps (cellsOf B) fr.length hp ad (argT vs) fr ⟨avs++aO (fn.ntmps - avs.length) .undef,hp,none,hp.length⟩:=SR.enter hh hE hv
 letI:PanC (d.Ty T×Acc T B):=⟨fun _=>none⟩
 rcases codeT_ok ok hG hQ fn.code h hs with ⟨ex,te',fr',ad1,s',h1,h2⟩|hp
 rotate_left
 ·obtain ⟨z,hz,_⟩:=hp
  cases hz
 have hex:∀id,ex≠.exit id:=fun id e=>by subst e;simp [Out,lookT] at h1
 have h1:lastE F fn.ntmps fn.results d B fr (fun x a=>(x,a)) te' fr'=some y:=by
  cases ex with
  |normal=>exact h1
  |exit id=>exact absurd rfl (hex id)
  |ret=>exact h1
 ·unfold lastE at h1
  split at h1
  ·rename_i hsame
   split at h1
   ·rename_i x a hx ha
    cases h1
    obtain ⟨w,rfl⟩:=h2.gr.ad
    have hJJ:fr.length≤fr'.length:=by rw [← h2.sr.hp.al,← hs.hp.al,List.length_append];omega
    obtain ⟨v,b,i1,i2,i3⟩:=decR_ok ok (h2.sr.weakJ hJJ) hx []
    have i3':∀ad',VR ad' (d.tv T x) b:=fun ad'=>by
     obtain ⟨v',b',j1,j2,j3⟩:=decR_ok ok (h2.sr.weakJ hJJ) hx ad'
     rw [i1] at j1;cases j1
     rw [i2] at j2;cases j2
     exact j3
    obtain ⟨k1,k2⟩:=putF_ok ok h2.sr ha hf1 (W := cellsOf B) (fun j hj=>hj) (hs.hp.spoil ok h2.sr.hp fun j b hb=>by
     obtain ⟨b',q1,q2,q3,q4,q5⟩:=h2.gr.fr j b hb
     refine ⟨b',q1,q2,q3,fun hj=>q5 ?_⟩
     exact (sameF_ok hsame hb q1 (by rw [Nat.zero_add];exact hj)).symm) (spoilF_rel (cellsOf B) fr)
    have hbs:s'.bs=hp.length:=h2.sr.bs
    have hle:=h2.sr.hp.le
    have back:∃a' hp' ,finish v s' hp=(a',hp',s'.ef)∧(∀ad',VR ad' (d.tv T x) a')∧hp.length≤hp'.length∧(∀g,g<hp.length→hp'[g]? = s'.hp[g]?):=by
     cases he:s'.ef with
     |none =>
      refine ⟨b,hp,by simp only [finish,i2,he],i3',dI _,fun g hg=>?_⟩
      have:=h2.sr.un g hp[g] (bG hg) fun a c hac=>by rw [he] at hac;cases hac
      rw [this,bG hg]
     |some p =>
      by_cases hu:(s'.hp.take s'.bs).all (AObj.under s'.bs)=true
      ·refine ⟨b,s'.hp.take s'.bs,by simp only [finish,i2,he,hu,if_true],i3',by rw [List.length_take,hbs,Nat.min_eq_left hle];exact dI _,fun g hg=>?_⟩
       rw [hbs,List.getElem?_take_of_lt hg]
      ·refine ⟨v.nm,s'.hp,by simp only [finish,i2,he,hu,aK,if_false],?_,hle,fun _ _=>rfl⟩
       exact fun ad'=>decR_nm ok h2.sr hx h0.2 i1 ad'
    obtain ⟨a',hp',b1,b2,b3,b4⟩:=back
    refine ⟨a',hp',s'.ef,b2,?_,?_,h2.sr.ef.shrink hs.hp,putE_wd k2,fun g o hg hac=>?_⟩
    ·obtain ⟨n0,hn⟩:=h2.ev
     refine ⟨n0+1,fun n hle=>?_⟩
     obtain ⟨m,rfl⟩:∃m,n=m+1:=⟨n - 1,by omega⟩
     cases ex with
     |exit id=>exact absurd rfl (hex id)
     |normal=>simp only [evalCall,hf,hL,hn m (by omega),i1,hk,aK,if_false,b1]
     |ret=>simp only [evalCall,hf,hL,hn m (by omega),i1,hk,aK,if_false,b1]
    ·refine ⟨fun g o hg hE'=>?_,b3,k1.al,k1.nd,fun j g hj=>?_,fun j c hj=>?_,k1.el⟩
     ·have hl:=(ag.1 hg).1
      rw [b4 g hl]
      exact k1.old g o hg hE'
     ·have hg:=(hh.bd j g hj).1
      refine ⟨dM hg b3,fun hle=>?_⟩
      have:=(ag.1 hj).1
      rw [hh.al] at this
      omega
     ·obtain ⟨g,o,q1,q2,q3⟩:=k1.ob j c hj
      exact ⟨g,o,q1,by rw [b4 g (hh.bd j g q1).1];exact q2,q3⟩
    ·have hl:=(ag.1 hg).1
     rw [b4 g hl]
     exact h2.sr.un g o hg hac
   ·cases h1
  ·cases h1
theorem inlE_ok {C:Cfg}[HasP (evalCall C)]{L:Nat}(hL:C.L=L+64){Q:QT T}(hG:GR TG C.G)(hQ:QS F (evalCall C) Q){f:FuncId}{fn:AFn}(A:List LN)(d:RD)(B:LA)(hf:C.T f=some fn)(hk:fn.keep=false):QS F (evalCall C) (inlE F TG Q L f fn A d B):=by
 intro f' vs fr q h
 unfold inlE at h
 cases hb:iC f f' with
 |false=>rw [hb,cond_false] at h;cases h
 |true =>
  rw [hb,cond_true] at h
  have:=iE hb;subst this
  cases h
  intro E J hp0 ad hp avs hh hv x v fr' hx hg hE
  obtain ⟨f1,hf1,e1⟩:=eP.1 hg
  cases e1
  obtain ⟨a,hp',e,i1,i2,i3,i4,i5,i6⟩:=fnE_ok ok hL hG hQ hf hk hx hh hv hf1
  exact ⟨a,hp',e,i1 ad,i2,hh.after i3 hE,i4,i5,i6⟩
theorem inlsQ_ok {C:Cfg}[HasP (evalCall C)]{L:Nat}(hL:C.L=L+64){Q:QT T}(hG:GR TG C.G)(hQ:QS F (evalCall C) Q):∀{l:List (Inl T)},(∀i∈l,C.T i.f=some i.fn∧i.fn.keep=false)→QS F (evalCall C) (inlsQ F TG Q L l)
 | [],_=>fun f vs fr q h=>by cases h
 |i::l,hl=>by
  obtain ⟨h1,h2⟩:=hl i (List.mem_cons_self ..)
  refine orQ_ok ?_ (inlsQ_ok hL hG hQ fun j hj=>hl j (List.mem_cons_of_mem _ hj))
  intro f vs fr q h
  simp only at h
  split at h
  ·exact inlQ_ok ok hL hG hQ i.A i.d h1 h2 f vs fr q h
  ·exact inlE_ok ok hL hG hQ i.A i.d _ h1 h2 f vs fr q h
theorem stackQ_ok {C:Cfg}[HasP (evalCall C)]{L:Nat}(hL:C.L=L+64){S:QT T}(hG:GR TG C.G)(hS:QS F (evalCall C) S){l:List (Inl T)}(hl:∀i∈l,C.T i.f=some i.fn∧i.fn.keep=false):∀k,QS F (evalCall C) (stackQ F TG S L l k)
 |0=>hS
 |k+1=>orQ_ok hS (inlsQ_ok ok hL hG (stackQ_ok hL hG hS hl k) hl)
end
theorem Zn {α β:Type}(a:α)(k:α→Option β):bT (some a) k=k a:=rfl
theorem Zf {α:Type}(l:List α)(i:Nat):getT l (i:Int)=l[i]?:=by
 unfold getT;rw [if_pos (Int.natCast_nonneg i)];rfl
theorem Aw {α:Type}(l:List α):getT l 0=l[0]?:=Zf l 0
theorem ZkH {α:Type}(l:List α):getT l 1=l[1]?:=Zf l 1
theorem wrap_in {n:Int}(h1:-9223372036854775808≤n)(h2:n≤9223372036854775807):IntKind.i64.wrap n=n:=IntWalk.i64_in n ⟨h1,h2⟩
theorem Zg {α:Type}{l:List α}{i:Nat}(h:i<l.length):decide ((i:Int)<(l.length:Int))=true:=by simpa using h
theorem Zd (n:Nat):decide ((n:Int)<(n:Int))=false:=by simp
theorem wrap_succ {α:Type}{l:List α}{i:Nat}(h:i<l.length)(hl:l.length≤4611686018427387904):IntKind.i64.wrap ((i:Int)+1)=(i:Int)+1:=wrap_in (by omega) (by omega)
theorem Zo {α:Type _}{P:α→Prop}:∀s∈([]:List α),P s:=fun s h=>by cases h
theorem Zb {α:Type _}{P:α→Prop}{a:α}{l:List α}(h:P a)(hl:∀s∈l,P s):∀s∈a::l,P s:=fun s hs=>by
 rcases List.mem_cons.1 hs with rfl|hs
 ·exact h
 ·exact hl s hs
theorem Qb {α:Type _}{P:α→Prop}{l m:List α}(h:∀s∈l,P s)(hm:∀s∈m,P s):∀s∈l++m,P s:=fun s hs=>by
 rcases List.mem_append.1 hs with hs|hs
 ·exact h s hs
 ·exact hm s hs
theorem YP {T:TT}{C:Cfg}(f:FuncId)(sig:List SD)(d:RD):SumOk (T := T) C ⟨f,sig,fun _=>.par (d.Ty T) none (d.tv T)⟩:=fun x hp avs hv y hy=>by cases hy
def catB (l s:List UInt8):Option (List UInt8):=if l.length+s.length≤140737488355328∧l++s≠[] then some (l++s) else none
def OM.bufL (t e:TypeId)(k:Nat):OM→Option (List UInt8×List Int)
 |.buf l t' e' m=>bif iC t t' && iC e e' && iC m.length k then some (l,m) else none
 |.buf0 t' m=>bif iC t t' && iC m.length k then some ([],m) else none
 |_=>none
def bufC {T:TT}(t e:TypeId)(k:Nat)(fr:List (TO T))(j:Nat):Option (TO T×List UInt8×List Int) :=
 match fr[j]? with
 |some b=>match b.m.bufL t e k with
  |some l=>some (b,l)
  |none=>none
 |none=>none
def bufQ {T:TT}(t e:TypeId)(k:Nat)(ws wb sb ln:FuncId):QT T:=fun f vs fr =>
 bif iC ws f then (match vs with
  | [.loc j 0,.av (.str s)]=>match bufC t e k fr j with
   |some (b,l,m)=>some (.eff [j] (List UInt8) (catB l s) fun r=>some (.tup [.av (.int .i64 s.length),.av .nili],fr.set j ⟨b.s+1,[],b.t,.buf r t e m⟩))
   |none=>none
  |_=>none)
 else bif iC wb f&&iD wb 900000 then (match vs with
  | [.loc j 0,.av (.int .u8 c)]=>match bufC t e k fr j with
   |some (b,l,m)=>some (.eff [j] (List UInt8) (if 0≤c∧c<256 then catB l [UInt8.ofNat c.toNat] else none) fun r=>some (.av .nili,fr.set j ⟨b.s+1,[],b.t,.buf r t e m⟩))
   |none=>none
  |_=>none)
 else bif iC sb f then (match vs with
  | [.loc j 0]=>match bufC t e k fr j with
   |some (b,l,_)=>some (.eff [j] Unit (some ()) fun _=>some (.av (.str l),fr.set j ⟨b.s+1,[],b.t,.bad⟩))
   |none=>none
  |_=>none)
 else bif iC ln f&&iD ln 900000 then (match vs with
  | [.loc j 0]=>match bufC t e k fr j with
   |some (_,l,_)=>some (.tot (.av (.int .i64 l.length)))
   |none=>none
  |_=>none)
 else none
abbrev emptyB (t:TypeId)(m:List Int):AObj:=.cells (.nilp::.nils 1::m.map (.int .i64)) t
abbrev fullB (l:List UInt8)(t e:TypeId)(m:List Int):AObj:=.buf l t e (m.map (.int .i64))
structure BufOk (C:Cfg)(t e:TypeId)(k:Nat)(ws wb sb ln:FuncId):Prop where
 ws0:∀(n p:Nat) (s:List UInt8) (m:List Int) (hp:List AObj),m.length=k→hp[p]? = some (emptyB t m)→s.length≤140737488355328→evalCall C (n+1) ws [.ptr p 0,.str s] hp=some (.tup [.int .i64 s.length,.nili],hp.set p (fullB s t e m),some (p,0))
 ws1:∀(n p:Nat) (s l:List UInt8) (m:List Int) (hp:List AObj),m.length=k→hp[p]? = some (fullB l t e m)→l.length+s.length≤140737488355328→evalCall C (n+1) ws [.ptr p 0,.str s] hp=some (.tup [.int .i64 s.length,.nili],hp.set p (fullB (l++s) t e m),some (p,0))
 wb0:wb<900000→∀(n p:Nat) (c:Int) (m:List Int) (hp:List AObj),m.length=k→hp[p]? = some (emptyB t m)→0≤c∧c<256→evalCall C (n+1) wb [.ptr p 0,.int .u8 c] hp=some (.nili,hp.set p (fullB [UInt8.ofNat c.toNat] t e m),some (p,0))
 wb1:wb<900000→∀(n p:Nat) (c:Int) (l:List UInt8) (m:List Int) (hp:List AObj),m.length=k→hp[p]? = some (fullB l t e m)→l.length+1≤140737488355328→0≤c∧c<256→evalCall C (n+1) wb [.ptr p 0,.int .u8 c] hp=some (.nili,hp.set p (fullB (l++[UInt8.ofNat c.toNat]) t e m),some (p,0))
 sb0:∀(n p:Nat) (m:List Int) (hp:List AObj),m.length=k→hp[p]? = some (emptyB t m)→evalCall C (n+1) sb [.ptr p 0] hp=some (.str [],hp,none)
 sb1:∀(p:Nat) (l:List UInt8) (m:List Int) (hp:List AObj),m.length=k→hp[p]? = some (fullB l t e m)→l≠[]→∃o,∀n,evalCall C (n+1) sb [.ptr p 0] hp=some (.str l,hp.set p o,some (p,0))
 ln0:ln<900000→∀(n p:Nat) (m:List Int) (hp:List AObj),m.length=k→hp[p]? = some (emptyB t m)→evalCall C (n+1) ln [.ptr p 0] hp=some (.int .i64 0,hp,none)
 ln1:ln<900000→∀(n p:Nat) (l:List UInt8) (m:List Int) (hp:List AObj),m.length=k→hp[p]? = some (fullB l t e m)→l≠[]→evalCall C (n+1) ln [.ptr p 0] hp=some (.int .i64 l.length,hp,none)
section
variable {T:TT}{F:TF T}
theorem bufL_ok {ad:List Nat}{b:TO T}{o:AObj}{t e:TypeId}{k:Nat}{l:List UInt8}{m:List Int}(hb:OR ad b o)(h:b.m.bufL t e k=some (l,m)):m.length=k∧b.c=[]∧b.m.isNo=false∧((l=[]∧o=emptyB t m)∨(l≠[]∧o=fullB l t e m)):=by
 cases hb with
 |cells cs hm _=>rw [hm] at h;cases h
 |bad o hm _=>rw [hm] at h;cases h
 |map0 hm hc=>rw [hm] at h;cases h
 |map m l hm hc=>rw [hm] at h;cases h
 |buf0 t m hm hc =>
  rw [hm] at h
  obtain ⟨h1,h2⟩:=cond_some h
  cases h2
  simp only [fG] at h1
  have:=iE h1.1;subst this
  exact ⟨iE h1.2,hc,by rw [hm];rfl,.inl ⟨rfl,rfl⟩⟩
 |bufN t e' m hm hc =>
  rw [hm] at h
  obtain ⟨h1,h2⟩:=cond_some h
  cases h2
  simp only [fG] at h1
  have:=iE h1.1.1;subst this
  exact ⟨iE h1.2,hc,by rw [hm];rfl,.inl ⟨rfl,rfl⟩⟩
 |buf l t e' m hm hc hl =>
  rw [hm] at h
  obtain ⟨h1,h2⟩:=cond_some h
  cases h2
  simp only [fG] at h1
  have:=iE h1.1.1;subst this
  have:=iE h1.1.2;subst this
  exact ⟨iE h1.2,hc,by rw [hm];rfl,.inr ⟨hl,rfl⟩⟩
theorem bufC_ok {E:List Nat}{J:Nat}{hp0:List AObj}{ad:List Nat}{fr:FR T}{hp:List AObj}(hh:HR F E J hp0 ad fr hp){t e:TypeId}{k j:Nat}{b:TO T}{l:List UInt8}{m:List Int}(h:bufC t e k fr j=some (b,l,m)) :
  fr[j]? = some b∧m.length=k∧b.c=[]∧b.m.isNo=false∧∃g,ad[j]? = some g∧((l=[]∧hp[g]? = some (emptyB t m))∨(l≠[]∧hp[g]? = some (fullB l t e m))):=by
 unfold bufC at h
 split at h
 ·rename_i b' hb
  split at h
  ·rename_i l' hl
   cases h
   obtain ⟨g,o,h1,h2,h3⟩:=hh.ob j b hb
   obtain ⟨hk,hc,hn,ho⟩:=bufL_ok h3 hl
   refine ⟨hb,hk,hc,hn,g,h1,?_⟩
   rcases ho with ⟨h4,rfl⟩|⟨h4,rfl⟩
   ·exact .inl ⟨h4,h2⟩
   ·exact .inr ⟨h4,h2⟩
  ·cases h
 ·cases h
theorem ev_at {C:Cfg}[HasP (evalCall C)]{f:FuncId}{avs:List AV}{hp:List AObj}{r:AV×List AObj×Eff}(h:∀n,evalCall C (n+1) f avs hp=some r):Ev fun n=>evalCall C n f avs hp=some r:=⟨1,fun n hn=>by
 obtain ⟨k,rfl⟩:∃k,n=k+1:=⟨n - 1,by omega⟩
 exact h k⟩
theorem buf_args {ad:List Nat}{j:Nat}{v:TV T}{avs:List AV}(h:LR ad [.loc j 0,v] avs):∃g a,ad[j]? = some g∧avs=[.ptr g 0,a]∧VR ad v a:=by
 cases h with|cons _ a h1 _ _ h2=>cases h2 with|cons _ b h3 _ _ h4=>cases h4 with|nil=>cases h1 with|loc _ _ g hg=>exact ⟨g,b,hg,rfl,h3⟩
theorem FGrow.cont {fr:FR T}{j:Nat}{b b':TO T}(hb:fr[j]? = some b)(ht:b'.ty=b.ty)(hw:wdL b'.c=wdL b.c)(hs:b.s<b'.s):FGrow fr (fr.set j b'):=fun i c hi=>by
 by_cases e:i=j
 ·subst e
  rw [hb] at hi;cases hi
  exact ⟨b',by rw [iy (ag.1 hb).1],ht,hw,by omega,fun e=>by omega⟩
 ·exact ⟨c,by rw [fQ (by omega)];exact hi,rfl,rfl,dI _,fun _=>rfl⟩
theorem un_at {hp:List AObj}{g:Nat}{o:AObj}:UnOk hp (hp.set g o) (some (g,0)):=fun g' o' h1 h2=>by
 have:=h2 g 0 rfl
 rw [fQ (by omega)];exact h1
theorem inN_one {j i:Nat}(h:i=j):inN i [j]=true:=by subst h;simp [inN]
theorem bufQ_ok {C:Cfg}[HasP (evalCall C)]{t e:TypeId}{k:Nat}{ws wb sb ln:FuncId}(ok:BufOk C t e k ws wb sb ln):QS F (evalCall C) (bufQ (T := T) t e k ws wb sb ln):=by
 intro f vs fr q h
 unfold bufQ at h
 have put:∀{E:List Nat} {J:Nat} {hp0:List AObj} {ad:List Nat} {hp:List AObj} {j g:Nat} {b:TO T} {r:List UInt8} {m:List Int},HR F E J hp0 ad fr hp→fr[j]? = some b→b.c=[]→b.m.isNo=false→ad[j]? = some g→mayT E J j=true→r≠[] →
   HR F E J hp0 ad (fr.set j ⟨b.s+1,[],b.t,.buf r t e m⟩) (hp.set g (fullB r t e m))∧EfOk [j] ad (some (g,0))∧FGrow fr (fr.set j ⟨b.s+1,[],b.t,.buf r t e m⟩)∧UnOk hp (hp.set g (fullB r t e m)) (some (g,0)):=by
  intro E J hp0 ad hp j g b r m hh hb hc hn hg hJ hr
  refine ⟨hh.store hb hg hJ (.buf r t e m rfl rfl hr),fun a c he=>?_,FGrow.cont hb ?_ (by rw [hc]) (jI _),un_at⟩
  ·cases he;exact ⟨j,g,inN_one rfl,hg,dI _⟩
  ·show (b.t,false)=(b.t,b.m.isNo);rw [hn]
 have cat:∀{l s r:List UInt8},catB l s=some r→l.length+s.length≤140737488355328∧r=l++s∧r≠[]:=by
  intro l s r h
  unfold catB at h
  split at h
  ·rename_i hc;cases h;exact ⟨hc.1,rfl,hc.2⟩
  ·cases h
 cases h1:iC ws f with
 |true =>
  have:=iE h1;subst this
  rw [h1,cond_true] at h
  split at h<;>first|(cases h;done)|skip
  rename_i j s
  split at h<;>first|(cases h;done)|skip
  rename_i b l m hbc
  cases h
  intro E J hp0 ad hp avs hh hv r v fr' hr hg hE
  cases hg
  obtain ⟨g,a,ha,rfl,h2⟩:=buf_args hv
  have:=h2.str;subst this
  obtain ⟨hb,hk,hc,hn,g',hg',ho⟩:=bufC_ok hh hbc
  rw [ha] at hg';cases hg'
  obtain ⟨e1,rfl,e3⟩:=cat hr
  obtain ⟨p1,p2,p3,p4⟩:=put hh hb hc hn ha (hE j (inN_one rfl)) e3
  refine ⟨.tup [.int .i64 s.length,.nili],_,_,.tup _ _ (.cons _ _ (.av _ _ (.inl rfl)) _ _ (.cons _ _ (.av _ _ (.inl rfl)) _ _ .nil)),?_,p1,p2,p3,p4⟩
  rcases ho with ⟨rfl,ho⟩|⟨hl,ho⟩
  ·exact ev_at fun n=>ok.ws0 n g s m hp hk ho (by simpa using e1)
  ·exact ev_at fun n=>ok.ws1 n g s l m hp hk ho e1
 |false =>
 rw [h1,cond_false] at h
 cases h1:(iC wb f&&iD wb 900000) with
 |true =>
  rw [h1,cond_true] at h
  rw [fG] at h1
  have:=iE h1.1;subst this
  have hlt:wb<900000:=jF h1.2
  split at h<;>first|(cases h;done)|skip
  rename_i j c
  split at h<;>first|(cases h;done)|skip
  rename_i b l m hbc
  cases h
  intro E J hp0 ad hp avs hh hv r v fr' hr hg hE
  cases hg
  obtain ⟨g,a,ha,rfl,h2⟩:=buf_args hv
  have:=h2.int;subst this
  obtain ⟨hb,hk,hc,hn,g',hg',ho⟩:=bufC_ok hh hbc
  rw [ha] at hg';cases hg'
  split at hr
  ·rename_i hcc
   obtain ⟨e1,rfl,e3⟩:=cat hr
   obtain ⟨p1,p2,p3,p4⟩:=put hh hb hc hn ha (hE j (inN_one rfl)) e3
   refine ⟨.nili,_,_,.av _ _ (.inl rfl),?_,p1,p2,p3,p4⟩
   rcases ho with ⟨rfl,ho⟩|⟨hl,ho⟩
   ·exact ev_at fun n=>ok.wb0 hlt n g c m hp hk ho hcc
   ·exact ev_at fun n=>ok.wb1 hlt n g c l m hp hk ho (by simpa using e1) hcc
  ·cases hr
 |false =>
 rw [h1,cond_false] at h
 cases h1:iC sb f with
 |true =>
  have:=iE h1;subst this
  rw [h1,cond_true] at h
  split at h<;>first|(cases h;done)|skip
  rename_i j
  split at h<;>first|(cases h;done)|skip
  rename_i b l m hbc
  cases h
  intro E J hp0 ad hp avs hh hv r v fr' hr hg hE
  cases hg
  cases hv with|cons _ a h2 _ _ h3=>cases h3 with|nil=>cases h2 with|loc _ _ g ha =>
   obtain ⟨hb,hk,hc,hn,g',hg',ho⟩:=bufC_ok hh hbc
   rw [ha] at hg';cases hg'
   have ty:(⟨b.s+1,[],b.t,.bad⟩:TO T).ty=b.ty:=by show (b.t,false)=(b.t,b.m.isNo);rw [hn]
   have gr:=FGrow.cont hb (b':=⟨b.s+1,[],b.t,.bad⟩) ty (by rw [hc]) (jI _)
   rcases ho with ⟨rfl,ho⟩|⟨hl,ho⟩
   ·exact ⟨.str [],hp,none,.av _ _ (.inl rfl),ev_at fun n=>ok.sb0 n g m hp hk ho,hh.same hb ha ho (.bad _ rfl rfl),fun a c he=>(by cases he),gr,fun _ _ h _=>h⟩
   ·obtain ⟨o,hev⟩:=ok.sb1 g l m hp hk ho hl
    exact ⟨.str l,hp.set g o,some (g,0),.av _ _ (.inl rfl),ev_at hev,hh.store hb ha (hE j (inN_one rfl)) (.bad _ rfl rfl),fun a c he=>(by cases he;exact ⟨j,g,inN_one rfl,ha,dI _⟩),gr,un_at⟩
 |false =>
 rw [h1,cond_false] at h
 cases h1:(iC ln f&&iD ln 900000) with
 |true =>
  rw [h1,cond_true] at h
  rw [fG] at h1
  have:=iE h1.1;subst this
  have hlt:ln<900000:=jF h1.2
  split at h<;>first|(cases h;done)|skip
  rename_i j
  split at h<;>first|(cases h;done)|skip
  rename_i b l m hbc
  cases h
  intro E J hp0 ad hp avs hh hv
  cases hv with|cons _ a h2 _ _ h3=>cases h3 with|nil=>cases h2 with|loc _ _ g ha =>
   obtain ⟨hb,hk,hc,hn,g',hg',ho⟩:=bufC_ok hh hbc
   rw [ha] at hg';cases hg'
   rcases ho with ⟨rfl,ho⟩|⟨hl,ho⟩
   ·exact ⟨_,.av _ _ (.inl rfl),ev_at fun n=>ok.ln0 hlt n g m hp hk ho⟩
   ·exact ⟨_,.av _ _ (.inl rfl),ev_at fun n=>ok.ln1 hlt n g l m hp hk ho hl⟩
 |false=>rw [h1,cond_false] at h;cases h
end
inductive OD where
 |cells (l:List SD)
 |cont (d:MD)
def OD.Ty (T:TT):OD→Type
 |.cells l=>RTy T l
 |.cont d=>d.Ty
def oneSD:SD→Bool
 |.row _=>false
 |_=>true
def OD.ok:OD→Bool
 |.cells l=>l.all oneSD
 |.cont _=>true
def OD.get {T:TT}(F:TF T):(d:OD)→TO T→Option (d.Ty T)
 |.cells l,b=>match b.m with
  |.no=>decL F l b.c
  |_=>none
 |.cont d,b=>d.get b.m
def OD.to (T:TT)(t:TypeId)(s:Nat):(d:OD)→d.Ty T→TO T
 |.cells l,x=>⟨s,tvL T l x,t,.no⟩
 |.cont d,x=>⟨s,[],t,d.om x⟩
def cellLA:Nat→List SD→LA
 |_,[]=>[]
 |o,d::l=>.cell 0 o d::cellLA (o+1) l
def OD.la:OD→LA
 |.cells l=>cellLA 0 l
 |.cont d=>[.cont 0 d]
def unL (T:TT):(o:Nat)→(l:List SD)→Acc T (cellLA o l)→RTy T l
 |_,[],_=>()
 |o,_::l,(x,r)=>(x,unL T (o+1) l r)
def OD.un (T:TT):(d:OD)→Acc T d.la→d.Ty T
 |.cells l,a=>unL T 0 l a
 |.cont _,a=>a.1
structure SumE (T:TT) where
 f:FuncId
 ty:TypeId
 od:OD
 sig:List SD
 rd:RD
 y:RTy T sig→od.Ty T→Option (rd.Ty T×od.Ty T)
def eQ {T:TT}(F:TF T):List (SumE T)→QT T
 | [],_,_,_=>none
 |s::l,f,vs,fr=>bif iC s.f f then (match vs with
  |.loc j 0::rest=>match fr[j]? with
   |some b=>bif iC b.t s.ty then (match s.od.get F b,decL F s.sig rest with
    |some c,some x=>some (.eff [j] _ (s.y x c) fun r=>some (s.rd.tv T r.1,fr.set j (s.od.to T b.t (b.s+1) r.2)))
    |_,_=>none) else none
   |none=>none
  |_=>none) else eQ F l f vs fr
section
variable {T:TT}{F:TF T}
theorem dec_one {d:SD}(h:oneSD d=true){τ:Nat}{y:T.D τ}:SD.dec F d (.row τ y)=none:=by
 cases d<;>first|rfl|(cases h)
theorem CR.dec (ok:TFok F){ad:List Nat}(ad':List Nat):∀{l:List SD} {vs:List (TV T)} {cs:List AV} {x:RTy T l},l.all oneSD=true→CR ad vs cs→decL F l vs=some x→CR ad' (tvL T l x) cs
 | [],_,_,x,_,.nil,h=>.nil
 | [],_,_,x,_,.row ..,h=>by simp [decL] at h
 | [],_,_,x,_,.one ..,h=>by simp [decL] at h
 |d::l,_,_,x,_,.nil,h=>by simp [decL] at h
 |d::l,_,_,x,hl,.row τ y c hc vs ds hv,h=>by
  rw [fO,fG] at hl
  simp only [decL,dec_one hl.1] at h
  cases h
 |d::l,_,_,x,hl,.one v a hv h1 vs ds hr,h=>by
  rw [fO,fG] at hl
  simp only [decL] at h
  split at h
  ·rename_i y r hy hr'
   cases h
   exact .one _ _ (dec_ok ok hv hy ad') h1 _ _ (CR.dec ok ad' hl.2 hr hr')
  ·cases h
theorem wdL_tvL:∀{l:List SD} (x:RTy T l),l.all oneSD=true→wdL (tvL T l x)=l.length
 | [],_,_=>rfl
 |d::l,(x,r),hl=>by
  rw [fO,fG] at hl
  simp only [tvL,wdL,dB,wdL_tvL r hl.2]
  have:(d.tv T x).wd=1:=by cases d<;>first|rfl|(cases hl.1)
  omega
theorem OD.get_ok (ok:TFok F){d:OD}(hd:d.ok=true){ad:List Nat}{b:TO T}{ob:AObj}{c:d.Ty T}(hb:OR ad b ob)(h:d.get F b=some c)(ad':List Nat)(s:Nat):OR ad' (d.to T b.t s c) ob∧(∀c' s',(d.to T b.t s' c').ty=b.ty∧wdL (d.to T b.t s' c').c=wdL b.c):=by
 cases d with
 |cells l =>
  have hq:b.m=.no∧decL F l b.c=some c:=by
   have h':(match b.m with|.no=>decL F l b.c|_=>none)=some c:=h
   cases hm:b.m<;>rw [hm] at h' <;> first|exact ⟨rfl,h'⟩|(exact nomatch h')
  obtain ⟨hm,h'⟩:=hq
  cases hb with
  |cells cs _ hc =>
   refine ⟨.cells cs rfl (CR.dec ok ad' hd hc h'),fun c' s'=>⟨?_,?_⟩⟩
   ·show (b.t,true)=(b.t,b.m.isNo);rw [hm];rfl
   ·have e1:=hc.len ok
    have e2:=(CR.dec ok ad' hd hc h').len ok
    show wdL (tvL T l c')=_
    rw [wdL_tvL c' hd,← e1,e2,wdL_tvL c hd]
  |bad _ hm'=>rw [hm] at hm';cases hm'
  |map0 hm'=>rw [hm] at hm';cases hm'
  |map _ _ hm'=>rw [hm] at hm';cases hm'
  |buf0 _ _ hm'=>rw [hm] at hm';cases hm'
  |bufN _ _ _ hm'=>rw [hm] at hm';cases hm'
  |buf _ _ _ _ hm'=>rw [hm] at hm';cases hm'
 |cont d =>
  obtain ⟨h1,h2,h3⟩:=MD.get_ok hb h
  refine ⟨h1.or rfl rfl,fun c' s'=>⟨?_,by rw [h2];rfl⟩⟩
  show (b.t,(d.om c').isNo)=(b.t,b.m.isNo)
  rw [h3]
  cases d<;>rfl
theorem tv_any {ad:List Nat}(ad':List Nat){d:SD}{x:d.Ty T}{a:AV}(h:VR ad (d.tv T x) a):VR ad' (d.tv T x) a:=by
 cases d<;>cases h<;>first|exact .av _ _ (by assumption)|exact .row _ _ _ (by assumption)|exact .lst _ _ _ _ (by assumption)|exact .own _ _ _
theorem CR.any {ad:List Nat}(ad':List Nat):∀{l:List SD} {x:RTy T l} {cs:List AV},CR ad (tvL T l x) cs→CR ad' (tvL T l x) cs
 | [],_,_,.nil=>.nil
 |d::l,(x,r),cs,h=>by
  simp only [tvL] at h ⊢
  generalize hv:d.tv T x=v at h
  cases h with
  |row τ y c hc _ ds hl=>exact .row τ y c hc _ _ (CR.any ad' hl)
  |one _ a ha h1 _ ds hl=>subst hv;exact .one _ _ (tv_any ad' ha) h1 _ _ (CR.any ad' hl)
theorem OD.or_any {ad:List Nat}(ad':List Nat){d:OD}{t:TypeId}{s s':Nat}{c:d.Ty T}{o:AObj}(h:OR ad (d.to T t s c) o):OR ad' (d.to T t s' c) o:=by
 cases d with
 |cells l =>
  cases h with
  |cells cs _ hc=>exact .cells cs rfl (CR.any ad' hc)
  |bad _ hm'=>cases hm'
  |map0 hm'=>cases hm'
  |map _ _ hm'=>cases hm'
  |buf0 _ _ hm'=>cases hm'
  |bufN _ _ _ hm'=>cases hm'
  |buf _ _ _ _ hm'=>cases hm'
 |cont d =>
  cases h with
  |cells cs hm' hc=>cases d<;>cases hm'
  |bad _ hm' hc=>exact .bad _ hm' rfl
  |map0 hm' _=>exact .map0 hm' rfl
  |map m l hm' _=>exact .map m l hm' rfl
  |buf0 t m hm' _=>exact .buf0 t m hm' rfl
  |bufN t e m hm' _=>exact .bufN t e m hm' rfl
  |buf l t e m hm' _ hl=>exact .buf l t e m hm' rfl hl
theorem OD.to_s {d:OD}{t:TypeId}{s:Nat}{c:d.Ty T}:(d.to T t s c).s=s:=by cases d<;>rfl
theorem takeC_bads (l:List (TV T)):∀o:Nat,takeC F (aO (o+1) .bad++l) o=some (aO o .bad)
 |0=>by simp [takeC]
 |o+1=>by
  rw [jA,gB]
  simp only [takeC,Nat.beq_eq,TV.wd]
  rw [show iC (o+1) 0=false from rfl,cond_false,show Nat.ble 1 (o+1)=true from rfl,cond_true,jL,takeC_bads l o]
  rfl
theorem dropC_bads (l:List (TV T)):∀o:Nat,dropC F (aO o .bad++l) o=some l
 |0=>by cases l<;>simp [dropC]
 |o+1=>by
  rw [jA,gB]
  simp only [dropC,TV.wd]
  rw [show iC (o+1) 0=false from rfl,cond_false,show Nat.ble 1 (o+1)=true from rfl,cond_true,jL,dropC_bads l o]
theorem putF_cells (t:TypeId):∀(l:List SD) (o s:Nat) (a:Acc T (cellLA o l)),l.all oneSD=true →
  putF F [(⟨s,aO (o+l.length) .bad,t,.no⟩:TO T)] (cellLA o l) a=some [⟨s+l.length,aO o .bad++tvL T l (unL T o l a),t,.no⟩]
 | [],o,s,a,_=>by simp [cellLA,putF,tvL]
 |d::l,o,s,(x,r),hl=>by
  rw [fO,fG] at hl
  have ih:=putF_cells t l (o+1) s r hl.2
  have hw:widD T d=1:=by cases d<;>first|rfl|(cases hl.1)
  simp only [cellLA,putF,dB]
  rw [show o+(l.length+1)=o+1+l.length by omega,ih]
  simp only [putO,List.getElem?_cons_zero,hw,putC,takeC_bads,dropC_bads]
  simp only [tvL,unL,List.set_cons_zero,List.append_assoc,List.singleton_append]
  congr 2
theorem putF_to {d:OD}(hd:d.ok=true)(t:TypeId)(s:Nat)(c:d.Ty T)(a:Acc T d.la):∃s',putF F (spoilF (Tl.cellsOf d.la) 0 [d.to T t s c]) d.la a=some [d.to T t s' (d.un T a)]:=by
 cases d with
 |cells l =>
  cases l with
  |nil=>exact ⟨s,rfl⟩
  |cons d l =>
   have hw:wdL (tvL T (d::l) c)=(d::l).length:=wdL_tvL c hd
   refine ⟨s+1+(d::l).length,?_⟩
   have:=putF_cells (F := F) t (d::l) 0 (s+1) a hd
   rw [Nat.zero_add] at this
   show putF F [(⟨s+1,aO (wdL (tvL T (d::l) c)) .bad,t,.no⟩:TO T)] (cellLA 0 (d::l)) a=_
   rw [hw,this]
   rfl
 |cont d=>exact ⟨s+1+1,by cases d<;>rfl⟩
theorem cellsOf_la:∀(o:Nat) (l:List SD) (j:Nat),inN j (Tl.cellsOf (cellLA o l))=true→j=0
 |o,[],j,h=>by cases h
 |o,d::l,j,h=>by
  simp only [cellLA,Tl.cellsOf,inN,aJ] at h
  rcases h with h|h
  ·exact (iE h).symm
  ·exact cellsOf_la (o+1) l j h
theorem OD.la0 {d:OD}{j:Nat}(h:inN j (Tl.cellsOf d.la)=true):j=0:=by
 cases d with
 |cells l=>exact cellsOf_la 0 l j h
 |cont d =>
  simp only [OD.la,Tl.cellsOf,inN,Bool.or_false] at h
  exact (iE h).symm
theorem sumE_ok (ok:TFok F){TG:Nat→Option (List (TV T))}{C:Cfg}[HasP (evalCall C)]{L:Nat}(hL:C.L=L+64)(hG:GR TG C.G){Q:QT T}(hQ:QS F (evalCall C) Q){s:SumE T}{fn:AFn}(A:List LN)(hod:s.od.ok=true)(hf:C.T s.f=some fn)(hk:fn.keep=false)
  (h:∀x c,(fnE F TG Q L fn A s.rd s.od.la (.loc 0 0::tvL T s.sig x) [s.od.to T s.ty 0 c]).map (fun p=>(p.1,s.od.un T p.2))=s.y x c):QS F (evalCall C) (eQ F [s]):=by
 intro f vs fr q hq
 simp only [eQ] at hq
 cases hb:iC s.f f with
 |false=>rw [hb,cond_false] at hq;cases hq
 |true =>
 rw [hb,cond_true] at hq
 have:=iE hb;subst this
 split at hq<;>first|(cases hq;done)|skip
 rename_i j rest
 split at hq<;>first|(cases hq;done)|skip
 rename_i b hbj
 obtain ⟨ht,hq⟩:=cond_some hq
 have ht:=iE ht
 split at hq<;>first|(cases hq;done)|skip
 rename_i c x hc hx
 cases hq
 intro E J hp0 ad hp avs hh hv r v fr' hr hg hE
 cases hg
 rw [← h x c] at hr
 obtain ⟨p,hp1,hp2⟩:=eP.1 hr
 cases hv with|cons _ a0 hv0 _ az hvr =>
 cases hv0 with|loc _ _ g hgj =>
 obtain ⟨g',ob,k1,k2,k3⟩:=hh.ob j b hbj
 rw [hgj] at k1;cases k1
 have hgl:=(hh.bd j g hgj).1
 obtain ⟨m1,m2⟩:=OD.get_ok ok hod k3 hc [g] 0
 rw [ht] at m1
 have h1:HR F [0] 1 hp [g] [s.od.to T s.ty 0 c] hp:=by
  refine ⟨fun _ _ h _=>h,dI _,rfl,fun i k g' h1 h2=>?_,fun k g' hk'=>?_,fun k b' hk'=>?_,fun k hk'=>?_⟩
  ·have e1:=(ag.1 h1).1
   have e2:=(ag.1 h2).1
   simp at e1 e2;omega
  ·have e1:=(ag.1 hk').1
   simp at e1;subst e1
   cases hk'
   exact ⟨hgl,fun h=>by omega⟩
  ·have e1:=(ag.1 hk').1
   simp at e1;subst e1
   cases hk'
   exact ⟨g,ob,rfl,k2,m1⟩
  ·have:k=0:=by
    simp only [inN,Bool.or_false] at hk'
    exact (iE hk').symm
   subst this
   exact ⟨g,rfl⟩
 have hv1:LR [g] (.loc 0 0::tvL T s.sig x) (.ptr g 0::az):=.cons _ _ (.loc _ _ g rfl) _ _ (decL_ok ok [g] hvr hx)
 obtain ⟨s',hf1⟩:=putF_to (F := F) hod s.ty 0 c p.2
 obtain ⟨a,hp',e,i1,i2,i3,i4,i5,i6⟩:=fnE_ok ok hL hG hQ hf hk hp1 h1 hv1 hf1
 have he:r.1=p.1∧r.2=s.od.un T p.2:=by rw [← hp2];exact ⟨rfl,rfl⟩
 refine ⟨a,hp',e,by rw [he.1];exact i1 ad,i2,?_,?_,?_,i6⟩
 ·
  have other:∀(g':Nat) (o:AObj),hp[g']? = some o→g'≠g→hp'[g']? = some o:=fun g' o hg' hne=>by
   refine i3.old g' o hg' fun k hk' e'=>?_
   have:=OD.la0 hk';subst this
   cases e'
   exact hne rfl
  refine ⟨fun g' o hg' hE0=>?_,dK hh.le i3.le,by rw [List.length_set];exact hh.al,hh.nd,fun k g' hk'=>⟨dM (hh.bd k g' hk').1 i3.le,(hh.bd k g' hk').2⟩,fun k b' hk'=>?_,hh.el⟩
  ·have h2:=hh.old g' o hg' hE0
   refine other g' o h2 fun e'=>?_
   subst e'
   have hm:=hE j (inN_one rfl)
   unfold mayT at hm
   rw [aJ] at hm
   rcases hm with hm|hm
   ·have:=(hh.bd j g' hgj).2 (jF hm)
    have:=(ag.1 hg').1
    omega
   ·exact hE0 j hm hgj
  ·by_cases hkj:k=j
   ·subst hkj
    rw [iy (ag.1 hbj).1] at hk'
    cases hk'
    obtain ⟨g',o,q1,q2,q3⟩:=i3.ob 0 _ rfl
    cases q1
    refine ⟨g,o,hgj,q2,?_⟩
    rw [he.2]
    rw [ht]
    exact OD.or_any ad q3
   ·rw [fQ (fun e=>hkj e.symm)] at hk'
    obtain ⟨g',o,q1,q2,q3⟩:=hh.ob k b' hk'
    refine ⟨g',o,q1,other g' o q2 fun e'=>?_,q3⟩
    subst e'
    exact hkj (hh.nd k j g' q1 hgj)
 ·intro x1 x2 hx'
  obtain ⟨k,g',q1,q2,q3⟩:=i4 x1 x2 hx'
  have:=OD.la0 q1;subst this
  cases q2
  exact ⟨j,g,inN_one rfl,hgj,q3⟩
 ·exact FGrow.cont hbj (m2 _ _).1 (m2 _ _).2 (by rw [OD.to_s];exact jI _)
theorem eQ_cons {call:CallF}[HasP call]{s:SumE T}{l:List (SumE T)}(h1:QS F call (eQ F [s]))(h2:QS F call (eQ F l)):QS F call (eQ F (s::l)):=by
 intro f vs fr q h
 simp only [eQ] at h
 cases hb:iC s.f f with
 |false=>rw [hb,cond_false] at h;exact h2 f vs fr q h
 |true =>
  rw [hb,cond_true] at h
  refine h1 f vs fr q ?_
  simp only [eQ,hb,cond_true]
  exact h
theorem eQ_nil {call:CallF}[HasP call]:QS F call (eQ (T := T) F []):=fun f vs fr q h=>by cases h
theorem sumE_none {call:CallF}[HasP call]{f ty:Nat}{od:OD}{sig:List SD}{rd:RD}:QS F call (eQ F [⟨f,ty,od,sig,rd,fun _ _=>none⟩]):=fun f' vs fr q hq=>by
 simp only [eQ] at hq
 cases hb:iC f f' with
 |false=>rw [hb,cond_false] at hq;cases hq
 |true =>
  rw [hb,cond_true] at hq
  split at hq<;>first|(cases hq;done)|skip
  split at hq<;>first|(cases hq;done)|skip
  obtain ⟨-,hq⟩:=cond_some hq
  split at hq<;>first|(cases hq;done)|skip
  cases hq
  intro E J hp0 ad hp avs hh hv r v fr' hr
  cases hr
end
end Go.Proofs.YtbcfddaocfpckaaGreatDoor.Tl
end
